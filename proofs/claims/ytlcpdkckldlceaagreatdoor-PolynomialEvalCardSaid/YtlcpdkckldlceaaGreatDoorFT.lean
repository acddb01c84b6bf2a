/-
  The types, functions and operations of the program as the walks name them.
-/
import Derived.Test.YtlcpdkckldlceaaGreatDoorChecked
import Derived.Test.YtlcpdkckldlceaaGreatDoorFB
namespace Go.Proofs.YtlcpdkckldlceaaGreatDoor
open Go.Sx

theorem tt2 : tinfo Tryz.prog 2 = some (Go.TypeDesc.int (Go.IntKind.i64), 1, 8, (.int .i64 0)) := by kernel_rfl
theorem tt3 : tinfo Tryz.prog 3 = some (Go.TypeDesc.int (Go.IntKind.i64), 1, 8, (.int .i64 0)) := by kernel_rfl
theorem tt4 : tinfo Tryz.prog 4 = some (Go.TypeDesc.bool, 1, 1, (.bool false)) := by kernel_rfl
theorem tt5 : tinfo Tryz.prog 5 = some (Go.TypeDesc.int (Go.IntKind.u8), 1, 1, (.int .u8 0)) := by kernel_rfl
theorem tt9 : tinfo Tryz.prog 9 = some (Go.TypeDesc.string, 1, 16, (.string ⟨#[]⟩)) := by kernel_rfl
theorem tt20 : tinfo Tryz.prog 20 = some (Go.TypeDesc.interface #[], 1, 16, .nilIface) := by kernel_rfl
theorem tt21 : tinfo Tryz.prog 21 = some (Go.TypeDesc.int (Go.IntKind.i32), 1, 4, (.int .i32 0)) := by kernel_rfl
theorem tt22 : tinfo Tryz.prog 22 = some (Go.TypeDesc.map 90 49, 1, 8, (.map none)) := by kernel_rfl
theorem tt24 : tinfo Tryz.prog 24 = some (Go.TypeDesc.struct #[{ name := "terms", type := 22, offset := 0, embedded := false, tag := "", pkgPath := "palmette/polynomial", byteOffset := 0 }], 1, 8, (.agg #[(.map none)])) := by kernel_rfl
theorem tt25 : tinfo Tryz.prog 25 = some (Go.TypeDesc.int (Go.IntKind.i64), 1, 8, (.int .i64 0)) := by kernel_rfl
theorem tt29 : tinfo Tryz.prog 29 = some (Go.TypeDesc.slice 104, 1, 24, (.slice none 0 0)) := by kernel_rfl
theorem tt36 : tinfo Tryz.prog 36 = some (Go.TypeDesc.slice 70, 1, 24, (.slice none 0 0)) := by kernel_rfl
theorem tt45 : tinfo Tryz.prog 45 = some (Go.TypeDesc.int (Go.IntKind.u16), 1, 2, (.int .u16 0)) := by kernel_rfl
theorem tt46 : tinfo Tryz.prog 46 = some (Go.TypeDesc.array 2 45, 2, 4, (.agg #[(.int .u16 0), (.int .u16 0)])) := by kernel_rfl
theorem tt47 : tinfo Tryz.prog 47 = some (Go.TypeDesc.slice 68, 1, 24, (.slice none 0 0)) := by kernel_rfl
theorem tt49 : tinfo Tryz.prog 49 = some (Go.TypeDesc.struct #[{ name := "w", type := 47, offset := 0, embedded := false, tag := "", pkgPath := "palmette/bignat", byteOffset := 0 }], 1, 24, (.agg #[(.slice none 0 0)])) := by kernel_rfl
theorem tt51 : tinfo Tryz.prog 51 = some (Go.TypeDesc.int (Go.IntKind.u64), 1, 8, (.int .u64 0)) := by kernel_rfl
theorem tt54 : tinfo Tryz.prog 54 = some (Go.TypeDesc.slice 3, 1, 24, (.slice none 0 0)) := by kernel_rfl
theorem tt55 : tinfo Tryz.prog 55 = some (Go.TypeDesc.slice 3, 1, 24, (.slice none 0 0)) := by kernel_rfl
theorem tt62 : tinfo Tryz.prog 62 = some (Go.TypeDesc.array 2 3, 2, 16, (.agg #[(.int .i64 0), (.int .i64 0)])) := by kernel_rfl
theorem tt68 : tinfo Tryz.prog 68 = some (Go.TypeDesc.int (Go.IntKind.u32), 1, 4, (.int .u32 0)) := by kernel_rfl
theorem tt70 : tinfo Tryz.prog 70 = some (Go.TypeDesc.struct #[{ name := "N", type := 68, offset := 0, embedded := false, tag := "", pkgPath := "", byteOffset := 0 }, { name := "A", type := 45, offset := 1, embedded := false, tag := "", pkgPath := "", byteOffset := 4 }, { name := "B", type := 45, offset := 2, embedded := false, tag := "", pkgPath := "", byteOffset := 6 }], 3, 8, (.agg #[(.int .u32 0), (.int .u16 0), (.int .u16 0)])) := by kernel_rfl
theorem tt76 : tinfo Tryz.prog 76 = some (Go.TypeDesc.struct #[], 0, 0, (.agg #[])) := by kernel_rfl
theorem tt81 : tinfo Tryz.prog 81 = some (Go.TypeDesc.slice 49, 1, 24, (.slice none 0 0)) := by kernel_rfl
theorem tt83 : tinfo Tryz.prog 83 = some (Go.TypeDesc.slice 55, 1, 24, (.slice none 0 0)) := by kernel_rfl
theorem tt86 : tinfo Tryz.prog 86 = some (Go.TypeDesc.slice 9, 1, 24, (.slice none 0 0)) := by kernel_rfl
theorem tt87 : tinfo Tryz.prog 87 = some (Go.TypeDesc.slice 90, 1, 24, (.slice none 0 0)) := by kernel_rfl
theorem tt90 : tinfo Tryz.prog 90 = some (Go.TypeDesc.struct #[{ name := "a", type := 3, offset := 0, embedded := false, tag := "", pkgPath := "palmette/polynomial", byteOffset := 0 }, { name := "b", type := 3, offset := 1, embedded := false, tag := "", pkgPath := "palmette/polynomial", byteOffset := 8 }], 2, 16, (.agg #[(.int .i64 0), (.int .i64 0)])) := by kernel_rfl
theorem tt93 : tinfo Tryz.prog 93 = some (Go.TypeDesc.func #[90, 90] #[3] false, 1, 8, .nilFunc) := by kernel_rfl
theorem tt95 : tinfo Tryz.prog 95 = some (Go.TypeDesc.func #[90] #[4] false, 1, 8, .nilFunc) := by kernel_rfl
theorem tt104 : tinfo Tryz.prog 104 = some (Go.TypeDesc.struct #[{ name := "N", type := 55, offset := 0, embedded := false, tag := "", pkgPath := "", byteOffset := 0 }, { name := "A", type := 3, offset := 1, embedded := false, tag := "", pkgPath := "", byteOffset := 24 }, { name := "B", type := 3, offset := 2, embedded := false, tag := "", pkgPath := "", byteOffset := 32 }], 3, 40, (.agg #[(.slice none 0 0), (.int .i64 0), (.int .i64 0)])) := by kernel_rfl
theorem tt113 : tinfo Tryz.prog 113 = some (Go.TypeDesc.slice 24, 1, 24, (.slice none 0 0)) := by kernel_rfl
theorem tt117 : tinfo Tryz.prog 117 = some (Go.TypeDesc.int (Go.IntKind.u64), 1, 8, (.int .u64 0)) := by kernel_rfl
theorem tt124 : tinfo Tryz.prog 124 = some (Go.TypeDesc.slice 5, 1, 24, (.slice none 0 0)) := by kernel_rfl
theorem tt129 : tinfo Tryz.prog 129 = some (Go.TypeDesc.func #[3, 51] #[68, 51] false, 1, 8, .nilFunc) := by kernel_rfl
theorem tt131 : tinfo Tryz.prog 131 = some (Go.TypeDesc.pointer 3, 1, 8, (.pointer none)) := by kernel_rfl
theorem tt132 : tinfo Tryz.prog 132 = some (Go.TypeDesc.struct #[{ name := "mark", type := 9, offset := 0, embedded := false, tag := "", pkgPath := "palmette/polynomial", byteOffset := 0 }, { name := "n", type := 131, offset := 1, embedded := false, tag := "", pkgPath := "palmette/polynomial", byteOffset := 16 }], 2, 24, (.agg #[(.string ⟨#[]⟩), (.pointer none)])) := by kernel_rfl
theorem tt133 : tinfo Tryz.prog 133 = some (Go.TypeDesc.slice 132, 1, 24, (.slice none 0 0)) := by kernel_rfl
theorem tt136 : tinfo Tryz.prog 136 = some (Go.TypeDesc.interface #[("Error", 34)], 1, 16, .nilIface) := by kernel_rfl
theorem tt146 : tinfo Tryz.prog 146 = some (Go.TypeDesc.pointer 148, 1, 8, (.pointer none)) := by kernel_rfl
theorem tt148 : tinfo Tryz.prog 148 = some (Go.TypeDesc.struct #[{ name := "addr", type := 146, offset := 0, embedded := false, tag := "", pkgPath := "strings", byteOffset := 0 }, { name := "buf", type := 124, offset := 1, embedded := false, tag := "", pkgPath := "strings", byteOffset := 8 }], 2, 32, (.agg #[(.pointer none), (.slice none 0 0)])) := by kernel_rfl
theorem tt151 : tinfo Tryz.prog 151 = some (Go.TypeDesc.func #[173] #[] false, 1, 8, .nilFunc) := by kernel_rfl
theorem tt152 : tinfo Tryz.prog 152 = some (Go.TypeDesc.func #[173] #[] false, 1, 8, .nilFunc) := by kernel_rfl
-- type 163 strings.asciiSet: passed over
theorem tt167 : tinfo Tryz.prog 167 = some (Go.TypeDesc.pointer 163, 1, 8, (.pointer none)) := by kernel_rfl
theorem tt172 : tinfo Tryz.prog 172 = some (Go.TypeDesc.pointer 5, 1, 8, (.pointer none)) := by kernel_rfl
theorem tt173 : tinfo Tryz.prog 173 = some (Go.TypeDesc.func #[3, 68] #[4] false, 1, 8, .nilFunc) := by kernel_rfl
theorem tt174 : tinfo Tryz.prog 174 = some (Go.TypeDesc.array 24 5, 24, 24, (.agg #[(.int .u8 0), (.int .u8 0), (.int .u8 0), (.int .u8 0), (.int .u8 0), (.int .u8 0), (.int .u8 0), (.int .u8 0), (.int .u8 0), (.int .u8 0), (.int .u8 0), (.int .u8 0), (.int .u8 0), (.int .u8 0), (.int .u8 0), (.int .u8 0), (.int .u8 0), (.int .u8 0), (.int .u8 0), (.int .u8 0), (.int .u8 0), (.int .u8 0), (.int .u8 0), (.int .u8 0)])) := by kernel_rfl
theorem tt187 : tinfo Tryz.prog 187 = some (Go.TypeDesc.int (Go.IntKind.i64), 1, 8, (.int .i64 0)) := by kernel_rfl
theorem tt190 : tinfo Tryz.prog 190 = some (Go.TypeDesc.pointer 214, 1, 8, (.pointer none)) := by kernel_rfl
theorem tt196 : tinfo Tryz.prog 196 = some (Go.TypeDesc.int (Go.IntKind.i64), 1, 8, (.int .i64 0)) := by kernel_rfl
theorem tt203 : tinfo Tryz.prog 203 = some (Go.TypeDesc.unsafePointer, 1, 8, (.pointer none)) := by kernel_rfl
theorem tt208 : tinfo Tryz.prog 208 = some (Go.TypeDesc.array 20 51, 20, 160, (.agg #[(.int .u64 0), (.int .u64 0), (.int .u64 0), (.int .u64 0), (.int .u64 0), (.int .u64 0), (.int .u64 0), (.int .u64 0), (.int .u64 0), (.int .u64 0), (.int .u64 0), (.int .u64 0), (.int .u64 0), (.int .u64 0), (.int .u64 0), (.int .u64 0), (.int .u64 0), (.int .u64 0), (.int .u64 0), (.int .u64 0)])) := by kernel_rfl
theorem tt209 : tinfo Tryz.prog 209 = some (Go.TypeDesc.array 65 5, 65, 65, (.agg #[(.int .u8 0), (.int .u8 0), (.int .u8 0), (.int .u8 0), (.int .u8 0), (.int .u8 0), (.int .u8 0), (.int .u8 0), (.int .u8 0), (.int .u8 0), (.int .u8 0), (.int .u8 0), (.int .u8 0), (.int .u8 0), (.int .u8 0), (.int .u8 0), (.int .u8 0), (.int .u8 0), (.int .u8 0), (.int .u8 0), (.int .u8 0), (.int .u8 0), (.int .u8 0), (.int .u8 0), (.int .u8 0), (.int .u8 0), (.int .u8 0), (.int .u8 0), (.int .u8 0), (.int .u8 0), (.int .u8 0), (.int .u8 0), (.int .u8 0), (.int .u8 0), (.int .u8 0), (.int .u8 0), (.int .u8 0), (.int .u8 0), (.int .u8 0), (.int .u8 0), (.int .u8 0), (.int .u8 0), (.int .u8 0), (.int .u8 0), (.int .u8 0), (.int .u8 0), (.int .u8 0), (.int .u8 0), (.int .u8 0), (.int .u8 0), (.int .u8 0), (.int .u8 0), (.int .u8 0), (.int .u8 0), (.int .u8 0), (.int .u8 0), (.int .u8 0), (.int .u8 0), (.int .u8 0), (.int .u8 0), (.int .u8 0), (.int .u8 0), (.int .u8 0), (.int .u8 0), (.int .u8 0)])) := by kernel_rfl
theorem tt214 : tinfo Tryz.prog 214 = some (Go.TypeDesc.struct #[{ name := "Func", type := 9, offset := 0, embedded := false, tag := "", pkgPath := "", byteOffset := 0 }, { name := "Num", type := 9, offset := 1, embedded := false, tag := "", pkgPath := "", byteOffset := 16 }, { name := "Err", type := 136, offset := 2, embedded := false, tag := "", pkgPath := "", byteOffset := 32 }], 3, 48, (.agg #[(.string ⟨#[]⟩), (.string ⟨#[]⟩), .nilIface])) := by kernel_rfl
theorem tt217 : tinfo Tryz.prog 217 = some (Go.TypeDesc.int (Go.IntKind.u64), 1, 8, (.int .u64 0)) := by kernel_rfl
-- type 222 [256]uint8: passed over
theorem tt224 : tinfo Tryz.prog 224 = some (Go.TypeDesc.struct #[{ name := "lo", type := 5, offset := 0, embedded := false, tag := "", pkgPath := "unicode/utf8", byteOffset := 0 }, { name := "hi", type := 5, offset := 1, embedded := false, tag := "", pkgPath := "unicode/utf8", byteOffset := 1 }], 2, 2, (.agg #[(.int .u8 0), (.int .u8 0)])) := by kernel_rfl
theorem tt225 : tinfo Tryz.prog 225 = some (Go.TypeDesc.array 16 224, 32, 32, (.agg #[(.int .u8 0), (.int .u8 0), (.int .u8 0), (.int .u8 0), (.int .u8 0), (.int .u8 0), (.int .u8 0), (.int .u8 0), (.int .u8 0), (.int .u8 0), (.int .u8 0), (.int .u8 0), (.int .u8 0), (.int .u8 0), (.int .u8 0), (.int .u8 0), (.int .u8 0), (.int .u8 0), (.int .u8 0), (.int .u8 0), (.int .u8 0), (.int .u8 0), (.int .u8 0), (.int .u8 0), (.int .u8 0), (.int .u8 0), (.int .u8 0), (.int .u8 0), (.int .u8 0), (.int .u8 0), (.int .u8 0), (.int .u8 0)])) := by kernel_rfl
theorem tt228 : tinfo Tryz.prog 228 = some (Go.TypeDesc.pointer 230, 1, 8, (.pointer none)) := by kernel_rfl
theorem tt230 : tinfo Tryz.prog 230 = some (Go.TypeDesc.struct #[{ name := "s", type := 9, offset := 0, embedded := false, tag := "", pkgPath := "errors", byteOffset := 0 }], 1, 16, (.agg #[(.string ⟨#[]⟩)])) := by kernel_rfl
theorem tt232 : tinfo Tryz.prog 232 = some (Go.TypeDesc.pointer 217, 1, 8, (.pointer none)) := by kernel_rfl
theorem tt234 : tinfo Tryz.prog 234 = some (Go.TypeDesc.array 32 5, 32, 32, (.agg #[(.int .u8 0), (.int .u8 0), (.int .u8 0), (.int .u8 0), (.int .u8 0), (.int .u8 0), (.int .u8 0), (.int .u8 0), (.int .u8 0), (.int .u8 0), (.int .u8 0), (.int .u8 0), (.int .u8 0), (.int .u8 0), (.int .u8 0), (.int .u8 0), (.int .u8 0), (.int .u8 0), (.int .u8 0), (.int .u8 0), (.int .u8 0), (.int .u8 0), (.int .u8 0), (.int .u8 0), (.int .u8 0), (.int .u8 0), (.int .u8 0), (.int .u8 0), (.int .u8 0), (.int .u8 0), (.int .u8 0), (.int .u8 0)])) := by kernel_rfl
theorem tt235 : tinfo Tryz.prog 235 = some (Go.TypeDesc.array 64 5, 64, 64, (.agg #[(.int .u8 0), (.int .u8 0), (.int .u8 0), (.int .u8 0), (.int .u8 0), (.int .u8 0), (.int .u8 0), (.int .u8 0), (.int .u8 0), (.int .u8 0), (.int .u8 0), (.int .u8 0), (.int .u8 0), (.int .u8 0), (.int .u8 0), (.int .u8 0), (.int .u8 0), (.int .u8 0), (.int .u8 0), (.int .u8 0), (.int .u8 0), (.int .u8 0), (.int .u8 0), (.int .u8 0), (.int .u8 0), (.int .u8 0), (.int .u8 0), (.int .u8 0), (.int .u8 0), (.int .u8 0), (.int .u8 0), (.int .u8 0), (.int .u8 0), (.int .u8 0), (.int .u8 0), (.int .u8 0), (.int .u8 0), (.int .u8 0), (.int .u8 0), (.int .u8 0), (.int .u8 0), (.int .u8 0), (.int .u8 0), (.int .u8 0), (.int .u8 0), (.int .u8 0), (.int .u8 0), (.int .u8 0), (.int .u8 0), (.int .u8 0), (.int .u8 0), (.int .u8 0), (.int .u8 0), (.int .u8 0), (.int .u8 0), (.int .u8 0), (.int .u8 0), (.int .u8 0), (.int .u8 0), (.int .u8 0), (.int .u8 0), (.int .u8 0), (.int .u8 0), (.int .u8 0)])) := by kernel_rfl
theorem fo24_0 : foff Tryz.prog 24 0 = some 0 := by kernel_rfl
theorem fo49_0 : foff Tryz.prog 49 0 = some 0 := by kernel_rfl
theorem fo70_0 : foff Tryz.prog 70 0 = some 0 := by kernel_rfl
theorem fo70_1 : foff Tryz.prog 70 1 = some 1 := by kernel_rfl
theorem fo70_2 : foff Tryz.prog 70 2 = some 2 := by kernel_rfl
theorem fo90_0 : foff Tryz.prog 90 0 = some 0 := by kernel_rfl
theorem fo90_1 : foff Tryz.prog 90 1 = some 1 := by kernel_rfl
theorem fo104_0 : foff Tryz.prog 104 0 = some 0 := by kernel_rfl
theorem fo104_1 : foff Tryz.prog 104 1 = some 1 := by kernel_rfl
theorem fo104_2 : foff Tryz.prog 104 2 = some 2 := by kernel_rfl
theorem fo132_0 : foff Tryz.prog 132 0 = some 0 := by kernel_rfl
theorem fo132_1 : foff Tryz.prog 132 1 = some 1 := by kernel_rfl
theorem fo148_0 : foff Tryz.prog 148 0 = some 0 := by kernel_rfl
theorem fo148_1 : foff Tryz.prog 148 1 = some 1 := by kernel_rfl
theorem fo224_0 : foff Tryz.prog 224 0 = some 0 := by kernel_rfl
theorem fo224_1 : foff Tryz.prog 224 1 = some 1 := by kernel_rfl
theorem pl24 : ((#[{ name := "terms", type := 22, offset := 0, embedded := false, tag := "", pkgPath := "palmette/polynomial", byteOffset := 0 }] : Array Field).toList.map fun f => (f.offset, ((Tryz.prog.info? f.type).map (·.size)).getD 0)) = [(0, 1)] := by kernel_rfl
theorem pz24 : ((#[{ name := "terms", type := 22, offset := 0, embedded := false, tag := "", pkgPath := "palmette/polynomial", byteOffset := 0 }] : Array Field).toList.all fun f => (Tryz.prog.info? f.type).isSome) = true := by kernel_rfl
theorem pl49 : ((#[{ name := "w", type := 47, offset := 0, embedded := false, tag := "", pkgPath := "palmette/bignat", byteOffset := 0 }] : Array Field).toList.map fun f => (f.offset, ((Tryz.prog.info? f.type).map (·.size)).getD 0)) = [(0, 1)] := by kernel_rfl
theorem pz49 : ((#[{ name := "w", type := 47, offset := 0, embedded := false, tag := "", pkgPath := "palmette/bignat", byteOffset := 0 }] : Array Field).toList.all fun f => (Tryz.prog.info? f.type).isSome) = true := by kernel_rfl
theorem pl70 : ((#[{ name := "N", type := 68, offset := 0, embedded := false, tag := "", pkgPath := "", byteOffset := 0 }, { name := "A", type := 45, offset := 1, embedded := false, tag := "", pkgPath := "", byteOffset := 4 }, { name := "B", type := 45, offset := 2, embedded := false, tag := "", pkgPath := "", byteOffset := 6 }] : Array Field).toList.map fun f => (f.offset, ((Tryz.prog.info? f.type).map (·.size)).getD 0)) = [(0, 1), (1, 1), (2, 1)] := by kernel_rfl
theorem pz70 : ((#[{ name := "N", type := 68, offset := 0, embedded := false, tag := "", pkgPath := "", byteOffset := 0 }, { name := "A", type := 45, offset := 1, embedded := false, tag := "", pkgPath := "", byteOffset := 4 }, { name := "B", type := 45, offset := 2, embedded := false, tag := "", pkgPath := "", byteOffset := 6 }] : Array Field).toList.all fun f => (Tryz.prog.info? f.type).isSome) = true := by kernel_rfl
theorem pl76 : ((#[] : Array Field).toList.map fun f => (f.offset, ((Tryz.prog.info? f.type).map (·.size)).getD 0)) = [] := by kernel_rfl
theorem pz76 : ((#[] : Array Field).toList.all fun f => (Tryz.prog.info? f.type).isSome) = true := by kernel_rfl
theorem pl90 : ((#[{ name := "a", type := 3, offset := 0, embedded := false, tag := "", pkgPath := "palmette/polynomial", byteOffset := 0 }, { name := "b", type := 3, offset := 1, embedded := false, tag := "", pkgPath := "palmette/polynomial", byteOffset := 8 }] : Array Field).toList.map fun f => (f.offset, ((Tryz.prog.info? f.type).map (·.size)).getD 0)) = [(0, 1), (1, 1)] := by kernel_rfl
theorem pz90 : ((#[{ name := "a", type := 3, offset := 0, embedded := false, tag := "", pkgPath := "palmette/polynomial", byteOffset := 0 }, { name := "b", type := 3, offset := 1, embedded := false, tag := "", pkgPath := "palmette/polynomial", byteOffset := 8 }] : Array Field).toList.all fun f => (Tryz.prog.info? f.type).isSome) = true := by kernel_rfl
theorem pl104 : ((#[{ name := "N", type := 55, offset := 0, embedded := false, tag := "", pkgPath := "", byteOffset := 0 }, { name := "A", type := 3, offset := 1, embedded := false, tag := "", pkgPath := "", byteOffset := 24 }, { name := "B", type := 3, offset := 2, embedded := false, tag := "", pkgPath := "", byteOffset := 32 }] : Array Field).toList.map fun f => (f.offset, ((Tryz.prog.info? f.type).map (·.size)).getD 0)) = [(0, 1), (1, 1), (2, 1)] := by kernel_rfl
theorem pz104 : ((#[{ name := "N", type := 55, offset := 0, embedded := false, tag := "", pkgPath := "", byteOffset := 0 }, { name := "A", type := 3, offset := 1, embedded := false, tag := "", pkgPath := "", byteOffset := 24 }, { name := "B", type := 3, offset := 2, embedded := false, tag := "", pkgPath := "", byteOffset := 32 }] : Array Field).toList.all fun f => (Tryz.prog.info? f.type).isSome) = true := by kernel_rfl
theorem pl132 : ((#[{ name := "mark", type := 9, offset := 0, embedded := false, tag := "", pkgPath := "palmette/polynomial", byteOffset := 0 }, { name := "n", type := 131, offset := 1, embedded := false, tag := "", pkgPath := "palmette/polynomial", byteOffset := 16 }] : Array Field).toList.map fun f => (f.offset, ((Tryz.prog.info? f.type).map (·.size)).getD 0)) = [(0, 1), (1, 1)] := by kernel_rfl
theorem pz132 : ((#[{ name := "mark", type := 9, offset := 0, embedded := false, tag := "", pkgPath := "palmette/polynomial", byteOffset := 0 }, { name := "n", type := 131, offset := 1, embedded := false, tag := "", pkgPath := "palmette/polynomial", byteOffset := 16 }] : Array Field).toList.all fun f => (Tryz.prog.info? f.type).isSome) = true := by kernel_rfl
theorem pl148 : ((#[{ name := "addr", type := 146, offset := 0, embedded := false, tag := "", pkgPath := "strings", byteOffset := 0 }, { name := "buf", type := 124, offset := 1, embedded := false, tag := "", pkgPath := "strings", byteOffset := 8 }] : Array Field).toList.map fun f => (f.offset, ((Tryz.prog.info? f.type).map (·.size)).getD 0)) = [(0, 1), (1, 1)] := by kernel_rfl
theorem pz148 : ((#[{ name := "addr", type := 146, offset := 0, embedded := false, tag := "", pkgPath := "strings", byteOffset := 0 }, { name := "buf", type := 124, offset := 1, embedded := false, tag := "", pkgPath := "strings", byteOffset := 8 }] : Array Field).toList.all fun f => (Tryz.prog.info? f.type).isSome) = true := by kernel_rfl
theorem pl214 : ((#[{ name := "Func", type := 9, offset := 0, embedded := false, tag := "", pkgPath := "", byteOffset := 0 }, { name := "Num", type := 9, offset := 1, embedded := false, tag := "", pkgPath := "", byteOffset := 16 }, { name := "Err", type := 136, offset := 2, embedded := false, tag := "", pkgPath := "", byteOffset := 32 }] : Array Field).toList.map fun f => (f.offset, ((Tryz.prog.info? f.type).map (·.size)).getD 0)) = [(0, 1), (1, 1), (2, 1)] := by kernel_rfl
theorem pz214 : ((#[{ name := "Func", type := 9, offset := 0, embedded := false, tag := "", pkgPath := "", byteOffset := 0 }, { name := "Num", type := 9, offset := 1, embedded := false, tag := "", pkgPath := "", byteOffset := 16 }, { name := "Err", type := 136, offset := 2, embedded := false, tag := "", pkgPath := "", byteOffset := 32 }] : Array Field).toList.all fun f => (Tryz.prog.info? f.type).isSome) = true := by kernel_rfl
theorem pl224 : ((#[{ name := "lo", type := 5, offset := 0, embedded := false, tag := "", pkgPath := "unicode/utf8", byteOffset := 0 }, { name := "hi", type := 5, offset := 1, embedded := false, tag := "", pkgPath := "unicode/utf8", byteOffset := 1 }] : Array Field).toList.map fun f => (f.offset, ((Tryz.prog.info? f.type).map (·.size)).getD 0)) = [(0, 1), (1, 1)] := by kernel_rfl
theorem pz224 : ((#[{ name := "lo", type := 5, offset := 0, embedded := false, tag := "", pkgPath := "unicode/utf8", byteOffset := 0 }, { name := "hi", type := 5, offset := 1, embedded := false, tag := "", pkgPath := "unicode/utf8", byteOffset := 1 }] : Array Field).toList.all fun f => (Tryz.prog.info? f.type).isSome) = true := by kernel_rfl
theorem pl230 : ((#[{ name := "s", type := 9, offset := 0, embedded := false, tag := "", pkgPath := "errors", byteOffset := 0 }] : Array Field).toList.map fun f => (f.offset, ((Tryz.prog.info? f.type).map (·.size)).getD 0)) = [(0, 1)] := by kernel_rfl
theorem pz230 : ((#[{ name := "s", type := 9, offset := 0, embedded := false, tag := "", pkgPath := "errors", byteOffset := 0 }] : Array Field).toList.all fun f => (Tryz.prog.info? f.type).isSome) = true := by kernel_rfl
theorem cc12 : callable Tryz.prog 12 = true := by kernel_rfl
theorem cc13 : callable Tryz.prog 13 = true := by kernel_rfl
theorem cc14 : callable Tryz.prog 14 = true := by kernel_rfl
theorem cc15 : callable Tryz.prog 15 = true := by kernel_rfl
theorem cc16 : callable Tryz.prog 16 = true := by kernel_rfl
theorem cc17 : callable Tryz.prog 17 = true := by kernel_rfl
theorem cc18 : callable Tryz.prog 18 = true := by kernel_rfl
theorem cc19 : callable Tryz.prog 19 = true := by kernel_rfl
theorem cc20 : callable Tryz.prog 20 = true := by kernel_rfl
theorem cc21 : callable Tryz.prog 21 = true := by kernel_rfl
theorem cc22 : callable Tryz.prog 22 = true := by kernel_rfl
theorem cc23 : callable Tryz.prog 23 = true := by kernel_rfl
theorem cc24 : callable Tryz.prog 24 = true := by kernel_rfl
theorem cc25 : callable Tryz.prog 25 = true := by kernel_rfl
theorem cc26 : callable Tryz.prog 26 = true := by kernel_rfl
theorem cc27 : callable Tryz.prog 27 = true := by kernel_rfl
theorem cc28 : callable Tryz.prog 28 = true := by kernel_rfl
theorem cc29 : callable Tryz.prog 29 = true := by kernel_rfl
theorem cc30 : callable Tryz.prog 30 = true := by kernel_rfl
theorem cc31 : callable Tryz.prog 31 = true := by kernel_rfl
theorem cc32 : callable Tryz.prog 32 = true := by kernel_rfl
theorem cc33 : callable Tryz.prog 33 = true := by kernel_rfl
theorem cc34 : callable Tryz.prog 34 = true := by kernel_rfl
theorem cc35 : callable Tryz.prog 35 = true := by kernel_rfl
theorem cc36 : callable Tryz.prog 36 = true := by kernel_rfl
theorem cc37 : callable Tryz.prog 37 = true := by kernel_rfl
theorem cc38 : callable Tryz.prog 38 = true := by kernel_rfl
theorem cc39 : callable Tryz.prog 39 = true := by kernel_rfl
theorem cc40 : callable Tryz.prog 40 = true := by kernel_rfl
theorem cc41 : callable Tryz.prog 41 = true := by kernel_rfl
theorem cc42 : callable Tryz.prog 42 = true := by kernel_rfl
theorem cc43 : callable Tryz.prog 43 = true := by kernel_rfl
theorem cc44 : callable Tryz.prog 44 = true := by kernel_rfl
theorem cc45 : callable Tryz.prog 45 = true := by kernel_rfl
theorem cc46 : callable Tryz.prog 46 = true := by kernel_rfl
theorem cc47 : callable Tryz.prog 47 = true := by kernel_rfl
theorem cc48 : callable Tryz.prog 48 = true := by kernel_rfl
theorem cc49 : callable Tryz.prog 49 = true := by kernel_rfl
theorem cc50 : callable Tryz.prog 50 = true := by kernel_rfl
theorem cc51 : callable Tryz.prog 51 = true := by kernel_rfl
theorem cc52 : callable Tryz.prog 52 = true := by kernel_rfl
theorem cc53 : callable Tryz.prog 53 = true := by kernel_rfl
theorem cc54 : callable Tryz.prog 54 = true := by kernel_rfl
theorem cc56 : callable Tryz.prog 56 = true := by kernel_rfl
theorem cc57 : callable Tryz.prog 57 = true := by kernel_rfl
theorem cc58 : callable Tryz.prog 58 = true := by kernel_rfl
theorem cc59 : callable Tryz.prog 59 = true := by kernel_rfl
theorem cc60 : callable Tryz.prog 60 = true := by kernel_rfl
theorem cc61 : callable Tryz.prog 61 = true := by kernel_rfl
theorem cc62 : callable Tryz.prog 62 = true := by kernel_rfl
theorem cc63 : callable Tryz.prog 63 = true := by kernel_rfl
theorem cc64 : callable Tryz.prog 64 = true := by kernel_rfl
theorem cc65 : callable Tryz.prog 65 = true := by kernel_rfl
theorem cc66 : callable Tryz.prog 66 = true := by kernel_rfl
theorem cc67 : callable Tryz.prog 67 = true := by kernel_rfl
theorem cc68 : callable Tryz.prog 68 = true := by kernel_rfl
theorem cc69 : callable Tryz.prog 69 = true := by kernel_rfl
theorem cc70 : callable Tryz.prog 70 = true := by kernel_rfl
theorem cc71 : callable Tryz.prog 71 = true := by kernel_rfl
theorem cc72 : callable Tryz.prog 72 = true := by kernel_rfl
theorem cc73 : callable Tryz.prog 73 = true := by kernel_rfl
theorem cc74 : callable Tryz.prog 74 = true := by kernel_rfl
theorem cc75 : callable Tryz.prog 75 = true := by kernel_rfl
theorem cc76 : callable Tryz.prog 76 = true := by kernel_rfl
theorem cc77 : callable Tryz.prog 77 = true := by kernel_rfl
theorem cc78 : callable Tryz.prog 78 = true := by kernel_rfl
theorem cc79 : callable Tryz.prog 79 = true := by kernel_rfl
theorem cc80 : callable Tryz.prog 80 = true := by kernel_rfl
theorem cc81 : callable Tryz.prog 81 = true := by kernel_rfl
theorem cc82 : callable Tryz.prog 82 = true := by kernel_rfl
theorem cc83 : callable Tryz.prog 83 = true := by kernel_rfl
theorem cc84 : callable Tryz.prog 84 = true := by kernel_rfl
theorem cc85 : callable Tryz.prog 85 = true := by kernel_rfl
theorem cc86 : callable Tryz.prog 86 = true := by kernel_rfl
theorem cc87 : callable Tryz.prog 87 = true := by kernel_rfl
theorem cc88 : callable Tryz.prog 88 = true := by kernel_rfl
theorem cc89 : callable Tryz.prog 89 = true := by kernel_rfl
theorem cc90 : callable Tryz.prog 90 = true := by kernel_rfl
theorem cc91 : callable Tryz.prog 91 = true := by kernel_rfl
theorem cc92 : callable Tryz.prog 92 = true := by kernel_rfl
theorem cc93 : callable Tryz.prog 93 = true := by kernel_rfl
theorem cc94 : callable Tryz.prog 94 = true := by kernel_rfl
theorem cc95 : callable Tryz.prog 95 = true := by kernel_rfl
theorem cc96 : callable Tryz.prog 96 = true := by kernel_rfl
theorem cc97 : callable Tryz.prog 97 = true := by kernel_rfl
theorem cc98 : callable Tryz.prog 98 = true := by kernel_rfl
theorem cc99 : callable Tryz.prog 99 = true := by kernel_rfl
theorem cc100 : callable Tryz.prog 100 = true := by kernel_rfl
theorem cc101 : callable Tryz.prog 101 = true := by kernel_rfl
theorem cc102 : callable Tryz.prog 102 = true := by kernel_rfl
theorem cc103 : callable Tryz.prog 103 = true := by kernel_rfl
theorem cc104 : callable Tryz.prog 104 = true := by kernel_rfl
theorem cc105 : callable Tryz.prog 105 = true := by kernel_rfl
theorem cc106 : callable Tryz.prog 106 = true := by kernel_rfl
theorem cc107 : callable Tryz.prog 107 = true := by kernel_rfl
theorem cc108 : callable Tryz.prog 108 = true := by kernel_rfl
theorem cc109 : callable Tryz.prog 109 = true := by kernel_rfl
theorem cc110 : callable Tryz.prog 110 = true := by kernel_rfl
theorem cc111 : callable Tryz.prog 111 = true := by kernel_rfl
theorem cc112 : callable Tryz.prog 112 = true := by kernel_rfl
theorem cc113 : callable Tryz.prog 113 = true := by kernel_rfl
theorem cc114 : callable Tryz.prog 114 = true := by kernel_rfl
theorem cc115 : callable Tryz.prog 115 = true := by kernel_rfl
theorem cc116 : callable Tryz.prog 116 = true := by kernel_rfl
theorem cc117 : callable Tryz.prog 117 = true := by kernel_rfl
theorem cc118 : callable Tryz.prog 118 = true := by kernel_rfl
theorem cc119 : callable Tryz.prog 119 = true := by kernel_rfl
theorem cc120 : callable Tryz.prog 120 = true := by kernel_rfl
theorem cc121 : callable Tryz.prog 121 = true := by kernel_rfl
theorem cc122 : callable Tryz.prog 122 = true := by kernel_rfl
theorem cc123 : callable Tryz.prog 123 = true := by kernel_rfl
theorem cc124 : callable Tryz.prog 124 = true := by kernel_rfl
theorem cc125 : callable Tryz.prog 125 = true := by kernel_rfl
theorem cc126 : callable Tryz.prog 126 = true := by kernel_rfl
theorem cc127 : callable Tryz.prog 127 = true := by kernel_rfl
theorem cc128 : callable Tryz.prog 128 = true := by kernel_rfl
theorem cc129 : callable Tryz.prog 129 = true := by kernel_rfl
theorem cc130 : callable Tryz.prog 130 = true := by kernel_rfl
theorem cc131 : callable Tryz.prog 131 = true := by kernel_rfl
theorem cc132 : callable Tryz.prog 132 = true := by kernel_rfl
theorem cc133 : callable Tryz.prog 133 = true := by kernel_rfl
theorem cc134 : callable Tryz.prog 134 = true := by kernel_rfl
theorem cc135 : callable Tryz.prog 135 = true := by kernel_rfl
theorem cc137 : callable Tryz.prog 137 = true := by kernel_rfl
theorem cc138 : callable Tryz.prog 138 = true := by kernel_rfl
theorem cc139 : callable Tryz.prog 139 = true := by kernel_rfl
theorem cc140 : callable Tryz.prog 140 = true := by kernel_rfl
theorem cc141 : callable Tryz.prog 141 = true := by kernel_rfl
theorem cc142 : callable Tryz.prog 142 = true := by kernel_rfl
theorem cc143 : callable Tryz.prog 143 = true := by kernel_rfl
theorem cc144 : callable Tryz.prog 144 = true := by kernel_rfl
theorem cc145 : callable Tryz.prog 145 = true := by kernel_rfl
theorem cc146 : callable Tryz.prog 146 = true := by kernel_rfl
theorem cc147 : callable Tryz.prog 147 = true := by kernel_rfl
theorem cc148 : callable Tryz.prog 148 = true := by kernel_rfl
theorem cc149 : callable Tryz.prog 149 = true := by kernel_rfl
theorem cc150 : callable Tryz.prog 150 = true := by kernel_rfl
theorem cc151 : callable Tryz.prog 151 = true := by kernel_rfl
theorem cc152 : callable Tryz.prog 152 = true := by kernel_rfl
theorem cc153 : callable Tryz.prog 153 = true := by kernel_rfl
theorem cc154 : callable Tryz.prog 154 = true := by kernel_rfl
theorem cc157 : callable Tryz.prog 157 = true := by kernel_rfl
theorem cc158 : callable Tryz.prog 158 = true := by kernel_rfl
theorem cc159 : callable Tryz.prog 159 = true := by kernel_rfl
theorem cc160 : callable Tryz.prog 160 = true := by kernel_rfl
theorem cc161 : callable Tryz.prog 161 = true := by kernel_rfl
theorem cc162 : callable Tryz.prog 162 = true := by kernel_rfl
theorem cc164 : callable Tryz.prog 164 = true := by kernel_rfl
theorem cc165 : callable Tryz.prog 165 = true := by kernel_rfl
theorem cc166 : callable Tryz.prog 166 = true := by kernel_rfl
theorem cc167 : callable Tryz.prog 167 = true := by kernel_rfl
theorem cc168 : callable Tryz.prog 168 = true := by kernel_rfl
theorem cc169 : callable Tryz.prog 169 = true := by kernel_rfl
theorem cc170 : callable Tryz.prog 170 = true := by kernel_rfl
theorem cc171 : callable Tryz.prog 171 = true := by kernel_rfl
theorem cc172 : callable Tryz.prog 172 = true := by kernel_rfl
theorem cc173 : callable Tryz.prog 173 = true := by kernel_rfl
theorem cc174 : callable Tryz.prog 174 = true := by kernel_rfl
theorem cc175 : callable Tryz.prog 175 = true := by kernel_rfl
theorem cc176 : callable Tryz.prog 176 = true := by kernel_rfl
theorem cc177 : callable Tryz.prog 177 = true := by kernel_rfl
theorem cc179 : callable Tryz.prog 179 = true := by kernel_rfl
theorem cc180 : callable Tryz.prog 180 = true := by kernel_rfl
theorem cc181 : callable Tryz.prog 181 = true := by kernel_rfl
theorem cc182 : callable Tryz.prog 182 = true := by kernel_rfl
theorem cc183 : callable Tryz.prog 183 = true := by kernel_rfl
theorem cc184 : callable Tryz.prog 184 = true := by kernel_rfl
theorem mixed : Tryz.prog.follows .mixedOrders = true := by kernel_rfl
end Go.Proofs.YtlcpdkckldlceaaGreatDoor
