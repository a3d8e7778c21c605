/- The seat's tables as instances: each type's make, size and zero; each function may be called; the order of open regions is any. No conditions. -/
import Derived.Test.YtbhlcncfpkfopaaProg
import Derived.Test.YtbhlcncfpkfopaaV1
import Derived.KernelRfl
namespace VK
open Go Go.Proofs
instance : Mixed Try.prog := ⟨by kernel_rfl⟩
instance : TyU Try.prog 0 (Go.TypeDesc.tuple #[]) := ⟨Try.underlying0⟩
instance : TyI Try.prog 0 ⟨1, 0, (Go.Value.tuple #[])⟩ := .mk' (by kernel_rfl)
instance : TyU Try.prog 1 (Go.TypeDesc.func #[] #[] false) := ⟨Try.underlying1⟩
instance : TyI Try.prog 1 ⟨1, 8, Go.Value.nilFunc⟩ := .mk' (by kernel_rfl)
instance : TyU Try.prog 2 (Go.TypeDesc.int Go.IntKind.i64) := ⟨Try.underlying2⟩
instance : TyI Try.prog 2 ⟨1, 8, (Go.Value.int Go.IntKind.i64 0)⟩ := .mk' (by kernel_rfl)
instance : TyU Try.prog 3 (Go.TypeDesc.int Go.IntKind.i64) := ⟨Try.underlying3⟩
instance : TyI Try.prog 3 ⟨1, 8, (Go.Value.int Go.IntKind.i64 0)⟩ := .mk' (by kernel_rfl)
instance : TyU Try.prog 4 Go.TypeDesc.bool := ⟨Try.underlying4⟩
instance : TyI Try.prog 4 ⟨1, 1, (Go.Value.bool false)⟩ := .mk' (by kernel_rfl)
instance : TyU Try.prog 5 (Go.TypeDesc.int Go.IntKind.u8) := ⟨Try.underlying5⟩
instance : TyI Try.prog 5 ⟨1, 1, (Go.Value.int Go.IntKind.u8 0)⟩ := .mk' (by kernel_rfl)
instance : TyU Try.prog 6 (Go.TypeDesc.int Go.IntKind.u8) := ⟨Try.underlying6⟩
instance : TyI Try.prog 6 ⟨1, 1, (Go.Value.int Go.IntKind.u8 0)⟩ := .mk' (by kernel_rfl)
instance : TyU Try.prog 7 (Go.TypeDesc.struct #[{ name := "x", type := 2, offset := 0, embedded := false, tag := "", pkgPath := "runtime", byteOffset := 0 }, { name := "y", type := 3, offset := 1, embedded := false, tag := "", pkgPath := "runtime", byteOffset := 8 }, { name := "signed", type := 4, offset := 2, embedded := false, tag := "", pkgPath := "runtime", byteOffset := 16 }, { name := "code", type := 6, offset := 3, embedded := false, tag := "", pkgPath := "runtime", byteOffset := 17 }]) := ⟨Try.underlying7⟩
instance : TyP Try.prog 7 [(0, 1), (1, 1), (2, 1), (3, 1)] := ⟨_, Try.underlying7, fun w => by kernel_rfl⟩
instance : TyF Try.prog 7 0 0 := ⟨_, _, _, Try.underlying7, rfl, rfl, Try.sizeOf2⟩
instance : TyF Try.prog 7 1 1 := ⟨_, _, _, Try.underlying7, rfl, rfl, Try.sizeOf3⟩
instance : TyF Try.prog 7 2 2 := ⟨_, _, _, Try.underlying7, rfl, rfl, Try.sizeOf4⟩
instance : TyF Try.prog 7 3 3 := ⟨_, _, _, Try.underlying7, rfl, rfl, Try.sizeOf6⟩
instance : TyI Try.prog 7 ⟨4, 24, (Go.Value.agg #[(Go.Value.int Go.IntKind.i64 0), (Go.Value.int Go.IntKind.i64 0), (Go.Value.bool false), (Go.Value.int Go.IntKind.u8 0)])⟩ := .mk' (by kernel_rfl)
instance : TyU Try.prog 8 (Go.TypeDesc.struct #[{ name := "x", type := 2, offset := 0, embedded := false, tag := "", pkgPath := "runtime", byteOffset := 0 }, { name := "y", type := 3, offset := 1, embedded := false, tag := "", pkgPath := "runtime", byteOffset := 8 }, { name := "signed", type := 4, offset := 2, embedded := false, tag := "", pkgPath := "runtime", byteOffset := 16 }, { name := "code", type := 6, offset := 3, embedded := false, tag := "", pkgPath := "runtime", byteOffset := 17 }]) := ⟨Try.underlying8⟩
instance : TyP Try.prog 8 [(0, 1), (1, 1), (2, 1), (3, 1)] := ⟨_, Try.underlying8, fun w => by kernel_rfl⟩
instance : TyF Try.prog 8 0 0 := ⟨_, _, _, Try.underlying8, rfl, rfl, Try.sizeOf2⟩
instance : TyF Try.prog 8 1 1 := ⟨_, _, _, Try.underlying8, rfl, rfl, Try.sizeOf3⟩
instance : TyF Try.prog 8 2 2 := ⟨_, _, _, Try.underlying8, rfl, rfl, Try.sizeOf4⟩
instance : TyF Try.prog 8 3 3 := ⟨_, _, _, Try.underlying8, rfl, rfl, Try.sizeOf6⟩
instance : TyI Try.prog 8 ⟨4, 24, (Go.Value.agg #[(Go.Value.int Go.IntKind.i64 0), (Go.Value.int Go.IntKind.i64 0), (Go.Value.bool false), (Go.Value.int Go.IntKind.u8 0)])⟩ := .mk' (by kernel_rfl)
instance : TyU Try.prog 9 Go.TypeDesc.string := ⟨Try.underlying9⟩
instance : TyI Try.prog 9 ⟨1, 16, (Go.Value.string { data := #[] })⟩ := .mk' (by kernel_rfl)
instance : TyU Try.prog 10 Go.TypeDesc.string := ⟨Try.underlying10⟩
instance : TyI Try.prog 10 ⟨1, 16, (Go.Value.string { data := #[] })⟩ := .mk' (by kernel_rfl)
instance : TyU Try.prog 11 Go.TypeDesc.string := ⟨Try.underlying11⟩
instance : TyI Try.prog 11 ⟨1, 16, (Go.Value.string { data := #[] })⟩ := .mk' (by kernel_rfl)
instance : TyU Try.prog 12 (Go.TypeDesc.int Go.IntKind.u64) := ⟨Try.underlying12⟩
instance : TyI Try.prog 12 ⟨1, 8, (Go.Value.int Go.IntKind.u64 0)⟩ := .mk' (by kernel_rfl)
instance : TyU Try.prog 13 (Go.TypeDesc.struct #[{ name := "msg", type := 9, offset := 0, embedded := false, tag := "", pkgPath := "runtime", byteOffset := 0 }, { name := "addr", type := 12, offset := 1, embedded := false, tag := "", pkgPath := "runtime", byteOffset := 16 }]) := ⟨Try.underlying13⟩
instance : TyP Try.prog 13 [(0, 1), (1, 1)] := ⟨_, Try.underlying13, fun w => by kernel_rfl⟩
instance : TyF Try.prog 13 0 0 := ⟨_, _, _, Try.underlying13, rfl, rfl, Try.sizeOf9⟩
instance : TyF Try.prog 13 1 1 := ⟨_, _, _, Try.underlying13, rfl, rfl, Try.sizeOf12⟩
instance : TyI Try.prog 13 ⟨2, 24, (Go.Value.agg #[(Go.Value.string { data := #[] }), (Go.Value.int Go.IntKind.u64 0)])⟩ := .mk' (by kernel_rfl)
instance : TyU Try.prog 14 (Go.TypeDesc.struct #[{ name := "msg", type := 9, offset := 0, embedded := false, tag := "", pkgPath := "runtime", byteOffset := 0 }, { name := "addr", type := 12, offset := 1, embedded := false, tag := "", pkgPath := "runtime", byteOffset := 16 }]) := ⟨Try.underlying14⟩
instance : TyP Try.prog 14 [(0, 1), (1, 1)] := ⟨_, Try.underlying14, fun w => by kernel_rfl⟩
instance : TyF Try.prog 14 0 0 := ⟨_, _, _, Try.underlying14, rfl, rfl, Try.sizeOf9⟩
instance : TyF Try.prog 14 1 1 := ⟨_, _, _, Try.underlying14, rfl, rfl, Try.sizeOf12⟩
instance : TyI Try.prog 14 ⟨2, 24, (Go.Value.agg #[(Go.Value.string { data := #[] }), (Go.Value.int Go.IntKind.u64 0)])⟩ := .mk' (by kernel_rfl)
instance : TyU Try.prog 15 (Go.TypeDesc.pointer 66) := ⟨Try.underlying15⟩
instance : TyI Try.prog 15 ⟨1, 8, (Go.Value.pointer none)⟩ := .mk' (by kernel_rfl)
instance : TyU Try.prog 16 (Go.TypeDesc.pointer 69) := ⟨Try.underlying16⟩
instance : TyI Try.prog 16 ⟨1, 8, (Go.Value.pointer none)⟩ := .mk' (by kernel_rfl)
instance : TyU Try.prog 17 (Go.TypeDesc.pointer 78) := ⟨Try.underlying17⟩
instance : TyI Try.prog 17 ⟨1, 8, (Go.Value.pointer none)⟩ := .mk' (by kernel_rfl)
instance : TyU Try.prog 18 (Go.TypeDesc.struct #[{ name := "typ", type := 17, offset := 0, embedded := false, tag := "", pkgPath := "internal/runtime/maps", byteOffset := 0 }]) := ⟨Try.underlying18⟩
instance : TyP Try.prog 18 [(0, 1)] := ⟨_, Try.underlying18, fun w => by kernel_rfl⟩
instance : TyF Try.prog 18 0 0 := ⟨_, _, _, Try.underlying18, rfl, rfl, Try.sizeOf17⟩
instance : TyI Try.prog 18 ⟨1, 8, (Go.Value.agg #[(Go.Value.pointer none)])⟩ := .mk' (by kernel_rfl)
instance : TyU Try.prog 19 (Go.TypeDesc.struct #[{ name := "typ", type := 17, offset := 0, embedded := false, tag := "", pkgPath := "internal/runtime/maps", byteOffset := 0 }]) := ⟨Try.underlying19⟩
instance : TyP Try.prog 19 [(0, 1)] := ⟨_, Try.underlying19, fun w => by kernel_rfl⟩
instance : TyF Try.prog 19 0 0 := ⟨_, _, _, Try.underlying19, rfl, rfl, Try.sizeOf17⟩
instance : TyI Try.prog 19 ⟨1, 8, (Go.Value.agg #[(Go.Value.pointer none)])⟩ := .mk' (by kernel_rfl)
instance : TyU Try.prog 20 (Go.TypeDesc.interface #[]) := ⟨Try.underlying20⟩
instance : TyI Try.prog 20 ⟨1, 16, Go.Value.nilIface⟩ := .mk' (by kernel_rfl)
instance : TyU Try.prog 21 (Go.TypeDesc.int Go.IntKind.i32) := ⟨Try.underlying21⟩
instance : TyI Try.prog 21 ⟨1, 4, (Go.Value.int Go.IntKind.i32 0)⟩ := .mk' (by kernel_rfl)
instance : TyU Try.prog 22 (Go.TypeDesc.slice 28) := ⟨Try.underlying22⟩
instance : TyI Try.prog 22 ⟨1, 24, (Go.Value.slice none 0 0)⟩ := .mk' (by kernel_rfl)
instance : TyU Try.prog 23 (Go.TypeDesc.slice 4) := ⟨Try.underlying23⟩
instance : TyI Try.prog 23 ⟨1, 24, (Go.Value.slice none 0 0)⟩ := .mk' (by kernel_rfl)
instance : TyU Try.prog 24 (Go.TypeDesc.func #[] #[4] false) := ⟨Try.underlying24⟩
instance : TyI Try.prog 24 ⟨1, 8, Go.Value.nilFunc⟩ := .mk' (by kernel_rfl)
instance : TyU Try.prog 25 (Go.TypeDesc.pointer 58) := ⟨Try.underlying25⟩
instance : TyI Try.prog 25 ⟨1, 8, (Go.Value.pointer none)⟩ := .mk' (by kernel_rfl)
instance : TyU Try.prog 26 (Go.TypeDesc.func #[] #[25] false) := ⟨Try.underlying26⟩
instance : TyI Try.prog 26 ⟨1, 8, Go.Value.nilFunc⟩ := .mk' (by kernel_rfl)
instance : TyU Try.prog 27 (Go.TypeDesc.func #[3] #[] false) := ⟨Try.underlying27⟩
instance : TyI Try.prog 27 ⟨1, 8, Go.Value.nilFunc⟩ := .mk' (by kernel_rfl)
instance : TyU Try.prog 28 (Go.TypeDesc.slice 5) := ⟨Try.underlying28⟩
instance : TyI Try.prog 28 ⟨1, 24, (Go.Value.slice none 0 0)⟩ := .mk' (by kernel_rfl)
instance : TyU Try.prog 29 (Go.TypeDesc.int Go.IntKind.i64) := ⟨Try.underlying29⟩
instance : TyI Try.prog 29 ⟨1, 8, (Go.Value.int Go.IntKind.i64 0)⟩ := .mk' (by kernel_rfl)
instance : TyU Try.prog 30 (Go.TypeDesc.func #[3, 28] #[29] false) := ⟨Try.underlying30⟩
instance : TyI Try.prog 30 ⟨1, 8, Go.Value.nilFunc⟩ := .mk' (by kernel_rfl)
instance : TyU Try.prog 31 (Go.TypeDesc.func #[3] #[29] false) := ⟨Try.underlying31⟩
instance : TyI Try.prog 31 ⟨1, 8, Go.Value.nilFunc⟩ := .mk' (by kernel_rfl)
instance : TyU Try.prog 32 (Go.TypeDesc.func #[45] #[] true) := ⟨Try.underlying32⟩
instance : TyI Try.prog 32 ⟨1, 8, Go.Value.nilFunc⟩ := .mk' (by kernel_rfl)
instance : TyU Try.prog 33 (Go.TypeDesc.func #[3] #[28] false) := ⟨Try.underlying33⟩
instance : TyI Try.prog 33 ⟨1, 8, Go.Value.nilFunc⟩ := .mk' (by kernel_rfl)
instance : TyU Try.prog 34 (Go.TypeDesc.func #[3] #[3] false) := ⟨Try.underlying34⟩
instance : TyI Try.prog 34 ⟨1, 8, Go.Value.nilFunc⟩ := .mk' (by kernel_rfl)
instance : TyU Try.prog 35 (Go.TypeDesc.func #[] #[3] false) := ⟨Try.underlying35⟩
instance : TyI Try.prog 35 ⟨1, 8, Go.Value.nilFunc⟩ := .mk' (by kernel_rfl)
instance : TyU Try.prog 36 (Go.TypeDesc.func #[22, 23, 3, 3] #[4] false) := ⟨Try.underlying36⟩
instance : TyI Try.prog 36 ⟨1, 8, Go.Value.nilFunc⟩ := .mk' (by kernel_rfl)
instance : TyU Try.prog 37 (Go.TypeDesc.slice 47) := ⟨Try.underlying37⟩
instance : TyI Try.prog 37 ⟨1, 24, (Go.Value.slice none 0 0)⟩ := .mk' (by kernel_rfl)
instance : TyU Try.prog 38 (Go.TypeDesc.func #[37] #[4] false) := ⟨Try.underlying38⟩
instance : TyI Try.prog 38 ⟨1, 8, Go.Value.nilFunc⟩ := .mk' (by kernel_rfl)
instance : TyU Try.prog 39 (Go.TypeDesc.pointer 43) := ⟨Try.underlying39⟩
instance : TyI Try.prog 39 ⟨1, 8, (Go.Value.pointer none)⟩ := .mk' (by kernel_rfl)
instance : TyU Try.prog 40 (Go.TypeDesc.array 2 9) := ⟨Try.underlying40⟩
instance : TyI Try.prog 40 ⟨2, 32, (Go.Value.agg #[(Go.Value.string { data := #[] }), (Go.Value.string { data := #[] })])⟩ := .mk' (by kernel_rfl)
instance : TyU Try.prog 41 (Go.TypeDesc.array 2 3) := ⟨Try.underlying41⟩
instance : TyI Try.prog 41 ⟨2, 16, (Go.Value.agg #[(Go.Value.int Go.IntKind.i64 0), (Go.Value.int Go.IntKind.i64 0)])⟩ := .mk' (by kernel_rfl)
instance : TyU Try.prog 42 (Go.TypeDesc.struct #[{ name := "B", type := 40, offset := 0, embedded := false, tag := "", pkgPath := "", byteOffset := 0 }, { name := "Sure", type := 41, offset := 2, embedded := false, tag := "", pkgPath := "", byteOffset := 32 }, { name := "Live", type := 3, offset := 4, embedded := false, tag := "", pkgPath := "", byteOffset := 48 }, { name := "Armed", type := 3, offset := 5, embedded := false, tag := "", pkgPath := "", byteOffset := 56 }, { name := "Gone", type := 4, offset := 6, embedded := false, tag := "", pkgPath := "", byteOffset := 64 }]) := ⟨Try.underlying42⟩
instance : TyP Try.prog 42 [(0, 2), (2, 2), (4, 1), (5, 1), (6, 1)] := ⟨_, Try.underlying42, fun w => by kernel_rfl⟩
instance : TyF Try.prog 42 0 0 := ⟨_, _, _, Try.underlying42, rfl, rfl, Try.sizeOf40⟩
instance : TyF Try.prog 42 1 2 := ⟨_, _, _, Try.underlying42, rfl, rfl, Try.sizeOf41⟩
instance : TyF Try.prog 42 2 4 := ⟨_, _, _, Try.underlying42, rfl, rfl, Try.sizeOf3⟩
instance : TyF Try.prog 42 3 5 := ⟨_, _, _, Try.underlying42, rfl, rfl, Try.sizeOf3⟩
instance : TyF Try.prog 42 4 6 := ⟨_, _, _, Try.underlying42, rfl, rfl, Try.sizeOf4⟩
instance : TyI Try.prog 42 ⟨7, 72, (Go.Value.agg #[(Go.Value.string { data := #[] }), (Go.Value.string { data := #[] }), (Go.Value.int Go.IntKind.i64 0), (Go.Value.int Go.IntKind.i64 0), (Go.Value.int Go.IntKind.i64 0), (Go.Value.int Go.IntKind.i64 0), (Go.Value.bool false)])⟩ := .mk' (by kernel_rfl)
instance : TyU Try.prog 43 (Go.TypeDesc.struct #[{ name := "B", type := 40, offset := 0, embedded := false, tag := "", pkgPath := "", byteOffset := 0 }, { name := "Sure", type := 41, offset := 2, embedded := false, tag := "", pkgPath := "", byteOffset := 32 }, { name := "Live", type := 3, offset := 4, embedded := false, tag := "", pkgPath := "", byteOffset := 48 }, { name := "Armed", type := 3, offset := 5, embedded := false, tag := "", pkgPath := "", byteOffset := 56 }, { name := "Gone", type := 4, offset := 6, embedded := false, tag := "", pkgPath := "", byteOffset := 64 }]) := ⟨Try.underlying43⟩
instance : TyP Try.prog 43 [(0, 2), (2, 2), (4, 1), (5, 1), (6, 1)] := ⟨_, Try.underlying43, fun w => by kernel_rfl⟩
instance : TyF Try.prog 43 0 0 := ⟨_, _, _, Try.underlying43, rfl, rfl, Try.sizeOf40⟩
instance : TyF Try.prog 43 1 2 := ⟨_, _, _, Try.underlying43, rfl, rfl, Try.sizeOf41⟩
instance : TyF Try.prog 43 2 4 := ⟨_, _, _, Try.underlying43, rfl, rfl, Try.sizeOf3⟩
instance : TyF Try.prog 43 3 5 := ⟨_, _, _, Try.underlying43, rfl, rfl, Try.sizeOf3⟩
instance : TyF Try.prog 43 4 6 := ⟨_, _, _, Try.underlying43, rfl, rfl, Try.sizeOf4⟩
instance : TyI Try.prog 43 ⟨7, 72, (Go.Value.agg #[(Go.Value.string { data := #[] }), (Go.Value.string { data := #[] }), (Go.Value.int Go.IntKind.i64 0), (Go.Value.int Go.IntKind.i64 0), (Go.Value.int Go.IntKind.i64 0), (Go.Value.int Go.IntKind.i64 0), (Go.Value.bool false)])⟩ := .mk' (by kernel_rfl)
instance : TyU Try.prog 44 (Go.TypeDesc.func #[25, 47] #[29] false) := ⟨Try.underlying44⟩
instance : TyI Try.prog 44 ⟨1, 8, Go.Value.nilFunc⟩ := .mk' (by kernel_rfl)
instance : TyU Try.prog 45 (Go.TypeDesc.slice 3) := ⟨Try.underlying45⟩
instance : TyI Try.prog 45 ⟨1, 24, (Go.Value.slice none 0 0)⟩ := .mk' (by kernel_rfl)
instance : TyU Try.prog 46 (Go.TypeDesc.struct #[{ name := "Kind", type := 3, offset := 0, embedded := false, tag := "", pkgPath := "", byteOffset := 0 }, { name := "Area", type := 3, offset := 1, embedded := false, tag := "", pkgPath := "", byteOffset := 8 }, { name := "B", type := 28, offset := 2, embedded := false, tag := "", pkgPath := "", byteOffset := 16 }, { name := "N", type := 3, offset := 3, embedded := false, tag := "", pkgPath := "", byteOffset := 40 }, { name := "Keep", type := 45, offset := 4, embedded := false, tag := "", pkgPath := "", byteOffset := 48 }]) := ⟨Try.underlying46⟩
instance : TyP Try.prog 46 [(0, 1), (1, 1), (2, 1), (3, 1), (4, 1)] := ⟨_, Try.underlying46, fun w => by kernel_rfl⟩
instance : TyF Try.prog 46 0 0 := ⟨_, _, _, Try.underlying46, rfl, rfl, Try.sizeOf3⟩
instance : TyF Try.prog 46 1 1 := ⟨_, _, _, Try.underlying46, rfl, rfl, Try.sizeOf3⟩
instance : TyF Try.prog 46 2 2 := ⟨_, _, _, Try.underlying46, rfl, rfl, Try.sizeOf28⟩
instance : TyF Try.prog 46 3 3 := ⟨_, _, _, Try.underlying46, rfl, rfl, Try.sizeOf3⟩
instance : TyF Try.prog 46 4 4 := ⟨_, _, _, Try.underlying46, rfl, rfl, Try.sizeOf45⟩
instance : TyI Try.prog 46 ⟨5, 72, (Go.Value.agg #[(Go.Value.int Go.IntKind.i64 0), (Go.Value.int Go.IntKind.i64 0), (Go.Value.slice none 0 0), (Go.Value.int Go.IntKind.i64 0), (Go.Value.slice none 0 0)])⟩ := .mk' (by kernel_rfl)
instance : TyU Try.prog 47 (Go.TypeDesc.struct #[{ name := "Kind", type := 3, offset := 0, embedded := false, tag := "", pkgPath := "", byteOffset := 0 }, { name := "Area", type := 3, offset := 1, embedded := false, tag := "", pkgPath := "", byteOffset := 8 }, { name := "B", type := 28, offset := 2, embedded := false, tag := "", pkgPath := "", byteOffset := 16 }, { name := "N", type := 3, offset := 3, embedded := false, tag := "", pkgPath := "", byteOffset := 40 }, { name := "Keep", type := 45, offset := 4, embedded := false, tag := "", pkgPath := "", byteOffset := 48 }]) := ⟨Try.underlying47⟩
instance : TyP Try.prog 47 [(0, 1), (1, 1), (2, 1), (3, 1), (4, 1)] := ⟨_, Try.underlying47, fun w => by kernel_rfl⟩
instance : TyF Try.prog 47 0 0 := ⟨_, _, _, Try.underlying47, rfl, rfl, Try.sizeOf3⟩
instance : TyF Try.prog 47 1 1 := ⟨_, _, _, Try.underlying47, rfl, rfl, Try.sizeOf3⟩
instance : TyF Try.prog 47 2 2 := ⟨_, _, _, Try.underlying47, rfl, rfl, Try.sizeOf28⟩
instance : TyF Try.prog 47 3 3 := ⟨_, _, _, Try.underlying47, rfl, rfl, Try.sizeOf3⟩
instance : TyF Try.prog 47 4 4 := ⟨_, _, _, Try.underlying47, rfl, rfl, Try.sizeOf45⟩
instance : TyI Try.prog 47 ⟨5, 72, (Go.Value.agg #[(Go.Value.int Go.IntKind.i64 0), (Go.Value.int Go.IntKind.i64 0), (Go.Value.slice none 0 0), (Go.Value.int Go.IntKind.i64 0), (Go.Value.slice none 0 0)])⟩ := .mk' (by kernel_rfl)
instance : TyU Try.prog 48 (Go.TypeDesc.func #[47] #[29] false) := ⟨Try.underlying48⟩
instance : TyI Try.prog 48 ⟨1, 8, Go.Value.nilFunc⟩ := .mk' (by kernel_rfl)
instance : TyU Try.prog 49 (Go.TypeDesc.func #[25, 39] #[4] false) := ⟨Try.underlying49⟩
instance : TyI Try.prog 49 ⟨1, 8, Go.Value.nilFunc⟩ := .mk' (by kernel_rfl)
instance : TyU Try.prog 50 (Go.TypeDesc.int Go.IntKind.u64) := ⟨Try.underlying50⟩
instance : TyI Try.prog 50 ⟨1, 8, (Go.Value.int Go.IntKind.u64 0)⟩ := .mk' (by kernel_rfl)
instance : TyU Try.prog 51 (Go.TypeDesc.func #[] #[29] false) := ⟨Try.underlying51⟩
instance : TyI Try.prog 51 ⟨1, 8, Go.Value.nilFunc⟩ := .mk' (by kernel_rfl)
instance : TyU Try.prog 52 (Go.TypeDesc.func #[28, 28, 3, 45] #[4] false) := ⟨Try.underlying52⟩
instance : TyI Try.prog 52 ⟨1, 8, Go.Value.nilFunc⟩ := .mk' (by kernel_rfl)
instance : TyU Try.prog 53 (Go.TypeDesc.func #[37, 37] #[4] false) := ⟨Try.underlying53⟩
instance : TyI Try.prog 53 ⟨1, 8, Go.Value.nilFunc⟩ := .mk' (by kernel_rfl)
instance : TyU Try.prog 54 (Go.TypeDesc.struct #[{ name := "b", type := 28, offset := 0, embedded := false, tag := "", pkgPath := "veneer/platter", byteOffset := 0 }, { name := "sure", type := 3, offset := 1, embedded := false, tag := "", pkgPath := "veneer/platter", byteOffset := 24 }]) := ⟨Try.underlying54⟩
instance : TyP Try.prog 54 [(0, 1), (1, 1)] := ⟨_, Try.underlying54, fun w => by kernel_rfl⟩
instance : TyF Try.prog 54 0 0 := ⟨_, _, _, Try.underlying54, rfl, rfl, Try.sizeOf28⟩
instance : TyF Try.prog 54 1 1 := ⟨_, _, _, Try.underlying54, rfl, rfl, Try.sizeOf3⟩
instance : TyI Try.prog 54 ⟨2, 32, (Go.Value.agg #[(Go.Value.slice none 0 0), (Go.Value.int Go.IntKind.i64 0)])⟩ := .mk' (by kernel_rfl)
instance : TyU Try.prog 55 (Go.TypeDesc.struct #[{ name := "b", type := 28, offset := 0, embedded := false, tag := "", pkgPath := "veneer/platter", byteOffset := 0 }, { name := "sure", type := 3, offset := 1, embedded := false, tag := "", pkgPath := "veneer/platter", byteOffset := 24 }]) := ⟨Try.underlying55⟩
instance : TyP Try.prog 55 [(0, 1), (1, 1)] := ⟨_, Try.underlying55, fun w => by kernel_rfl⟩
instance : TyF Try.prog 55 0 0 := ⟨_, _, _, Try.underlying55, rfl, rfl, Try.sizeOf28⟩
instance : TyF Try.prog 55 1 1 := ⟨_, _, _, Try.underlying55, rfl, rfl, Try.sizeOf3⟩
instance : TyI Try.prog 55 ⟨2, 32, (Go.Value.agg #[(Go.Value.slice none 0 0), (Go.Value.int Go.IntKind.i64 0)])⟩ := .mk' (by kernel_rfl)
instance : TyU Try.prog 56 (Go.TypeDesc.array 2 55) := ⟨Try.underlying56⟩
instance : TyI Try.prog 56 ⟨4, 64, (Go.Value.agg #[(Go.Value.slice none 0 0), (Go.Value.int Go.IntKind.i64 0), (Go.Value.slice none 0 0), (Go.Value.int Go.IntKind.i64 0)])⟩ := .mk' (by kernel_rfl)
instance : TyU Try.prog 57 (Go.TypeDesc.struct #[{ name := "areas", type := 56, offset := 0, embedded := false, tag := "", pkgPath := "veneer/platter", byteOffset := 0 }, { name := "live", type := 3, offset := 4, embedded := false, tag := "", pkgPath := "veneer/platter", byteOffset := 64 }, { name := "armed", type := 3, offset := 5, embedded := false, tag := "", pkgPath := "veneer/platter", byteOffset := 72 }, { name := "down", type := 4, offset := 6, embedded := false, tag := "", pkgPath := "veneer/platter", byteOffset := 80 }]) := ⟨Try.underlying57⟩
instance : TyP Try.prog 57 [(0, 4), (4, 1), (5, 1), (6, 1)] := ⟨_, Try.underlying57, fun w => by kernel_rfl⟩
instance : TyF Try.prog 57 0 0 := ⟨_, _, _, Try.underlying57, rfl, rfl, Try.sizeOf56⟩
instance : TyF Try.prog 57 1 4 := ⟨_, _, _, Try.underlying57, rfl, rfl, Try.sizeOf3⟩
instance : TyF Try.prog 57 2 5 := ⟨_, _, _, Try.underlying57, rfl, rfl, Try.sizeOf3⟩
instance : TyF Try.prog 57 3 6 := ⟨_, _, _, Try.underlying57, rfl, rfl, Try.sizeOf4⟩
instance : TyI Try.prog 57 ⟨7, 88, (Go.Value.agg #[(Go.Value.slice none 0 0), (Go.Value.int Go.IntKind.i64 0), (Go.Value.slice none 0 0), (Go.Value.int Go.IntKind.i64 0), (Go.Value.int Go.IntKind.i64 0), (Go.Value.int Go.IntKind.i64 0), (Go.Value.bool false)])⟩ := .mk' (by kernel_rfl)
instance : TyU Try.prog 58 (Go.TypeDesc.struct #[{ name := "areas", type := 56, offset := 0, embedded := false, tag := "", pkgPath := "veneer/platter", byteOffset := 0 }, { name := "live", type := 3, offset := 4, embedded := false, tag := "", pkgPath := "veneer/platter", byteOffset := 64 }, { name := "armed", type := 3, offset := 5, embedded := false, tag := "", pkgPath := "veneer/platter", byteOffset := 72 }, { name := "down", type := 4, offset := 6, embedded := false, tag := "", pkgPath := "veneer/platter", byteOffset := 80 }]) := ⟨Try.underlying58⟩
instance : TyP Try.prog 58 [(0, 4), (4, 1), (5, 1), (6, 1)] := ⟨_, Try.underlying58, fun w => by kernel_rfl⟩
instance : TyF Try.prog 58 0 0 := ⟨_, _, _, Try.underlying58, rfl, rfl, Try.sizeOf56⟩
instance : TyF Try.prog 58 1 4 := ⟨_, _, _, Try.underlying58, rfl, rfl, Try.sizeOf3⟩
instance : TyF Try.prog 58 2 5 := ⟨_, _, _, Try.underlying58, rfl, rfl, Try.sizeOf3⟩
instance : TyF Try.prog 58 3 6 := ⟨_, _, _, Try.underlying58, rfl, rfl, Try.sizeOf4⟩
instance : TyI Try.prog 58 ⟨7, 88, (Go.Value.agg #[(Go.Value.slice none 0 0), (Go.Value.int Go.IntKind.i64 0), (Go.Value.slice none 0 0), (Go.Value.int Go.IntKind.i64 0), (Go.Value.int Go.IntKind.i64 0), (Go.Value.int Go.IntKind.i64 0), (Go.Value.bool false)])⟩ := .mk' (by kernel_rfl)
instance : TyU Try.prog 59 (Go.TypeDesc.tuple #[29, 4]) := ⟨Try.underlying59⟩
instance : TyI Try.prog 59 ⟨1, 0, (Go.Value.tuple #[(Go.Value.int Go.IntKind.i64 0), (Go.Value.bool false)])⟩ := .mk' (by kernel_rfl)
instance : TyU Try.prog 60 (Go.TypeDesc.func #[3, 3] #[29, 4] false) := ⟨Try.underlying60⟩
instance : TyI Try.prog 60 ⟨1, 8, Go.Value.nilFunc⟩ := .mk' (by kernel_rfl)
instance : TyU Try.prog 61 (Go.TypeDesc.func #[28] #[28] false) := ⟨Try.underlying61⟩
instance : TyI Try.prog 61 ⟨1, 8, Go.Value.nilFunc⟩ := .mk' (by kernel_rfl)
instance : TyU Try.prog 62 (Go.TypeDesc.pointer 55) := ⟨Try.underlying62⟩
instance : TyI Try.prog 62 ⟨1, 8, (Go.Value.pointer none)⟩ := .mk' (by kernel_rfl)
instance : TyU Try.prog 63 (Go.TypeDesc.func #[45] #[] false) := ⟨Try.underlying63⟩
instance : TyI Try.prog 63 ⟨1, 8, Go.Value.nilFunc⟩ := .mk' (by kernel_rfl)
instance : TyU Try.prog 64 (Go.TypeDesc.func #[] #[9] false) := ⟨Try.underlying64⟩
instance : TyI Try.prog 64 ⟨1, 8, Go.Value.nilFunc⟩ := .mk' (by kernel_rfl)
instance : TyU Try.prog 65 (Go.TypeDesc.struct #[{ name := "_interface", type := 17, offset := 0, embedded := false, tag := "", pkgPath := "runtime", byteOffset := 0 }, { name := "concrete", type := 17, offset := 1, embedded := false, tag := "", pkgPath := "runtime", byteOffset := 8 }, { name := "asserted", type := 17, offset := 2, embedded := false, tag := "", pkgPath := "runtime", byteOffset := 16 }, { name := "missingMethod", type := 9, offset := 3, embedded := false, tag := "", pkgPath := "runtime", byteOffset := 24 }]) := ⟨Try.underlying65⟩
instance : TyP Try.prog 65 [(0, 1), (1, 1), (2, 1), (3, 1)] := ⟨_, Try.underlying65, fun w => by kernel_rfl⟩
instance : TyF Try.prog 65 0 0 := ⟨_, _, _, Try.underlying65, rfl, rfl, Try.sizeOf17⟩
instance : TyF Try.prog 65 1 1 := ⟨_, _, _, Try.underlying65, rfl, rfl, Try.sizeOf17⟩
instance : TyF Try.prog 65 2 2 := ⟨_, _, _, Try.underlying65, rfl, rfl, Try.sizeOf17⟩
instance : TyF Try.prog 65 3 3 := ⟨_, _, _, Try.underlying65, rfl, rfl, Try.sizeOf9⟩
instance : TyI Try.prog 65 ⟨4, 40, (Go.Value.agg #[(Go.Value.pointer none), (Go.Value.pointer none), (Go.Value.pointer none), (Go.Value.string { data := #[] })])⟩ := .mk' (by kernel_rfl)
instance : TyU Try.prog 66 (Go.TypeDesc.struct #[{ name := "_interface", type := 17, offset := 0, embedded := false, tag := "", pkgPath := "runtime", byteOffset := 0 }, { name := "concrete", type := 17, offset := 1, embedded := false, tag := "", pkgPath := "runtime", byteOffset := 8 }, { name := "asserted", type := 17, offset := 2, embedded := false, tag := "", pkgPath := "runtime", byteOffset := 16 }, { name := "missingMethod", type := 9, offset := 3, embedded := false, tag := "", pkgPath := "runtime", byteOffset := 24 }]) := ⟨Try.underlying66⟩
instance : TyP Try.prog 66 [(0, 1), (1, 1), (2, 1), (3, 1)] := ⟨_, Try.underlying66, fun w => by kernel_rfl⟩
instance : TyF Try.prog 66 0 0 := ⟨_, _, _, Try.underlying66, rfl, rfl, Try.sizeOf17⟩
instance : TyF Try.prog 66 1 1 := ⟨_, _, _, Try.underlying66, rfl, rfl, Try.sizeOf17⟩
instance : TyF Try.prog 66 2 2 := ⟨_, _, _, Try.underlying66, rfl, rfl, Try.sizeOf17⟩
instance : TyF Try.prog 66 3 3 := ⟨_, _, _, Try.underlying66, rfl, rfl, Try.sizeOf9⟩
instance : TyI Try.prog 66 ⟨4, 40, (Go.Value.agg #[(Go.Value.pointer none), (Go.Value.pointer none), (Go.Value.pointer none), (Go.Value.string { data := #[] })])⟩ := .mk' (by kernel_rfl)
instance : TyU Try.prog 67 (Go.TypeDesc.array 0 16) := ⟨Try.underlying67⟩
instance : TyI Try.prog 67 ⟨0, 0, (Go.Value.agg #[])⟩ := .mk' (by kernel_rfl)
instance : TyU Try.prog 68 (Go.TypeDesc.struct #[{ name := "_", type := 67, offset := 0, embedded := false, tag := "", pkgPath := "runtime", byteOffset := 0 }]) := ⟨Try.underlying68⟩
instance : TyP Try.prog 68 [(0, 0)] := ⟨_, Try.underlying68, fun w => by kernel_rfl⟩
instance : TyI Try.prog 68 ⟨0, 0, (Go.Value.agg #[])⟩ := .mk' (by kernel_rfl)
instance : TyU Try.prog 69 (Go.TypeDesc.struct #[{ name := "_", type := 67, offset := 0, embedded := false, tag := "", pkgPath := "runtime", byteOffset := 0 }]) := ⟨Try.underlying69⟩
instance : TyP Try.prog 69 [(0, 0)] := ⟨_, Try.underlying69, fun w => by kernel_rfl⟩
instance : TyI Try.prog 69 ⟨0, 0, (Go.Value.agg #[])⟩ := .mk' (by kernel_rfl)
instance : TyU Try.prog 70 (Go.TypeDesc.int Go.IntKind.u32) := ⟨Try.underlying70⟩
instance : TyI Try.prog 70 ⟨1, 4, (Go.Value.int Go.IntKind.u32 0)⟩ := .mk' (by kernel_rfl)
instance : TyU Try.prog 71 (Go.TypeDesc.int Go.IntKind.u8) := ⟨Try.underlying71⟩
instance : TyI Try.prog 71 ⟨1, 1, (Go.Value.int Go.IntKind.u8 0)⟩ := .mk' (by kernel_rfl)
instance : TyU Try.prog 72 (Go.TypeDesc.int Go.IntKind.u8) := ⟨Try.underlying72⟩
instance : TyI Try.prog 72 ⟨1, 1, (Go.Value.int Go.IntKind.u8 0)⟩ := .mk' (by kernel_rfl)
instance : TyU Try.prog 73 (Go.TypeDesc.func #[79, 79] #[4] false) := ⟨Try.underlying73⟩
instance : TyI Try.prog 73 ⟨1, 8, Go.Value.nilFunc⟩ := .mk' (by kernel_rfl)
instance : TyU Try.prog 74 (Go.TypeDesc.pointer 5) := ⟨Try.underlying74⟩
instance : TyI Try.prog 74 ⟨1, 8, (Go.Value.pointer none)⟩ := .mk' (by kernel_rfl)
instance : TyU Try.prog 75 (Go.TypeDesc.int Go.IntKind.i32) := ⟨Try.underlying75⟩
instance : TyI Try.prog 75 ⟨1, 4, (Go.Value.int Go.IntKind.i32 0)⟩ := .mk' (by kernel_rfl)
instance : TyU Try.prog 76 (Go.TypeDesc.int Go.IntKind.i32) := ⟨Try.underlying76⟩
instance : TyI Try.prog 76 ⟨1, 4, (Go.Value.int Go.IntKind.i32 0)⟩ := .mk' (by kernel_rfl)
instance : TyU Try.prog 77 (Go.TypeDesc.struct #[{ name := "Size_", type := 12, offset := 0, embedded := false, tag := "", pkgPath := "", byteOffset := 0 }, { name := "PtrBytes", type := 12, offset := 1, embedded := false, tag := "", pkgPath := "", byteOffset := 8 }, { name := "Hash", type := 70, offset := 2, embedded := false, tag := "", pkgPath := "", byteOffset := 16 }, { name := "TFlag", type := 71, offset := 3, embedded := false, tag := "", pkgPath := "", byteOffset := 20 }, { name := "Align_", type := 5, offset := 4, embedded := false, tag := "", pkgPath := "", byteOffset := 21 }, { name := "FieldAlign_", type := 5, offset := 5, embedded := false, tag := "", pkgPath := "", byteOffset := 22 }, { name := "Kind_", type := 72, offset := 6, embedded := false, tag := "", pkgPath := "", byteOffset := 23 }, { name := "Equal", type := 73, offset := 7, embedded := false, tag := "", pkgPath := "", byteOffset := 24 }, { name := "GCData", type := 74, offset := 8, embedded := false, tag := "", pkgPath := "", byteOffset := 32 }, { name := "Str", type := 75, offset := 9, embedded := false, tag := "", pkgPath := "", byteOffset := 40 }, { name := "PtrToThis", type := 76, offset := 10, embedded := false, tag := "", pkgPath := "", byteOffset := 44 }]) := ⟨Try.underlying77⟩
instance : TyP Try.prog 77 [(0, 1), (1, 1), (2, 1), (3, 1), (4, 1), (5, 1), (6, 1), (7, 1), (8, 1), (9, 1), (10, 1)] := ⟨_, Try.underlying77, fun w => by kernel_rfl⟩
instance : TyF Try.prog 77 0 0 := ⟨_, _, _, Try.underlying77, rfl, rfl, Try.sizeOf12⟩
instance : TyF Try.prog 77 1 1 := ⟨_, _, _, Try.underlying77, rfl, rfl, Try.sizeOf12⟩
instance : TyF Try.prog 77 2 2 := ⟨_, _, _, Try.underlying77, rfl, rfl, Try.sizeOf70⟩
instance : TyF Try.prog 77 3 3 := ⟨_, _, _, Try.underlying77, rfl, rfl, Try.sizeOf71⟩
instance : TyF Try.prog 77 4 4 := ⟨_, _, _, Try.underlying77, rfl, rfl, Try.sizeOf5⟩
instance : TyF Try.prog 77 5 5 := ⟨_, _, _, Try.underlying77, rfl, rfl, Try.sizeOf5⟩
instance : TyF Try.prog 77 6 6 := ⟨_, _, _, Try.underlying77, rfl, rfl, Try.sizeOf72⟩
instance : TyF Try.prog 77 7 7 := ⟨_, _, _, Try.underlying77, rfl, rfl, Try.sizeOf73⟩
instance : TyF Try.prog 77 8 8 := ⟨_, _, _, Try.underlying77, rfl, rfl, Try.sizeOf74⟩
instance : TyF Try.prog 77 9 9 := ⟨_, _, _, Try.underlying77, rfl, rfl, Try.sizeOf75⟩
instance : TyF Try.prog 77 10 10 := ⟨_, _, _, Try.underlying77, rfl, rfl, Try.sizeOf76⟩
instance : TyI Try.prog 77 ⟨11, 48, (Go.Value.agg #[(Go.Value.int Go.IntKind.u64 0), (Go.Value.int Go.IntKind.u64 0), (Go.Value.int Go.IntKind.u32 0), (Go.Value.int Go.IntKind.u8 0), (Go.Value.int Go.IntKind.u8 0), (Go.Value.int Go.IntKind.u8 0), (Go.Value.int Go.IntKind.u8 0), Go.Value.nilFunc, (Go.Value.pointer none), (Go.Value.int Go.IntKind.i32 0), (Go.Value.int Go.IntKind.i32 0)])⟩ := .mk' (by kernel_rfl)
instance : TyU Try.prog 78 (Go.TypeDesc.struct #[{ name := "Size_", type := 12, offset := 0, embedded := false, tag := "", pkgPath := "", byteOffset := 0 }, { name := "PtrBytes", type := 12, offset := 1, embedded := false, tag := "", pkgPath := "", byteOffset := 8 }, { name := "Hash", type := 70, offset := 2, embedded := false, tag := "", pkgPath := "", byteOffset := 16 }, { name := "TFlag", type := 71, offset := 3, embedded := false, tag := "", pkgPath := "", byteOffset := 20 }, { name := "Align_", type := 5, offset := 4, embedded := false, tag := "", pkgPath := "", byteOffset := 21 }, { name := "FieldAlign_", type := 5, offset := 5, embedded := false, tag := "", pkgPath := "", byteOffset := 22 }, { name := "Kind_", type := 72, offset := 6, embedded := false, tag := "", pkgPath := "", byteOffset := 23 }, { name := "Equal", type := 73, offset := 7, embedded := false, tag := "", pkgPath := "", byteOffset := 24 }, { name := "GCData", type := 74, offset := 8, embedded := false, tag := "", pkgPath := "", byteOffset := 32 }, { name := "Str", type := 75, offset := 9, embedded := false, tag := "", pkgPath := "", byteOffset := 40 }, { name := "PtrToThis", type := 76, offset := 10, embedded := false, tag := "", pkgPath := "", byteOffset := 44 }]) := ⟨Try.underlying78⟩
instance : TyP Try.prog 78 [(0, 1), (1, 1), (2, 1), (3, 1), (4, 1), (5, 1), (6, 1), (7, 1), (8, 1), (9, 1), (10, 1)] := ⟨_, Try.underlying78, fun w => by kernel_rfl⟩
instance : TyF Try.prog 78 0 0 := ⟨_, _, _, Try.underlying78, rfl, rfl, Try.sizeOf12⟩
instance : TyF Try.prog 78 1 1 := ⟨_, _, _, Try.underlying78, rfl, rfl, Try.sizeOf12⟩
instance : TyF Try.prog 78 2 2 := ⟨_, _, _, Try.underlying78, rfl, rfl, Try.sizeOf70⟩
instance : TyF Try.prog 78 3 3 := ⟨_, _, _, Try.underlying78, rfl, rfl, Try.sizeOf71⟩
instance : TyF Try.prog 78 4 4 := ⟨_, _, _, Try.underlying78, rfl, rfl, Try.sizeOf5⟩
instance : TyF Try.prog 78 5 5 := ⟨_, _, _, Try.underlying78, rfl, rfl, Try.sizeOf5⟩
instance : TyF Try.prog 78 6 6 := ⟨_, _, _, Try.underlying78, rfl, rfl, Try.sizeOf72⟩
instance : TyF Try.prog 78 7 7 := ⟨_, _, _, Try.underlying78, rfl, rfl, Try.sizeOf73⟩
instance : TyF Try.prog 78 8 8 := ⟨_, _, _, Try.underlying78, rfl, rfl, Try.sizeOf74⟩
instance : TyF Try.prog 78 9 9 := ⟨_, _, _, Try.underlying78, rfl, rfl, Try.sizeOf75⟩
instance : TyF Try.prog 78 10 10 := ⟨_, _, _, Try.underlying78, rfl, rfl, Try.sizeOf76⟩
instance : TyI Try.prog 78 ⟨11, 48, (Go.Value.agg #[(Go.Value.int Go.IntKind.u64 0), (Go.Value.int Go.IntKind.u64 0), (Go.Value.int Go.IntKind.u32 0), (Go.Value.int Go.IntKind.u8 0), (Go.Value.int Go.IntKind.u8 0), (Go.Value.int Go.IntKind.u8 0), (Go.Value.int Go.IntKind.u8 0), Go.Value.nilFunc, (Go.Value.pointer none), (Go.Value.int Go.IntKind.i32 0), (Go.Value.int Go.IntKind.i32 0)])⟩ := .mk' (by kernel_rfl)
instance : TyU Try.prog 79 Go.TypeDesc.unsafePointer := ⟨Try.underlying79⟩
instance : TyI Try.prog 79 ⟨1, 8, (Go.Value.pointer none)⟩ := .mk' (by kernel_rfl)
instance : CallOk Try.prog 2 := ⟨Try.call2⟩
instance : CallOk Try.prog 3 := ⟨Try.call3⟩
instance : CallOk Try.prog 4 := ⟨Try.call4⟩
instance : CallOk Try.prog 5 := ⟨Try.call5⟩
instance : CallOk Try.prog 6 := ⟨Try.call6⟩
instance : CallOk Try.prog 7 := ⟨Try.call7⟩
instance : CallOk Try.prog 8 := ⟨Try.call8⟩
instance : CallOk Try.prog 9 := ⟨Try.call9⟩
instance : CallOk Try.prog 10 := ⟨Try.call10⟩
instance : CallOk Try.prog 11 := ⟨Try.call11⟩
instance : CallOk Try.prog 12 := ⟨Try.call12⟩
instance : CallOk Try.prog 13 := ⟨Try.call13⟩
instance : CallOk Try.prog 14 := ⟨Try.call14⟩
instance : CallOk Try.prog 15 := ⟨Try.call15⟩
instance : CallOk Try.prog 16 := ⟨Try.call16⟩
instance : CallOk Try.prog 17 := ⟨Try.call17⟩
instance : CallOk Try.prog 18 := ⟨Try.call18⟩
instance : CallOk Try.prog 19 := ⟨Try.call19⟩
instance : CallOk Try.prog 20 := ⟨Try.call20⟩
instance : CallOk Try.prog 21 := ⟨Try.call21⟩
instance : CallOk Try.prog 22 := ⟨Try.call22⟩
instance : CallOk Try.prog 23 := ⟨Try.call23⟩
instance : CallOk Try.prog 24 := ⟨Try.call24⟩
instance : CallOk Try.prog 25 := ⟨Try.call25⟩
instance : CallOk Try.prog 26 := ⟨Try.call26⟩
instance : CallOk Try.prog 27 := ⟨Try.call27⟩
instance : CallOk Try.prog 28 := ⟨Try.call28⟩
end VK
