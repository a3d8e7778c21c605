/- The seat's tables as instances: each type's make, size and zero; each function may be called; the order of open regions is any. No conditions. -/
import Derived.Test.YtmjmlmjcfekphaaProg
import Derived.Test.YtmjmlmjcfekphaaV1
import Derived.KernelRfl
namespace VK
open Go Go.Proofs
instance : Mixed Try.prog := ⟨by kernel_rfl⟩
instance : TyU Try.prog 0 (Go.TypeDesc.tuple #[]) := ⟨Try.underlying0⟩
instance : TyI Try.prog 0 ⟨1, 0, (Go.Value.tuple #[])⟩ := .mk' (by kernel_rfl)
instance : TyU Try.prog 1 (Go.TypeDesc.func #[] #[] false) := ⟨Try.underlying1⟩
instance : TyI Try.prog 1 ⟨1, 8, Go.Value.nilFunc⟩ := .mk' (by kernel_rfl)
instance : TyU Try.prog 2 (Go.TypeDesc.int Go.IntKind.i64) := ⟨Try.underlying2⟩
instance : TyI Try.prog 2 ⟨1, 8, (Go.Value.int Go.IntKind.i64 0)⟩ := .mk' (by kernel_rfl)
instance : TyU Try.prog 3 (Go.TypeDesc.int Go.IntKind.i64) := ⟨Try.underlying3⟩
instance : TyI Try.prog 3 ⟨1, 8, (Go.Value.int Go.IntKind.i64 0)⟩ := .mk' (by kernel_rfl)
instance : TyU Try.prog 4 Go.TypeDesc.bool := ⟨Try.underlying4⟩
instance : TyI Try.prog 4 ⟨1, 1, (Go.Value.bool false)⟩ := .mk' (by kernel_rfl)
instance : TyU Try.prog 5 (Go.TypeDesc.int Go.IntKind.u8) := ⟨Try.underlying5⟩
instance : TyI Try.prog 5 ⟨1, 1, (Go.Value.int Go.IntKind.u8 0)⟩ := .mk' (by kernel_rfl)
instance : TyU Try.prog 6 (Go.TypeDesc.int Go.IntKind.u8) := ⟨Try.underlying6⟩
instance : TyI Try.prog 6 ⟨1, 1, (Go.Value.int Go.IntKind.u8 0)⟩ := .mk' (by kernel_rfl)
instance : TyU Try.prog 7 (Go.TypeDesc.struct #[{ name := "x", type := 2, offset := 0, embedded := false, tag := "", pkgPath := "runtime", byteOffset := 0 }, { name := "y", type := 3, offset := 1, embedded := false, tag := "", pkgPath := "runtime", byteOffset := 8 }, { name := "signed", type := 4, offset := 2, embedded := false, tag := "", pkgPath := "runtime", byteOffset := 16 }, { name := "code", type := 6, offset := 3, embedded := false, tag := "", pkgPath := "runtime", byteOffset := 17 }]) := ⟨Try.underlying7⟩
instance : TyP Try.prog 7 [(0, 1), (1, 1), (2, 1), (3, 1)] := ⟨_, Try.underlying7, fun w => by kernel_rfl⟩
instance : TyF Try.prog 7 0 0 := ⟨_, _, _, Try.underlying7, rfl, rfl, Try.sizeOf2⟩
instance : TyF Try.prog 7 1 1 := ⟨_, _, _, Try.underlying7, rfl, rfl, Try.sizeOf3⟩
instance : TyF Try.prog 7 2 2 := ⟨_, _, _, Try.underlying7, rfl, rfl, Try.sizeOf4⟩
instance : TyF Try.prog 7 3 3 := ⟨_, _, _, Try.underlying7, rfl, rfl, Try.sizeOf6⟩
instance : TyI Try.prog 7 ⟨4, 24, (Go.Value.agg #[(Go.Value.int Go.IntKind.i64 0), (Go.Value.int Go.IntKind.i64 0), (Go.Value.bool false), (Go.Value.int Go.IntKind.u8 0)])⟩ := .mk' (by kernel_rfl)
instance : TyU Try.prog 8 (Go.TypeDesc.struct #[{ name := "x", type := 2, offset := 0, embedded := false, tag := "", pkgPath := "runtime", byteOffset := 0 }, { name := "y", type := 3, offset := 1, embedded := false, tag := "", pkgPath := "runtime", byteOffset := 8 }, { name := "signed", type := 4, offset := 2, embedded := false, tag := "", pkgPath := "runtime", byteOffset := 16 }, { name := "code", type := 6, offset := 3, embedded := false, tag := "", pkgPath := "runtime", byteOffset := 17 }]) := ⟨Try.underlying8⟩
instance : TyP Try.prog 8 [(0, 1), (1, 1), (2, 1), (3, 1)] := ⟨_, Try.underlying8, fun w => by kernel_rfl⟩
instance : TyF Try.prog 8 0 0 := ⟨_, _, _, Try.underlying8, rfl, rfl, Try.sizeOf2⟩
instance : TyF Try.prog 8 1 1 := ⟨_, _, _, Try.underlying8, rfl, rfl, Try.sizeOf3⟩
instance : TyF Try.prog 8 2 2 := ⟨_, _, _, Try.underlying8, rfl, rfl, Try.sizeOf4⟩
instance : TyF Try.prog 8 3 3 := ⟨_, _, _, Try.underlying8, rfl, rfl, Try.sizeOf6⟩
instance : TyI Try.prog 8 ⟨4, 24, (Go.Value.agg #[(Go.Value.int Go.IntKind.i64 0), (Go.Value.int Go.IntKind.i64 0), (Go.Value.bool false), (Go.Value.int Go.IntKind.u8 0)])⟩ := .mk' (by kernel_rfl)
instance : TyU Try.prog 9 Go.TypeDesc.string := ⟨Try.underlying9⟩
instance : TyI Try.prog 9 ⟨1, 16, (Go.Value.string { data := #[] })⟩ := .mk' (by kernel_rfl)
instance : TyU Try.prog 10 Go.TypeDesc.string := ⟨Try.underlying10⟩
instance : TyI Try.prog 10 ⟨1, 16, (Go.Value.string { data := #[] })⟩ := .mk' (by kernel_rfl)
instance : TyU Try.prog 11 Go.TypeDesc.string := ⟨Try.underlying11⟩
instance : TyI Try.prog 11 ⟨1, 16, (Go.Value.string { data := #[] })⟩ := .mk' (by kernel_rfl)
instance : TyU Try.prog 12 (Go.TypeDesc.int Go.IntKind.u64) := ⟨Try.underlying12⟩
instance : TyI Try.prog 12 ⟨1, 8, (Go.Value.int Go.IntKind.u64 0)⟩ := .mk' (by kernel_rfl)
instance : TyU Try.prog 13 (Go.TypeDesc.struct #[{ name := "msg", type := 9, offset := 0, embedded := false, tag := "", pkgPath := "runtime", byteOffset := 0 }, { name := "addr", type := 12, offset := 1, embedded := false, tag := "", pkgPath := "runtime", byteOffset := 16 }]) := ⟨Try.underlying13⟩
instance : TyP Try.prog 13 [(0, 1), (1, 1)] := ⟨_, Try.underlying13, fun w => by kernel_rfl⟩
instance : TyF Try.prog 13 0 0 := ⟨_, _, _, Try.underlying13, rfl, rfl, Try.sizeOf9⟩
instance : TyF Try.prog 13 1 1 := ⟨_, _, _, Try.underlying13, rfl, rfl, Try.sizeOf12⟩
instance : TyI Try.prog 13 ⟨2, 24, (Go.Value.agg #[(Go.Value.string { data := #[] }), (Go.Value.int Go.IntKind.u64 0)])⟩ := .mk' (by kernel_rfl)
instance : TyU Try.prog 14 (Go.TypeDesc.struct #[{ name := "msg", type := 9, offset := 0, embedded := false, tag := "", pkgPath := "runtime", byteOffset := 0 }, { name := "addr", type := 12, offset := 1, embedded := false, tag := "", pkgPath := "runtime", byteOffset := 16 }]) := ⟨Try.underlying14⟩
instance : TyP Try.prog 14 [(0, 1), (1, 1)] := ⟨_, Try.underlying14, fun w => by kernel_rfl⟩
instance : TyF Try.prog 14 0 0 := ⟨_, _, _, Try.underlying14, rfl, rfl, Try.sizeOf9⟩
instance : TyF Try.prog 14 1 1 := ⟨_, _, _, Try.underlying14, rfl, rfl, Try.sizeOf12⟩
instance : TyI Try.prog 14 ⟨2, 24, (Go.Value.agg #[(Go.Value.string { data := #[] }), (Go.Value.int Go.IntKind.u64 0)])⟩ := .mk' (by kernel_rfl)
instance : TyU Try.prog 15 (Go.TypeDesc.pointer 109) := ⟨Try.underlying15⟩
instance : TyI Try.prog 15 ⟨1, 8, (Go.Value.pointer none)⟩ := .mk' (by kernel_rfl)
instance : TyU Try.prog 16 (Go.TypeDesc.pointer 112) := ⟨Try.underlying16⟩
instance : TyI Try.prog 16 ⟨1, 8, (Go.Value.pointer none)⟩ := .mk' (by kernel_rfl)
instance : TyU Try.prog 17 (Go.TypeDesc.pointer 121) := ⟨Try.underlying17⟩
instance : TyI Try.prog 17 ⟨1, 8, (Go.Value.pointer none)⟩ := .mk' (by kernel_rfl)
instance : TyU Try.prog 18 (Go.TypeDesc.struct #[{ name := "typ", type := 17, offset := 0, embedded := false, tag := "", pkgPath := "internal/runtime/maps", byteOffset := 0 }]) := ⟨Try.underlying18⟩
instance : TyP Try.prog 18 [(0, 1)] := ⟨_, Try.underlying18, fun w => by kernel_rfl⟩
instance : TyF Try.prog 18 0 0 := ⟨_, _, _, Try.underlying18, rfl, rfl, Try.sizeOf17⟩
instance : TyI Try.prog 18 ⟨1, 8, (Go.Value.agg #[(Go.Value.pointer none)])⟩ := .mk' (by kernel_rfl)
instance : TyU Try.prog 19 (Go.TypeDesc.struct #[{ name := "typ", type := 17, offset := 0, embedded := false, tag := "", pkgPath := "internal/runtime/maps", byteOffset := 0 }]) := ⟨Try.underlying19⟩
instance : TyP Try.prog 19 [(0, 1)] := ⟨_, Try.underlying19, fun w => by kernel_rfl⟩
instance : TyF Try.prog 19 0 0 := ⟨_, _, _, Try.underlying19, rfl, rfl, Try.sizeOf17⟩
instance : TyI Try.prog 19 ⟨1, 8, (Go.Value.agg #[(Go.Value.pointer none)])⟩ := .mk' (by kernel_rfl)
instance : TyU Try.prog 20 (Go.TypeDesc.interface #[]) := ⟨Try.underlying20⟩
instance : TyI Try.prog 20 ⟨1, 16, Go.Value.nilIface⟩ := .mk' (by kernel_rfl)
instance : TyU Try.prog 21 (Go.TypeDesc.int Go.IntKind.i32) := ⟨Try.underlying21⟩
instance : TyI Try.prog 21 ⟨1, 4, (Go.Value.int Go.IntKind.i32 0)⟩ := .mk' (by kernel_rfl)
instance : TyU Try.prog 22 (Go.TypeDesc.slice 39) := ⟨Try.underlying22⟩
instance : TyI Try.prog 22 ⟨1, 24, (Go.Value.slice none 0 0)⟩ := .mk' (by kernel_rfl)
instance : TyU Try.prog 23 (Go.TypeDesc.func #[] #[4] false) := ⟨Try.underlying23⟩
instance : TyI Try.prog 23 ⟨1, 8, Go.Value.nilFunc⟩ := .mk' (by kernel_rfl)
instance : TyU Try.prog 24 (Go.TypeDesc.pointer 68) := ⟨Try.underlying24⟩
instance : TyI Try.prog 24 ⟨1, 8, (Go.Value.pointer none)⟩ := .mk' (by kernel_rfl)
instance : TyU Try.prog 25 (Go.TypeDesc.int Go.IntKind.i64) := ⟨Try.underlying25⟩
instance : TyI Try.prog 25 ⟨1, 8, (Go.Value.int Go.IntKind.i64 0)⟩ := .mk' (by kernel_rfl)
instance : TyU Try.prog 26 (Go.TypeDesc.tuple #[24, 25]) := ⟨Try.underlying26⟩
instance : TyI Try.prog 26 ⟨1, 0, (Go.Value.tuple #[(Go.Value.pointer none), (Go.Value.int Go.IntKind.i64 0)])⟩ := .mk' (by kernel_rfl)
instance : TyU Try.prog 27 (Go.TypeDesc.func #[3, 3] #[24, 25] false) := ⟨Try.underlying27⟩
instance : TyI Try.prog 27 ⟨1, 8, Go.Value.nilFunc⟩ := .mk' (by kernel_rfl)
instance : TyU Try.prog 28 (Go.TypeDesc.struct #[{ name := "Kind", type := 3, offset := 0, embedded := false, tag := "", pkgPath := "", byteOffset := 0 }, { name := "Path", type := 9, offset := 1, embedded := false, tag := "", pkgPath := "", byteOffset := 8 }, { name := "To", type := 9, offset := 2, embedded := false, tag := "", pkgPath := "", byteOffset := 24 }, { name := "Data", type := 9, offset := 3, embedded := false, tag := "", pkgPath := "", byteOffset := 40 }, { name := "At", type := 3, offset := 4, embedded := false, tag := "", pkgPath := "", byteOffset := 56 }, { name := "Size", type := 3, offset := 5, embedded := false, tag := "", pkgPath := "", byteOffset := 64 }]) := ⟨Try.underlying28⟩
instance : TyP Try.prog 28 [(0, 1), (1, 1), (2, 1), (3, 1), (4, 1), (5, 1)] := ⟨_, Try.underlying28, fun w => by kernel_rfl⟩
instance : TyF Try.prog 28 0 0 := ⟨_, _, _, Try.underlying28, rfl, rfl, Try.sizeOf3⟩
instance : TyF Try.prog 28 1 1 := ⟨_, _, _, Try.underlying28, rfl, rfl, Try.sizeOf9⟩
instance : TyF Try.prog 28 2 2 := ⟨_, _, _, Try.underlying28, rfl, rfl, Try.sizeOf9⟩
instance : TyF Try.prog 28 3 3 := ⟨_, _, _, Try.underlying28, rfl, rfl, Try.sizeOf9⟩
instance : TyF Try.prog 28 4 4 := ⟨_, _, _, Try.underlying28, rfl, rfl, Try.sizeOf3⟩
instance : TyF Try.prog 28 5 5 := ⟨_, _, _, Try.underlying28, rfl, rfl, Try.sizeOf3⟩
instance : TyI Try.prog 28 ⟨6, 72, (Go.Value.agg #[(Go.Value.int Go.IntKind.i64 0), (Go.Value.string { data := #[] }), (Go.Value.string { data := #[] }), (Go.Value.string { data := #[] }), (Go.Value.int Go.IntKind.i64 0), (Go.Value.int Go.IntKind.i64 0)])⟩ := .mk' (by kernel_rfl)
instance : TyU Try.prog 29 (Go.TypeDesc.struct #[{ name := "Kind", type := 3, offset := 0, embedded := false, tag := "", pkgPath := "", byteOffset := 0 }, { name := "Path", type := 9, offset := 1, embedded := false, tag := "", pkgPath := "", byteOffset := 8 }, { name := "To", type := 9, offset := 2, embedded := false, tag := "", pkgPath := "", byteOffset := 24 }, { name := "Data", type := 9, offset := 3, embedded := false, tag := "", pkgPath := "", byteOffset := 40 }, { name := "At", type := 3, offset := 4, embedded := false, tag := "", pkgPath := "", byteOffset := 56 }, { name := "Size", type := 3, offset := 5, embedded := false, tag := "", pkgPath := "", byteOffset := 64 }]) := ⟨Try.underlying29⟩
instance : TyP Try.prog 29 [(0, 1), (1, 1), (2, 1), (3, 1), (4, 1), (5, 1)] := ⟨_, Try.underlying29, fun w => by kernel_rfl⟩
instance : TyF Try.prog 29 0 0 := ⟨_, _, _, Try.underlying29, rfl, rfl, Try.sizeOf3⟩
instance : TyF Try.prog 29 1 1 := ⟨_, _, _, Try.underlying29, rfl, rfl, Try.sizeOf9⟩
instance : TyF Try.prog 29 2 2 := ⟨_, _, _, Try.underlying29, rfl, rfl, Try.sizeOf9⟩
instance : TyF Try.prog 29 3 3 := ⟨_, _, _, Try.underlying29, rfl, rfl, Try.sizeOf9⟩
instance : TyF Try.prog 29 4 4 := ⟨_, _, _, Try.underlying29, rfl, rfl, Try.sizeOf3⟩
instance : TyF Try.prog 29 5 5 := ⟨_, _, _, Try.underlying29, rfl, rfl, Try.sizeOf3⟩
instance : TyI Try.prog 29 ⟨6, 72, (Go.Value.agg #[(Go.Value.int Go.IntKind.i64 0), (Go.Value.string { data := #[] }), (Go.Value.string { data := #[] }), (Go.Value.string { data := #[] }), (Go.Value.int Go.IntKind.i64 0), (Go.Value.int Go.IntKind.i64 0)])⟩ := .mk' (by kernel_rfl)
instance : TyU Try.prog 30 (Go.TypeDesc.array 32 5) := ⟨Try.underlying30⟩
instance : TyI Try.prog 30 ⟨32, 32, (Go.Value.agg #[(Go.Value.int Go.IntKind.u8 0), (Go.Value.int Go.IntKind.u8 0), (Go.Value.int Go.IntKind.u8 0), (Go.Value.int Go.IntKind.u8 0), (Go.Value.int Go.IntKind.u8 0), (Go.Value.int Go.IntKind.u8 0), (Go.Value.int Go.IntKind.u8 0), (Go.Value.int Go.IntKind.u8 0), (Go.Value.int Go.IntKind.u8 0), (Go.Value.int Go.IntKind.u8 0), (Go.Value.int Go.IntKind.u8 0), (Go.Value.int Go.IntKind.u8 0), (Go.Value.int Go.IntKind.u8 0), (Go.Value.int Go.IntKind.u8 0), (Go.Value.int Go.IntKind.u8 0), (Go.Value.int Go.IntKind.u8 0), (Go.Value.int Go.IntKind.u8 0), (Go.Value.int Go.IntKind.u8 0), (Go.Value.int Go.IntKind.u8 0), (Go.Value.int Go.IntKind.u8 0), (Go.Value.int Go.IntKind.u8 0), (Go.Value.int Go.IntKind.u8 0), (Go.Value.int Go.IntKind.u8 0), (Go.Value.int Go.IntKind.u8 0), (Go.Value.int Go.IntKind.u8 0), (Go.Value.int Go.IntKind.u8 0), (Go.Value.int Go.IntKind.u8 0), (Go.Value.int Go.IntKind.u8 0), (Go.Value.int Go.IntKind.u8 0), (Go.Value.int Go.IntKind.u8 0), (Go.Value.int Go.IntKind.u8 0), (Go.Value.int Go.IntKind.u8 0)])⟩ := .mk' (by kernel_rfl)
instance : TyU Try.prog 31 (Go.TypeDesc.array 32 5) := ⟨Try.underlying31⟩
instance : TyI Try.prog 31 ⟨32, 32, (Go.Value.agg #[(Go.Value.int Go.IntKind.u8 0), (Go.Value.int Go.IntKind.u8 0), (Go.Value.int Go.IntKind.u8 0), (Go.Value.int Go.IntKind.u8 0), (Go.Value.int Go.IntKind.u8 0), (Go.Value.int Go.IntKind.u8 0), (Go.Value.int Go.IntKind.u8 0), (Go.Value.int Go.IntKind.u8 0), (Go.Value.int Go.IntKind.u8 0), (Go.Value.int Go.IntKind.u8 0), (Go.Value.int Go.IntKind.u8 0), (Go.Value.int Go.IntKind.u8 0), (Go.Value.int Go.IntKind.u8 0), (Go.Value.int Go.IntKind.u8 0), (Go.Value.int Go.IntKind.u8 0), (Go.Value.int Go.IntKind.u8 0), (Go.Value.int Go.IntKind.u8 0), (Go.Value.int Go.IntKind.u8 0), (Go.Value.int Go.IntKind.u8 0), (Go.Value.int Go.IntKind.u8 0), (Go.Value.int Go.IntKind.u8 0), (Go.Value.int Go.IntKind.u8 0), (Go.Value.int Go.IntKind.u8 0), (Go.Value.int Go.IntKind.u8 0), (Go.Value.int Go.IntKind.u8 0), (Go.Value.int Go.IntKind.u8 0), (Go.Value.int Go.IntKind.u8 0), (Go.Value.int Go.IntKind.u8 0), (Go.Value.int Go.IntKind.u8 0), (Go.Value.int Go.IntKind.u8 0), (Go.Value.int Go.IntKind.u8 0), (Go.Value.int Go.IntKind.u8 0)])⟩ := .mk' (by kernel_rfl)
instance : TyU Try.prog 32 (Go.TypeDesc.slice 58) := ⟨Try.underlying32⟩
instance : TyI Try.prog 32 ⟨1, 24, (Go.Value.slice none 0 0)⟩ := .mk' (by kernel_rfl)
instance : TyU Try.prog 33 (Go.TypeDesc.slice 9) := ⟨Try.underlying33⟩
instance : TyI Try.prog 33 ⟨1, 24, (Go.Value.slice none 0 0)⟩ := .mk' (by kernel_rfl)
instance : TyU Try.prog 34 (Go.TypeDesc.struct #[{ name := "Code", type := 25, offset := 0, embedded := false, tag := "", pkgPath := "", byteOffset := 0 }, { name := "Dir", type := 4, offset := 1, embedded := false, tag := "", pkgPath := "", byteOffset := 8 }, { name := "Size", type := 3, offset := 2, embedded := false, tag := "", pkgPath := "", byteOffset := 16 }, { name := "Data", type := 9, offset := 3, embedded := false, tag := "", pkgPath := "", byteOffset := 24 }, { name := "Names", type := 33, offset := 4, embedded := false, tag := "", pkgPath := "", byteOffset := 40 }]) := ⟨Try.underlying34⟩
instance : TyP Try.prog 34 [(0, 1), (1, 1), (2, 1), (3, 1), (4, 1)] := ⟨_, Try.underlying34, fun w => by kernel_rfl⟩
instance : TyF Try.prog 34 0 0 := ⟨_, _, _, Try.underlying34, rfl, rfl, Try.sizeOf25⟩
instance : TyF Try.prog 34 1 1 := ⟨_, _, _, Try.underlying34, rfl, rfl, Try.sizeOf4⟩
instance : TyF Try.prog 34 2 2 := ⟨_, _, _, Try.underlying34, rfl, rfl, Try.sizeOf3⟩
instance : TyF Try.prog 34 3 3 := ⟨_, _, _, Try.underlying34, rfl, rfl, Try.sizeOf9⟩
instance : TyF Try.prog 34 4 4 := ⟨_, _, _, Try.underlying34, rfl, rfl, Try.sizeOf33⟩
instance : TyI Try.prog 34 ⟨5, 64, (Go.Value.agg #[(Go.Value.int Go.IntKind.i64 0), (Go.Value.bool false), (Go.Value.int Go.IntKind.i64 0), (Go.Value.string { data := #[] }), (Go.Value.slice none 0 0)])⟩ := .mk' (by kernel_rfl)
instance : TyU Try.prog 35 (Go.TypeDesc.struct #[{ name := "Code", type := 25, offset := 0, embedded := false, tag := "", pkgPath := "", byteOffset := 0 }, { name := "Dir", type := 4, offset := 1, embedded := false, tag := "", pkgPath := "", byteOffset := 8 }, { name := "Size", type := 3, offset := 2, embedded := false, tag := "", pkgPath := "", byteOffset := 16 }, { name := "Data", type := 9, offset := 3, embedded := false, tag := "", pkgPath := "", byteOffset := 24 }, { name := "Names", type := 33, offset := 4, embedded := false, tag := "", pkgPath := "", byteOffset := 40 }]) := ⟨Try.underlying35⟩
instance : TyP Try.prog 35 [(0, 1), (1, 1), (2, 1), (3, 1), (4, 1)] := ⟨_, Try.underlying35, fun w => by kernel_rfl⟩
instance : TyF Try.prog 35 0 0 := ⟨_, _, _, Try.underlying35, rfl, rfl, Try.sizeOf25⟩
instance : TyF Try.prog 35 1 1 := ⟨_, _, _, Try.underlying35, rfl, rfl, Try.sizeOf4⟩
instance : TyF Try.prog 35 2 2 := ⟨_, _, _, Try.underlying35, rfl, rfl, Try.sizeOf3⟩
instance : TyF Try.prog 35 3 3 := ⟨_, _, _, Try.underlying35, rfl, rfl, Try.sizeOf9⟩
instance : TyF Try.prog 35 4 4 := ⟨_, _, _, Try.underlying35, rfl, rfl, Try.sizeOf33⟩
instance : TyI Try.prog 35 ⟨5, 64, (Go.Value.agg #[(Go.Value.int Go.IntKind.i64 0), (Go.Value.bool false), (Go.Value.int Go.IntKind.i64 0), (Go.Value.string { data := #[] }), (Go.Value.slice none 0 0)])⟩ := .mk' (by kernel_rfl)
instance : TyU Try.prog 36 (Go.TypeDesc.struct #[{ name := "Kind", type := 3, offset := 0, embedded := false, tag := "", pkgPath := "", byteOffset := 0 }, { name := "From", type := 3, offset := 1, embedded := false, tag := "", pkgPath := "", byteOffset := 8 }, { name := "To", type := 3, offset := 2, embedded := false, tag := "", pkgPath := "", byteOffset := 16 }, { name := "View", type := 2, offset := 3, embedded := false, tag := "", pkgPath := "", byteOffset := 24 }, { name := "Normal", type := 2, offset := 4, embedded := false, tag := "", pkgPath := "", byteOffset := 32 }, { name := "Last", type := 2, offset := 5, embedded := false, tag := "", pkgPath := "", byteOffset := 40 }, { name := "Commit", type := 2, offset := 6, embedded := false, tag := "", pkgPath := "", byteOffset := 48 }, { name := "Behind", type := 2, offset := 7, embedded := false, tag := "", pkgPath := "", byteOffset := 56 }, { name := "Root", type := 31, offset := 8, embedded := false, tag := "", pkgPath := "", byteOffset := 64 }, { name := "Entries", type := 32, offset := 40, embedded := false, tag := "", pkgPath := "", byteOffset := 96 }, { name := "Data", type := 9, offset := 41, embedded := false, tag := "", pkgPath := "", byteOffset := 120 }, { name := "Result", type := 35, offset := 42, embedded := false, tag := "", pkgPath := "", byteOffset := 136 }]) := ⟨Try.underlying36⟩
instance : TyP Try.prog 36 [(0, 1), (1, 1), (2, 1), (3, 1), (4, 1), (5, 1), (6, 1), (7, 1), (8, 32), (40, 1), (41, 1), (42, 5)] := ⟨_, Try.underlying36, fun w => by kernel_rfl⟩
instance : TyF Try.prog 36 0 0 := ⟨_, _, _, Try.underlying36, rfl, rfl, Try.sizeOf3⟩
instance : TyF Try.prog 36 1 1 := ⟨_, _, _, Try.underlying36, rfl, rfl, Try.sizeOf3⟩
instance : TyF Try.prog 36 2 2 := ⟨_, _, _, Try.underlying36, rfl, rfl, Try.sizeOf3⟩
instance : TyF Try.prog 36 3 3 := ⟨_, _, _, Try.underlying36, rfl, rfl, Try.sizeOf2⟩
instance : TyF Try.prog 36 4 4 := ⟨_, _, _, Try.underlying36, rfl, rfl, Try.sizeOf2⟩
instance : TyF Try.prog 36 5 5 := ⟨_, _, _, Try.underlying36, rfl, rfl, Try.sizeOf2⟩
instance : TyF Try.prog 36 6 6 := ⟨_, _, _, Try.underlying36, rfl, rfl, Try.sizeOf2⟩
instance : TyF Try.prog 36 7 7 := ⟨_, _, _, Try.underlying36, rfl, rfl, Try.sizeOf2⟩
instance : TyF Try.prog 36 8 8 := ⟨_, _, _, Try.underlying36, rfl, rfl, Try.sizeOf31⟩
instance : TyF Try.prog 36 9 40 := ⟨_, _, _, Try.underlying36, rfl, rfl, Try.sizeOf32⟩
instance : TyF Try.prog 36 10 41 := ⟨_, _, _, Try.underlying36, rfl, rfl, Try.sizeOf9⟩
instance : TyF Try.prog 36 11 42 := ⟨_, _, _, Try.underlying36, rfl, rfl, Try.sizeOf35⟩
instance : TyI Try.prog 36 ⟨47, 200, (Go.Value.agg #[(Go.Value.int Go.IntKind.i64 0), (Go.Value.int Go.IntKind.i64 0), (Go.Value.int Go.IntKind.i64 0), (Go.Value.int Go.IntKind.i64 0), (Go.Value.int Go.IntKind.i64 0), (Go.Value.int Go.IntKind.i64 0), (Go.Value.int Go.IntKind.i64 0), (Go.Value.int Go.IntKind.i64 0), (Go.Value.int Go.IntKind.u8 0), (Go.Value.int Go.IntKind.u8 0), (Go.Value.int Go.IntKind.u8 0), (Go.Value.int Go.IntKind.u8 0), (Go.Value.int Go.IntKind.u8 0), (Go.Value.int Go.IntKind.u8 0), (Go.Value.int Go.IntKind.u8 0), (Go.Value.int Go.IntKind.u8 0), (Go.Value.int Go.IntKind.u8 0), (Go.Value.int Go.IntKind.u8 0), (Go.Value.int Go.IntKind.u8 0), (Go.Value.int Go.IntKind.u8 0), (Go.Value.int Go.IntKind.u8 0), (Go.Value.int Go.IntKind.u8 0), (Go.Value.int Go.IntKind.u8 0), (Go.Value.int Go.IntKind.u8 0), (Go.Value.int Go.IntKind.u8 0), (Go.Value.int Go.IntKind.u8 0), (Go.Value.int Go.IntKind.u8 0), (Go.Value.int Go.IntKind.u8 0), (Go.Value.int Go.IntKind.u8 0), (Go.Value.int Go.IntKind.u8 0), (Go.Value.int Go.IntKind.u8 0), (Go.Value.int Go.IntKind.u8 0), (Go.Value.int Go.IntKind.u8 0), (Go.Value.int Go.IntKind.u8 0), (Go.Value.int Go.IntKind.u8 0), (Go.Value.int Go.IntKind.u8 0), (Go.Value.int Go.IntKind.u8 0), (Go.Value.int Go.IntKind.u8 0), (Go.Value.int Go.IntKind.u8 0), (Go.Value.int Go.IntKind.u8 0), (Go.Value.slice none 0 0), (Go.Value.string { data := #[] }), (Go.Value.int Go.IntKind.i64 0), (Go.Value.bool false), (Go.Value.int Go.IntKind.i64 0), (Go.Value.string { data := #[] }), (Go.Value.slice none 0 0)])⟩ := .mk' (by kernel_rfl)
instance : TyU Try.prog 37 (Go.TypeDesc.struct #[{ name := "Kind", type := 3, offset := 0, embedded := false, tag := "", pkgPath := "", byteOffset := 0 }, { name := "From", type := 3, offset := 1, embedded := false, tag := "", pkgPath := "", byteOffset := 8 }, { name := "To", type := 3, offset := 2, embedded := false, tag := "", pkgPath := "", byteOffset := 16 }, { name := "View", type := 2, offset := 3, embedded := false, tag := "", pkgPath := "", byteOffset := 24 }, { name := "Normal", type := 2, offset := 4, embedded := false, tag := "", pkgPath := "", byteOffset := 32 }, { name := "Last", type := 2, offset := 5, embedded := false, tag := "", pkgPath := "", byteOffset := 40 }, { name := "Commit", type := 2, offset := 6, embedded := false, tag := "", pkgPath := "", byteOffset := 48 }, { name := "Behind", type := 2, offset := 7, embedded := false, tag := "", pkgPath := "", byteOffset := 56 }, { name := "Root", type := 31, offset := 8, embedded := false, tag := "", pkgPath := "", byteOffset := 64 }, { name := "Entries", type := 32, offset := 40, embedded := false, tag := "", pkgPath := "", byteOffset := 96 }, { name := "Data", type := 9, offset := 41, embedded := false, tag := "", pkgPath := "", byteOffset := 120 }, { name := "Result", type := 35, offset := 42, embedded := false, tag := "", pkgPath := "", byteOffset := 136 }]) := ⟨Try.underlying37⟩
instance : TyP Try.prog 37 [(0, 1), (1, 1), (2, 1), (3, 1), (4, 1), (5, 1), (6, 1), (7, 1), (8, 32), (40, 1), (41, 1), (42, 5)] := ⟨_, Try.underlying37, fun w => by kernel_rfl⟩
instance : TyF Try.prog 37 0 0 := ⟨_, _, _, Try.underlying37, rfl, rfl, Try.sizeOf3⟩
instance : TyF Try.prog 37 1 1 := ⟨_, _, _, Try.underlying37, rfl, rfl, Try.sizeOf3⟩
instance : TyF Try.prog 37 2 2 := ⟨_, _, _, Try.underlying37, rfl, rfl, Try.sizeOf3⟩
instance : TyF Try.prog 37 3 3 := ⟨_, _, _, Try.underlying37, rfl, rfl, Try.sizeOf2⟩
instance : TyF Try.prog 37 4 4 := ⟨_, _, _, Try.underlying37, rfl, rfl, Try.sizeOf2⟩
instance : TyF Try.prog 37 5 5 := ⟨_, _, _, Try.underlying37, rfl, rfl, Try.sizeOf2⟩
instance : TyF Try.prog 37 6 6 := ⟨_, _, _, Try.underlying37, rfl, rfl, Try.sizeOf2⟩
instance : TyF Try.prog 37 7 7 := ⟨_, _, _, Try.underlying37, rfl, rfl, Try.sizeOf2⟩
instance : TyF Try.prog 37 8 8 := ⟨_, _, _, Try.underlying37, rfl, rfl, Try.sizeOf31⟩
instance : TyF Try.prog 37 9 40 := ⟨_, _, _, Try.underlying37, rfl, rfl, Try.sizeOf32⟩
instance : TyF Try.prog 37 10 41 := ⟨_, _, _, Try.underlying37, rfl, rfl, Try.sizeOf9⟩
instance : TyF Try.prog 37 11 42 := ⟨_, _, _, Try.underlying37, rfl, rfl, Try.sizeOf35⟩
instance : TyI Try.prog 37 ⟨47, 200, (Go.Value.agg #[(Go.Value.int Go.IntKind.i64 0), (Go.Value.int Go.IntKind.i64 0), (Go.Value.int Go.IntKind.i64 0), (Go.Value.int Go.IntKind.i64 0), (Go.Value.int Go.IntKind.i64 0), (Go.Value.int Go.IntKind.i64 0), (Go.Value.int Go.IntKind.i64 0), (Go.Value.int Go.IntKind.i64 0), (Go.Value.int Go.IntKind.u8 0), (Go.Value.int Go.IntKind.u8 0), (Go.Value.int Go.IntKind.u8 0), (Go.Value.int Go.IntKind.u8 0), (Go.Value.int Go.IntKind.u8 0), (Go.Value.int Go.IntKind.u8 0), (Go.Value.int Go.IntKind.u8 0), (Go.Value.int Go.IntKind.u8 0), (Go.Value.int Go.IntKind.u8 0), (Go.Value.int Go.IntKind.u8 0), (Go.Value.int Go.IntKind.u8 0), (Go.Value.int Go.IntKind.u8 0), (Go.Value.int Go.IntKind.u8 0), (Go.Value.int Go.IntKind.u8 0), (Go.Value.int Go.IntKind.u8 0), (Go.Value.int Go.IntKind.u8 0), (Go.Value.int Go.IntKind.u8 0), (Go.Value.int Go.IntKind.u8 0), (Go.Value.int Go.IntKind.u8 0), (Go.Value.int Go.IntKind.u8 0), (Go.Value.int Go.IntKind.u8 0), (Go.Value.int Go.IntKind.u8 0), (Go.Value.int Go.IntKind.u8 0), (Go.Value.int Go.IntKind.u8 0), (Go.Value.int Go.IntKind.u8 0), (Go.Value.int Go.IntKind.u8 0), (Go.Value.int Go.IntKind.u8 0), (Go.Value.int Go.IntKind.u8 0), (Go.Value.int Go.IntKind.u8 0), (Go.Value.int Go.IntKind.u8 0), (Go.Value.int Go.IntKind.u8 0), (Go.Value.int Go.IntKind.u8 0), (Go.Value.slice none 0 0), (Go.Value.string { data := #[] }), (Go.Value.int Go.IntKind.i64 0), (Go.Value.bool false), (Go.Value.int Go.IntKind.i64 0), (Go.Value.string { data := #[] }), (Go.Value.slice none 0 0)])⟩ := .mk' (by kernel_rfl)
instance : TyU Try.prog 38 (Go.TypeDesc.struct #[{ name := "Kind", type := 3, offset := 0, embedded := false, tag := "", pkgPath := "", byteOffset := 0 }, { name := "Op", type := 29, offset := 1, embedded := false, tag := "", pkgPath := "", byteOffset := 8 }, { name := "M", type := 37, offset := 7, embedded := false, tag := "", pkgPath := "", byteOffset := 80 }]) := ⟨Try.underlying38⟩
instance : TyP Try.prog 38 [(0, 1), (1, 6), (7, 47)] := ⟨_, Try.underlying38, fun w => by kernel_rfl⟩
instance : TyF Try.prog 38 0 0 := ⟨_, _, _, Try.underlying38, rfl, rfl, Try.sizeOf3⟩
instance : TyF Try.prog 38 1 1 := ⟨_, _, _, Try.underlying38, rfl, rfl, Try.sizeOf29⟩
instance : TyF Try.prog 38 2 7 := ⟨_, _, _, Try.underlying38, rfl, rfl, Try.sizeOf37⟩
instance : TyI Try.prog 38 ⟨54, 280, (Go.Value.agg #[(Go.Value.int Go.IntKind.i64 0), (Go.Value.int Go.IntKind.i64 0), (Go.Value.string { data := #[] }), (Go.Value.string { data := #[] }), (Go.Value.string { data := #[] }), (Go.Value.int Go.IntKind.i64 0), (Go.Value.int Go.IntKind.i64 0), (Go.Value.int Go.IntKind.i64 0), (Go.Value.int Go.IntKind.i64 0), (Go.Value.int Go.IntKind.i64 0), (Go.Value.int Go.IntKind.i64 0), (Go.Value.int Go.IntKind.i64 0), (Go.Value.int Go.IntKind.i64 0), (Go.Value.int Go.IntKind.i64 0), (Go.Value.int Go.IntKind.i64 0), (Go.Value.int Go.IntKind.u8 0), (Go.Value.int Go.IntKind.u8 0), (Go.Value.int Go.IntKind.u8 0), (Go.Value.int Go.IntKind.u8 0), (Go.Value.int Go.IntKind.u8 0), (Go.Value.int Go.IntKind.u8 0), (Go.Value.int Go.IntKind.u8 0), (Go.Value.int Go.IntKind.u8 0), (Go.Value.int Go.IntKind.u8 0), (Go.Value.int Go.IntKind.u8 0), (Go.Value.int Go.IntKind.u8 0), (Go.Value.int Go.IntKind.u8 0), (Go.Value.int Go.IntKind.u8 0), (Go.Value.int Go.IntKind.u8 0), (Go.Value.int Go.IntKind.u8 0), (Go.Value.int Go.IntKind.u8 0), (Go.Value.int Go.IntKind.u8 0), (Go.Value.int Go.IntKind.u8 0), (Go.Value.int Go.IntKind.u8 0), (Go.Value.int Go.IntKind.u8 0), (Go.Value.int Go.IntKind.u8 0), (Go.Value.int Go.IntKind.u8 0), (Go.Value.int Go.IntKind.u8 0), (Go.Value.int Go.IntKind.u8 0), (Go.Value.int Go.IntKind.u8 0), (Go.Value.int Go.IntKind.u8 0), (Go.Value.int Go.IntKind.u8 0), (Go.Value.int Go.IntKind.u8 0), (Go.Value.int Go.IntKind.u8 0), (Go.Value.int Go.IntKind.u8 0), (Go.Value.int Go.IntKind.u8 0), (Go.Value.int Go.IntKind.u8 0), (Go.Value.slice none 0 0), (Go.Value.string { data := #[] }), (Go.Value.int Go.IntKind.i64 0), (Go.Value.bool false), (Go.Value.int Go.IntKind.i64 0), (Go.Value.string { data := #[] }), (Go.Value.slice none 0 0)])⟩ := .mk' (by kernel_rfl)
instance : TyU Try.prog 39 (Go.TypeDesc.struct #[{ name := "Kind", type := 3, offset := 0, embedded := false, tag := "", pkgPath := "", byteOffset := 0 }, { name := "Op", type := 29, offset := 1, embedded := false, tag := "", pkgPath := "", byteOffset := 8 }, { name := "M", type := 37, offset := 7, embedded := false, tag := "", pkgPath := "", byteOffset := 80 }]) := ⟨Try.underlying39⟩
instance : TyP Try.prog 39 [(0, 1), (1, 6), (7, 47)] := ⟨_, Try.underlying39, fun w => by kernel_rfl⟩
instance : TyF Try.prog 39 0 0 := ⟨_, _, _, Try.underlying39, rfl, rfl, Try.sizeOf3⟩
instance : TyF Try.prog 39 1 1 := ⟨_, _, _, Try.underlying39, rfl, rfl, Try.sizeOf29⟩
instance : TyF Try.prog 39 2 7 := ⟨_, _, _, Try.underlying39, rfl, rfl, Try.sizeOf37⟩
instance : TyI Try.prog 39 ⟨54, 280, (Go.Value.agg #[(Go.Value.int Go.IntKind.i64 0), (Go.Value.int Go.IntKind.i64 0), (Go.Value.string { data := #[] }), (Go.Value.string { data := #[] }), (Go.Value.string { data := #[] }), (Go.Value.int Go.IntKind.i64 0), (Go.Value.int Go.IntKind.i64 0), (Go.Value.int Go.IntKind.i64 0), (Go.Value.int Go.IntKind.i64 0), (Go.Value.int Go.IntKind.i64 0), (Go.Value.int Go.IntKind.i64 0), (Go.Value.int Go.IntKind.i64 0), (Go.Value.int Go.IntKind.i64 0), (Go.Value.int Go.IntKind.i64 0), (Go.Value.int Go.IntKind.i64 0), (Go.Value.int Go.IntKind.u8 0), (Go.Value.int Go.IntKind.u8 0), (Go.Value.int Go.IntKind.u8 0), (Go.Value.int Go.IntKind.u8 0), (Go.Value.int Go.IntKind.u8 0), (Go.Value.int Go.IntKind.u8 0), (Go.Value.int Go.IntKind.u8 0), (Go.Value.int Go.IntKind.u8 0), (Go.Value.int Go.IntKind.u8 0), (Go.Value.int Go.IntKind.u8 0), (Go.Value.int Go.IntKind.u8 0), (Go.Value.int Go.IntKind.u8 0), (Go.Value.int Go.IntKind.u8 0), (Go.Value.int Go.IntKind.u8 0), (Go.Value.int Go.IntKind.u8 0), (Go.Value.int Go.IntKind.u8 0), (Go.Value.int Go.IntKind.u8 0), (Go.Value.int Go.IntKind.u8 0), (Go.Value.int Go.IntKind.u8 0), (Go.Value.int Go.IntKind.u8 0), (Go.Value.int Go.IntKind.u8 0), (Go.Value.int Go.IntKind.u8 0), (Go.Value.int Go.IntKind.u8 0), (Go.Value.int Go.IntKind.u8 0), (Go.Value.int Go.IntKind.u8 0), (Go.Value.int Go.IntKind.u8 0), (Go.Value.int Go.IntKind.u8 0), (Go.Value.int Go.IntKind.u8 0), (Go.Value.int Go.IntKind.u8 0), (Go.Value.int Go.IntKind.u8 0), (Go.Value.int Go.IntKind.u8 0), (Go.Value.int Go.IntKind.u8 0), (Go.Value.slice none 0 0), (Go.Value.string { data := #[] }), (Go.Value.int Go.IntKind.i64 0), (Go.Value.bool false), (Go.Value.int Go.IntKind.i64 0), (Go.Value.string { data := #[] }), (Go.Value.slice none 0 0)])⟩ := .mk' (by kernel_rfl)
instance : TyU Try.prog 40 (Go.TypeDesc.int Go.IntKind.u64) := ⟨Try.underlying40⟩
instance : TyI Try.prog 40 ⟨1, 8, (Go.Value.int Go.IntKind.u64 0)⟩ := .mk' (by kernel_rfl)
instance : TyU Try.prog 41 (Go.TypeDesc.slice 37) := ⟨Try.underlying41⟩
instance : TyI Try.prog 41 ⟨1, 24, (Go.Value.slice none 0 0)⟩ := .mk' (by kernel_rfl)
instance : TyU Try.prog 42 (Go.TypeDesc.tuple #[41, 25]) := ⟨Try.underlying42⟩
instance : TyI Try.prog 42 ⟨1, 0, (Go.Value.tuple #[(Go.Value.slice none 0 0), (Go.Value.int Go.IntKind.i64 0)])⟩ := .mk' (by kernel_rfl)
instance : TyU Try.prog 43 (Go.TypeDesc.func #[29] #[41, 25] false) := ⟨Try.underlying43⟩
instance : TyI Try.prog 43 ⟨1, 8, Go.Value.nilFunc⟩ := .mk' (by kernel_rfl)
instance : TyU Try.prog 44 (Go.TypeDesc.func #[39, 3, 2] #[37] false) := ⟨Try.underlying44⟩
instance : TyI Try.prog 44 ⟨1, 8, Go.Value.nilFunc⟩ := .mk' (by kernel_rfl)
instance : TyU Try.prog 45 (Go.TypeDesc.tuple #[35, 4]) := ⟨Try.underlying45⟩
instance : TyI Try.prog 45 ⟨1, 0, (Go.Value.tuple #[(Go.Value.agg #[(Go.Value.int Go.IntKind.i64 0), (Go.Value.bool false), (Go.Value.int Go.IntKind.i64 0), (Go.Value.string { data := #[] }), (Go.Value.slice none 0 0)]), (Go.Value.bool false)])⟩ := .mk' (by kernel_rfl)
instance : TyU Try.prog 46 (Go.TypeDesc.func #[37] #[35, 4] false) := ⟨Try.underlying46⟩
instance : TyI Try.prog 46 ⟨1, 8, Go.Value.nilFunc⟩ := .mk' (by kernel_rfl)
instance : TyU Try.prog 47 (Go.TypeDesc.func #[] #[2] false) := ⟨Try.underlying47⟩
instance : TyI Try.prog 47 ⟨1, 8, Go.Value.nilFunc⟩ := .mk' (by kernel_rfl)
instance : TyU Try.prog 48 (Go.TypeDesc.func #[22] #[4] false) := ⟨Try.underlying48⟩
instance : TyI Try.prog 48 ⟨1, 8, Go.Value.nilFunc⟩ := .mk' (by kernel_rfl)
instance : TyU Try.prog 49 (Go.TypeDesc.pointer 54) := ⟨Try.underlying49⟩
instance : TyI Try.prog 49 ⟨1, 8, (Go.Value.pointer none)⟩ := .mk' (by kernel_rfl)
instance : TyU Try.prog 50 (Go.TypeDesc.func #[3, 3] #[49] false) := ⟨Try.underlying50⟩
instance : TyI Try.prog 50 ⟨1, 8, Go.Value.nilFunc⟩ := .mk' (by kernel_rfl)
instance : TyU Try.prog 51 (Go.TypeDesc.func #[41, 41] #[4] false) := ⟨Try.underlying51⟩
instance : TyI Try.prog 51 ⟨1, 8, Go.Value.nilFunc⟩ := .mk' (by kernel_rfl)
instance : TyU Try.prog 52 (Go.TypeDesc.func #[] #[41] false) := ⟨Try.underlying52⟩
instance : TyI Try.prog 52 ⟨1, 8, Go.Value.nilFunc⟩ := .mk' (by kernel_rfl)
instance : TyU Try.prog 53 (Go.TypeDesc.struct #[{ name := "Id", type := 3, offset := 0, embedded := false, tag := "", pkgPath := "", byteOffset := 0 }, { name := "Nodes", type := 3, offset := 1, embedded := false, tag := "", pkgPath := "", byteOffset := 8 }, { name := "Number", type := 2, offset := 2, embedded := false, tag := "", pkgPath := "", byteOffset := 16 }, { name := "Time", type := 3, offset := 3, embedded := false, tag := "", pkgPath := "", byteOffset := 24 }, { name := "Op", type := 29, offset := 4, embedded := false, tag := "", pkgPath := "", byteOffset := 32 }]) := ⟨Try.underlying53⟩
instance : TyP Try.prog 53 [(0, 1), (1, 1), (2, 1), (3, 1), (4, 6)] := ⟨_, Try.underlying53, fun w => by kernel_rfl⟩
instance : TyF Try.prog 53 0 0 := ⟨_, _, _, Try.underlying53, rfl, rfl, Try.sizeOf3⟩
instance : TyF Try.prog 53 1 1 := ⟨_, _, _, Try.underlying53, rfl, rfl, Try.sizeOf3⟩
instance : TyF Try.prog 53 2 2 := ⟨_, _, _, Try.underlying53, rfl, rfl, Try.sizeOf2⟩
instance : TyF Try.prog 53 3 3 := ⟨_, _, _, Try.underlying53, rfl, rfl, Try.sizeOf3⟩
instance : TyF Try.prog 53 4 4 := ⟨_, _, _, Try.underlying53, rfl, rfl, Try.sizeOf29⟩
instance : TyI Try.prog 53 ⟨10, 104, (Go.Value.agg #[(Go.Value.int Go.IntKind.i64 0), (Go.Value.int Go.IntKind.i64 0), (Go.Value.int Go.IntKind.i64 0), (Go.Value.int Go.IntKind.i64 0), (Go.Value.int Go.IntKind.i64 0), (Go.Value.string { data := #[] }), (Go.Value.string { data := #[] }), (Go.Value.string { data := #[] }), (Go.Value.int Go.IntKind.i64 0), (Go.Value.int Go.IntKind.i64 0)])⟩ := .mk' (by kernel_rfl)
instance : TyU Try.prog 54 (Go.TypeDesc.struct #[{ name := "Id", type := 3, offset := 0, embedded := false, tag := "", pkgPath := "", byteOffset := 0 }, { name := "Nodes", type := 3, offset := 1, embedded := false, tag := "", pkgPath := "", byteOffset := 8 }, { name := "Number", type := 2, offset := 2, embedded := false, tag := "", pkgPath := "", byteOffset := 16 }, { name := "Time", type := 3, offset := 3, embedded := false, tag := "", pkgPath := "", byteOffset := 24 }, { name := "Op", type := 29, offset := 4, embedded := false, tag := "", pkgPath := "", byteOffset := 32 }]) := ⟨Try.underlying54⟩
instance : TyP Try.prog 54 [(0, 1), (1, 1), (2, 1), (3, 1), (4, 6)] := ⟨_, Try.underlying54, fun w => by kernel_rfl⟩
instance : TyF Try.prog 54 0 0 := ⟨_, _, _, Try.underlying54, rfl, rfl, Try.sizeOf3⟩
instance : TyF Try.prog 54 1 1 := ⟨_, _, _, Try.underlying54, rfl, rfl, Try.sizeOf3⟩
instance : TyF Try.prog 54 2 2 := ⟨_, _, _, Try.underlying54, rfl, rfl, Try.sizeOf2⟩
instance : TyF Try.prog 54 3 3 := ⟨_, _, _, Try.underlying54, rfl, rfl, Try.sizeOf3⟩
instance : TyF Try.prog 54 4 4 := ⟨_, _, _, Try.underlying54, rfl, rfl, Try.sizeOf29⟩
instance : TyI Try.prog 54 ⟨10, 104, (Go.Value.agg #[(Go.Value.int Go.IntKind.i64 0), (Go.Value.int Go.IntKind.i64 0), (Go.Value.int Go.IntKind.i64 0), (Go.Value.int Go.IntKind.i64 0), (Go.Value.int Go.IntKind.i64 0), (Go.Value.string { data := #[] }), (Go.Value.string { data := #[] }), (Go.Value.string { data := #[] }), (Go.Value.int Go.IntKind.i64 0), (Go.Value.int Go.IntKind.i64 0)])⟩ := .mk' (by kernel_rfl)
instance : TyU Try.prog 55 (Go.TypeDesc.func #[35, 35] #[4] false) := ⟨Try.underlying55⟩
instance : TyI Try.prog 55 ⟨1, 8, Go.Value.nilFunc⟩ := .mk' (by kernel_rfl)
instance : TyU Try.prog 56 (Go.TypeDesc.func #[3, 3, 22] #[4] false) := ⟨Try.underlying56⟩
instance : TyI Try.prog 56 ⟨1, 8, Go.Value.nilFunc⟩ := .mk' (by kernel_rfl)
instance : TyU Try.prog 57 (Go.TypeDesc.struct #[{ name := "Client", type := 3, offset := 0, embedded := false, tag := "", pkgPath := "", byteOffset := 0 }, { name := "Number", type := 2, offset := 1, embedded := false, tag := "", pkgPath := "", byteOffset := 8 }, { name := "Op", type := 29, offset := 2, embedded := false, tag := "", pkgPath := "", byteOffset := 16 }]) := ⟨Try.underlying57⟩
instance : TyP Try.prog 57 [(0, 1), (1, 1), (2, 6)] := ⟨_, Try.underlying57, fun w => by kernel_rfl⟩
instance : TyF Try.prog 57 0 0 := ⟨_, _, _, Try.underlying57, rfl, rfl, Try.sizeOf3⟩
instance : TyF Try.prog 57 1 1 := ⟨_, _, _, Try.underlying57, rfl, rfl, Try.sizeOf2⟩
instance : TyF Try.prog 57 2 2 := ⟨_, _, _, Try.underlying57, rfl, rfl, Try.sizeOf29⟩
instance : TyI Try.prog 57 ⟨8, 88, (Go.Value.agg #[(Go.Value.int Go.IntKind.i64 0), (Go.Value.int Go.IntKind.i64 0), (Go.Value.int Go.IntKind.i64 0), (Go.Value.string { data := #[] }), (Go.Value.string { data := #[] }), (Go.Value.string { data := #[] }), (Go.Value.int Go.IntKind.i64 0), (Go.Value.int Go.IntKind.i64 0)])⟩ := .mk' (by kernel_rfl)
instance : TyU Try.prog 58 (Go.TypeDesc.struct #[{ name := "Client", type := 3, offset := 0, embedded := false, tag := "", pkgPath := "", byteOffset := 0 }, { name := "Number", type := 2, offset := 1, embedded := false, tag := "", pkgPath := "", byteOffset := 8 }, { name := "Op", type := 29, offset := 2, embedded := false, tag := "", pkgPath := "", byteOffset := 16 }]) := ⟨Try.underlying58⟩
instance : TyP Try.prog 58 [(0, 1), (1, 1), (2, 6)] := ⟨_, Try.underlying58, fun w => by kernel_rfl⟩
instance : TyF Try.prog 58 0 0 := ⟨_, _, _, Try.underlying58, rfl, rfl, Try.sizeOf3⟩
instance : TyF Try.prog 58 1 1 := ⟨_, _, _, Try.underlying58, rfl, rfl, Try.sizeOf2⟩
instance : TyF Try.prog 58 2 2 := ⟨_, _, _, Try.underlying58, rfl, rfl, Try.sizeOf29⟩
instance : TyI Try.prog 58 ⟨8, 88, (Go.Value.agg #[(Go.Value.int Go.IntKind.i64 0), (Go.Value.int Go.IntKind.i64 0), (Go.Value.int Go.IntKind.i64 0), (Go.Value.string { data := #[] }), (Go.Value.string { data := #[] }), (Go.Value.string { data := #[] }), (Go.Value.int Go.IntKind.i64 0), (Go.Value.int Go.IntKind.i64 0)])⟩ := .mk' (by kernel_rfl)
instance : TyU Try.prog 59 (Go.TypeDesc.func #[29, 5] #[4] false) := ⟨Try.underlying59⟩
instance : TyI Try.prog 59 ⟨1, 8, Go.Value.nilFunc⟩ := .mk' (by kernel_rfl)
instance : TyU Try.prog 60 (Go.TypeDesc.slice 2) := ⟨Try.underlying60⟩
instance : TyI Try.prog 60 ⟨1, 24, (Go.Value.slice none 0 0)⟩ := .mk' (by kernel_rfl)
instance : TyU Try.prog 61 (Go.TypeDesc.slice 4) := ⟨Try.underlying61⟩
instance : TyI Try.prog 61 ⟨1, 24, (Go.Value.slice none 0 0)⟩ := .mk' (by kernel_rfl)
instance : TyU Try.prog 62 (Go.TypeDesc.slice 105) := ⟨Try.underlying62⟩
instance : TyI Try.prog 62 ⟨1, 24, (Go.Value.slice none 0 0)⟩ := .mk' (by kernel_rfl)
instance : TyU Try.prog 63 (Go.TypeDesc.struct #[{ name := "Id", type := 3, offset := 0, embedded := false, tag := "", pkgPath := "", byteOffset := 0 }, { name := "Nodes", type := 3, offset := 1, embedded := false, tag := "", pkgPath := "", byteOffset := 8 }, { name := "View", type := 2, offset := 2, embedded := false, tag := "", pkgPath := "", byteOffset := 16 }, { name := "Normal", type := 2, offset := 3, embedded := false, tag := "", pkgPath := "", byteOffset := 24 }, { name := "Status", type := 3, offset := 4, embedded := false, tag := "", pkgPath := "", byteOffset := 32 }, { name := "Base", type := 2, offset := 5, embedded := false, tag := "", pkgPath := "", byteOffset := 40 }, { name := "Root", type := 31, offset := 6, embedded := false, tag := "", pkgPath := "", byteOffset := 48 }, { name := "Entries", type := 32, offset := 38, embedded := false, tag := "", pkgPath := "", byteOffset := 80 }, { name := "Commit", type := 2, offset := 39, embedded := false, tag := "", pkgPath := "", byteOffset := 104 }, { name := "Left", type := 3, offset := 40, embedded := false, tag := "", pkgPath := "", byteOffset := 112 }, { name := "Acks", type := 60, offset := 41, embedded := false, tag := "", pkgPath := "", byteOffset := 120 }, { name := "Starts", type := 61, offset := 42, embedded := false, tag := "", pkgPath := "", byteOffset := 144 }, { name := "Votes", type := 62, offset := 43, embedded := false, tag := "", pkgPath := "", byteOffset := 168 }, { name := "Voted", type := 4, offset := 44, embedded := false, tag := "", pkgPath := "", byteOffset := 192 }, { name := "Best", type := 3, offset := 45, embedded := false, tag := "", pkgPath := "", byteOffset := 200 }]) := ⟨Try.underlying63⟩
instance : TyP Try.prog 63 [(0, 1), (1, 1), (2, 1), (3, 1), (4, 1), (5, 1), (6, 32), (38, 1), (39, 1), (40, 1), (41, 1), (42, 1), (43, 1), (44, 1), (45, 1)] := ⟨_, Try.underlying63, fun w => by kernel_rfl⟩
instance : TyF Try.prog 63 0 0 := ⟨_, _, _, Try.underlying63, rfl, rfl, Try.sizeOf3⟩
instance : TyF Try.prog 63 1 1 := ⟨_, _, _, Try.underlying63, rfl, rfl, Try.sizeOf3⟩
instance : TyF Try.prog 63 2 2 := ⟨_, _, _, Try.underlying63, rfl, rfl, Try.sizeOf2⟩
instance : TyF Try.prog 63 3 3 := ⟨_, _, _, Try.underlying63, rfl, rfl, Try.sizeOf2⟩
instance : TyF Try.prog 63 4 4 := ⟨_, _, _, Try.underlying63, rfl, rfl, Try.sizeOf3⟩
instance : TyF Try.prog 63 5 5 := ⟨_, _, _, Try.underlying63, rfl, rfl, Try.sizeOf2⟩
instance : TyF Try.prog 63 6 6 := ⟨_, _, _, Try.underlying63, rfl, rfl, Try.sizeOf31⟩
instance : TyF Try.prog 63 7 38 := ⟨_, _, _, Try.underlying63, rfl, rfl, Try.sizeOf32⟩
instance : TyF Try.prog 63 8 39 := ⟨_, _, _, Try.underlying63, rfl, rfl, Try.sizeOf2⟩
instance : TyF Try.prog 63 9 40 := ⟨_, _, _, Try.underlying63, rfl, rfl, Try.sizeOf3⟩
instance : TyF Try.prog 63 10 41 := ⟨_, _, _, Try.underlying63, rfl, rfl, Try.sizeOf60⟩
instance : TyF Try.prog 63 11 42 := ⟨_, _, _, Try.underlying63, rfl, rfl, Try.sizeOf61⟩
instance : TyF Try.prog 63 12 43 := ⟨_, _, _, Try.underlying63, rfl, rfl, Try.sizeOf62⟩
instance : TyF Try.prog 63 13 44 := ⟨_, _, _, Try.underlying63, rfl, rfl, Try.sizeOf4⟩
instance : TyF Try.prog 63 14 45 := ⟨_, _, _, Try.underlying63, rfl, rfl, Try.sizeOf3⟩
instance : TyI Try.prog 63 ⟨46, 208, (Go.Value.agg #[(Go.Value.int Go.IntKind.i64 0), (Go.Value.int Go.IntKind.i64 0), (Go.Value.int Go.IntKind.i64 0), (Go.Value.int Go.IntKind.i64 0), (Go.Value.int Go.IntKind.i64 0), (Go.Value.int Go.IntKind.i64 0), (Go.Value.int Go.IntKind.u8 0), (Go.Value.int Go.IntKind.u8 0), (Go.Value.int Go.IntKind.u8 0), (Go.Value.int Go.IntKind.u8 0), (Go.Value.int Go.IntKind.u8 0), (Go.Value.int Go.IntKind.u8 0), (Go.Value.int Go.IntKind.u8 0), (Go.Value.int Go.IntKind.u8 0), (Go.Value.int Go.IntKind.u8 0), (Go.Value.int Go.IntKind.u8 0), (Go.Value.int Go.IntKind.u8 0), (Go.Value.int Go.IntKind.u8 0), (Go.Value.int Go.IntKind.u8 0), (Go.Value.int Go.IntKind.u8 0), (Go.Value.int Go.IntKind.u8 0), (Go.Value.int Go.IntKind.u8 0), (Go.Value.int Go.IntKind.u8 0), (Go.Value.int Go.IntKind.u8 0), (Go.Value.int Go.IntKind.u8 0), (Go.Value.int Go.IntKind.u8 0), (Go.Value.int Go.IntKind.u8 0), (Go.Value.int Go.IntKind.u8 0), (Go.Value.int Go.IntKind.u8 0), (Go.Value.int Go.IntKind.u8 0), (Go.Value.int Go.IntKind.u8 0), (Go.Value.int Go.IntKind.u8 0), (Go.Value.int Go.IntKind.u8 0), (Go.Value.int Go.IntKind.u8 0), (Go.Value.int Go.IntKind.u8 0), (Go.Value.int Go.IntKind.u8 0), (Go.Value.int Go.IntKind.u8 0), (Go.Value.int Go.IntKind.u8 0), (Go.Value.slice none 0 0), (Go.Value.int Go.IntKind.i64 0), (Go.Value.int Go.IntKind.i64 0), (Go.Value.slice none 0 0), (Go.Value.slice none 0 0), (Go.Value.slice none 0 0), (Go.Value.bool false), (Go.Value.int Go.IntKind.i64 0)])⟩ := .mk' (by kernel_rfl)
instance : TyU Try.prog 64 (Go.TypeDesc.struct #[{ name := "Id", type := 3, offset := 0, embedded := false, tag := "", pkgPath := "", byteOffset := 0 }, { name := "Nodes", type := 3, offset := 1, embedded := false, tag := "", pkgPath := "", byteOffset := 8 }, { name := "View", type := 2, offset := 2, embedded := false, tag := "", pkgPath := "", byteOffset := 16 }, { name := "Normal", type := 2, offset := 3, embedded := false, tag := "", pkgPath := "", byteOffset := 24 }, { name := "Status", type := 3, offset := 4, embedded := false, tag := "", pkgPath := "", byteOffset := 32 }, { name := "Base", type := 2, offset := 5, embedded := false, tag := "", pkgPath := "", byteOffset := 40 }, { name := "Root", type := 31, offset := 6, embedded := false, tag := "", pkgPath := "", byteOffset := 48 }, { name := "Entries", type := 32, offset := 38, embedded := false, tag := "", pkgPath := "", byteOffset := 80 }, { name := "Commit", type := 2, offset := 39, embedded := false, tag := "", pkgPath := "", byteOffset := 104 }, { name := "Left", type := 3, offset := 40, embedded := false, tag := "", pkgPath := "", byteOffset := 112 }, { name := "Acks", type := 60, offset := 41, embedded := false, tag := "", pkgPath := "", byteOffset := 120 }, { name := "Starts", type := 61, offset := 42, embedded := false, tag := "", pkgPath := "", byteOffset := 144 }, { name := "Votes", type := 62, offset := 43, embedded := false, tag := "", pkgPath := "", byteOffset := 168 }, { name := "Voted", type := 4, offset := 44, embedded := false, tag := "", pkgPath := "", byteOffset := 192 }, { name := "Best", type := 3, offset := 45, embedded := false, tag := "", pkgPath := "", byteOffset := 200 }]) := ⟨Try.underlying64⟩
instance : TyP Try.prog 64 [(0, 1), (1, 1), (2, 1), (3, 1), (4, 1), (5, 1), (6, 32), (38, 1), (39, 1), (40, 1), (41, 1), (42, 1), (43, 1), (44, 1), (45, 1)] := ⟨_, Try.underlying64, fun w => by kernel_rfl⟩
instance : TyF Try.prog 64 0 0 := ⟨_, _, _, Try.underlying64, rfl, rfl, Try.sizeOf3⟩
instance : TyF Try.prog 64 1 1 := ⟨_, _, _, Try.underlying64, rfl, rfl, Try.sizeOf3⟩
instance : TyF Try.prog 64 2 2 := ⟨_, _, _, Try.underlying64, rfl, rfl, Try.sizeOf2⟩
instance : TyF Try.prog 64 3 3 := ⟨_, _, _, Try.underlying64, rfl, rfl, Try.sizeOf2⟩
instance : TyF Try.prog 64 4 4 := ⟨_, _, _, Try.underlying64, rfl, rfl, Try.sizeOf3⟩
instance : TyF Try.prog 64 5 5 := ⟨_, _, _, Try.underlying64, rfl, rfl, Try.sizeOf2⟩
instance : TyF Try.prog 64 6 6 := ⟨_, _, _, Try.underlying64, rfl, rfl, Try.sizeOf31⟩
instance : TyF Try.prog 64 7 38 := ⟨_, _, _, Try.underlying64, rfl, rfl, Try.sizeOf32⟩
instance : TyF Try.prog 64 8 39 := ⟨_, _, _, Try.underlying64, rfl, rfl, Try.sizeOf2⟩
instance : TyF Try.prog 64 9 40 := ⟨_, _, _, Try.underlying64, rfl, rfl, Try.sizeOf3⟩
instance : TyF Try.prog 64 10 41 := ⟨_, _, _, Try.underlying64, rfl, rfl, Try.sizeOf60⟩
instance : TyF Try.prog 64 11 42 := ⟨_, _, _, Try.underlying64, rfl, rfl, Try.sizeOf61⟩
instance : TyF Try.prog 64 12 43 := ⟨_, _, _, Try.underlying64, rfl, rfl, Try.sizeOf62⟩
instance : TyF Try.prog 64 13 44 := ⟨_, _, _, Try.underlying64, rfl, rfl, Try.sizeOf4⟩
instance : TyF Try.prog 64 14 45 := ⟨_, _, _, Try.underlying64, rfl, rfl, Try.sizeOf3⟩
instance : TyI Try.prog 64 ⟨46, 208, (Go.Value.agg #[(Go.Value.int Go.IntKind.i64 0), (Go.Value.int Go.IntKind.i64 0), (Go.Value.int Go.IntKind.i64 0), (Go.Value.int Go.IntKind.i64 0), (Go.Value.int Go.IntKind.i64 0), (Go.Value.int Go.IntKind.i64 0), (Go.Value.int Go.IntKind.u8 0), (Go.Value.int Go.IntKind.u8 0), (Go.Value.int Go.IntKind.u8 0), (Go.Value.int Go.IntKind.u8 0), (Go.Value.int Go.IntKind.u8 0), (Go.Value.int Go.IntKind.u8 0), (Go.Value.int Go.IntKind.u8 0), (Go.Value.int Go.IntKind.u8 0), (Go.Value.int Go.IntKind.u8 0), (Go.Value.int Go.IntKind.u8 0), (Go.Value.int Go.IntKind.u8 0), (Go.Value.int Go.IntKind.u8 0), (Go.Value.int Go.IntKind.u8 0), (Go.Value.int Go.IntKind.u8 0), (Go.Value.int Go.IntKind.u8 0), (Go.Value.int Go.IntKind.u8 0), (Go.Value.int Go.IntKind.u8 0), (Go.Value.int Go.IntKind.u8 0), (Go.Value.int Go.IntKind.u8 0), (Go.Value.int Go.IntKind.u8 0), (Go.Value.int Go.IntKind.u8 0), (Go.Value.int Go.IntKind.u8 0), (Go.Value.int Go.IntKind.u8 0), (Go.Value.int Go.IntKind.u8 0), (Go.Value.int Go.IntKind.u8 0), (Go.Value.int Go.IntKind.u8 0), (Go.Value.int Go.IntKind.u8 0), (Go.Value.int Go.IntKind.u8 0), (Go.Value.int Go.IntKind.u8 0), (Go.Value.int Go.IntKind.u8 0), (Go.Value.int Go.IntKind.u8 0), (Go.Value.int Go.IntKind.u8 0), (Go.Value.slice none 0 0), (Go.Value.int Go.IntKind.i64 0), (Go.Value.int Go.IntKind.i64 0), (Go.Value.slice none 0 0), (Go.Value.slice none 0 0), (Go.Value.slice none 0 0), (Go.Value.bool false), (Go.Value.int Go.IntKind.i64 0)])⟩ := .mk' (by kernel_rfl)
instance : TyU Try.prog 65 (Go.TypeDesc.tuple #[64, 25]) := ⟨Try.underlying65⟩
instance : TyI Try.prog 65 ⟨1, 0, (Go.Value.tuple #[(Go.Value.agg #[(Go.Value.int Go.IntKind.i64 0), (Go.Value.int Go.IntKind.i64 0), (Go.Value.int Go.IntKind.i64 0), (Go.Value.int Go.IntKind.i64 0), (Go.Value.int Go.IntKind.i64 0), (Go.Value.int Go.IntKind.i64 0), (Go.Value.int Go.IntKind.u8 0), (Go.Value.int Go.IntKind.u8 0), (Go.Value.int Go.IntKind.u8 0), (Go.Value.int Go.IntKind.u8 0), (Go.Value.int Go.IntKind.u8 0), (Go.Value.int Go.IntKind.u8 0), (Go.Value.int Go.IntKind.u8 0), (Go.Value.int Go.IntKind.u8 0), (Go.Value.int Go.IntKind.u8 0), (Go.Value.int Go.IntKind.u8 0), (Go.Value.int Go.IntKind.u8 0), (Go.Value.int Go.IntKind.u8 0), (Go.Value.int Go.IntKind.u8 0), (Go.Value.int Go.IntKind.u8 0), (Go.Value.int Go.IntKind.u8 0), (Go.Value.int Go.IntKind.u8 0), (Go.Value.int Go.IntKind.u8 0), (Go.Value.int Go.IntKind.u8 0), (Go.Value.int Go.IntKind.u8 0), (Go.Value.int Go.IntKind.u8 0), (Go.Value.int Go.IntKind.u8 0), (Go.Value.int Go.IntKind.u8 0), (Go.Value.int Go.IntKind.u8 0), (Go.Value.int Go.IntKind.u8 0), (Go.Value.int Go.IntKind.u8 0), (Go.Value.int Go.IntKind.u8 0), (Go.Value.int Go.IntKind.u8 0), (Go.Value.int Go.IntKind.u8 0), (Go.Value.int Go.IntKind.u8 0), (Go.Value.int Go.IntKind.u8 0), (Go.Value.int Go.IntKind.u8 0), (Go.Value.int Go.IntKind.u8 0), (Go.Value.slice none 0 0), (Go.Value.int Go.IntKind.i64 0), (Go.Value.int Go.IntKind.i64 0), (Go.Value.slice none 0 0), (Go.Value.slice none 0 0), (Go.Value.slice none 0 0), (Go.Value.bool false), (Go.Value.int Go.IntKind.i64 0)]), (Go.Value.int Go.IntKind.i64 0)])⟩ := .mk' (by kernel_rfl)
instance : TyU Try.prog 66 (Go.TypeDesc.func #[3, 3] #[64, 25] false) := ⟨Try.underlying66⟩
instance : TyI Try.prog 66 ⟨1, 8, Go.Value.nilFunc⟩ := .mk' (by kernel_rfl)
instance : TyU Try.prog 67 (Go.TypeDesc.struct #[{ name := "id", type := 3, offset := 0, embedded := false, tag := "", pkgPath := "veneer/client", byteOffset := 0 }, { name := "nodes", type := 3, offset := 1, embedded := false, tag := "", pkgPath := "veneer/client", byteOffset := 8 }, { name := "number", type := 2, offset := 2, embedded := false, tag := "", pkgPath := "veneer/client", byteOffset := 16 }, { name := "left", type := 3, offset := 3, embedded := false, tag := "", pkgPath := "veneer/client", byteOffset := 24 }, { name := "waiting", type := 4, offset := 4, embedded := false, tag := "", pkgPath := "veneer/client", byteOffset := 32 }, { name := "op", type := 29, offset := 5, embedded := false, tag := "", pkgPath := "veneer/client", byteOffset := 40 }]) := ⟨Try.underlying67⟩
instance : TyP Try.prog 67 [(0, 1), (1, 1), (2, 1), (3, 1), (4, 1), (5, 6)] := ⟨_, Try.underlying67, fun w => by kernel_rfl⟩
instance : TyF Try.prog 67 0 0 := ⟨_, _, _, Try.underlying67, rfl, rfl, Try.sizeOf3⟩
instance : TyF Try.prog 67 1 1 := ⟨_, _, _, Try.underlying67, rfl, rfl, Try.sizeOf3⟩
instance : TyF Try.prog 67 2 2 := ⟨_, _, _, Try.underlying67, rfl, rfl, Try.sizeOf2⟩
instance : TyF Try.prog 67 3 3 := ⟨_, _, _, Try.underlying67, rfl, rfl, Try.sizeOf3⟩
instance : TyF Try.prog 67 4 4 := ⟨_, _, _, Try.underlying67, rfl, rfl, Try.sizeOf4⟩
instance : TyF Try.prog 67 5 5 := ⟨_, _, _, Try.underlying67, rfl, rfl, Try.sizeOf29⟩
instance : TyI Try.prog 67 ⟨11, 112, (Go.Value.agg #[(Go.Value.int Go.IntKind.i64 0), (Go.Value.int Go.IntKind.i64 0), (Go.Value.int Go.IntKind.i64 0), (Go.Value.int Go.IntKind.i64 0), (Go.Value.bool false), (Go.Value.int Go.IntKind.i64 0), (Go.Value.string { data := #[] }), (Go.Value.string { data := #[] }), (Go.Value.string { data := #[] }), (Go.Value.int Go.IntKind.i64 0), (Go.Value.int Go.IntKind.i64 0)])⟩ := .mk' (by kernel_rfl)
instance : TyU Try.prog 68 (Go.TypeDesc.struct #[{ name := "id", type := 3, offset := 0, embedded := false, tag := "", pkgPath := "veneer/client", byteOffset := 0 }, { name := "nodes", type := 3, offset := 1, embedded := false, tag := "", pkgPath := "veneer/client", byteOffset := 8 }, { name := "number", type := 2, offset := 2, embedded := false, tag := "", pkgPath := "veneer/client", byteOffset := 16 }, { name := "left", type := 3, offset := 3, embedded := false, tag := "", pkgPath := "veneer/client", byteOffset := 24 }, { name := "waiting", type := 4, offset := 4, embedded := false, tag := "", pkgPath := "veneer/client", byteOffset := 32 }, { name := "op", type := 29, offset := 5, embedded := false, tag := "", pkgPath := "veneer/client", byteOffset := 40 }]) := ⟨Try.underlying68⟩
instance : TyP Try.prog 68 [(0, 1), (1, 1), (2, 1), (3, 1), (4, 1), (5, 6)] := ⟨_, Try.underlying68, fun w => by kernel_rfl⟩
instance : TyF Try.prog 68 0 0 := ⟨_, _, _, Try.underlying68, rfl, rfl, Try.sizeOf3⟩
instance : TyF Try.prog 68 1 1 := ⟨_, _, _, Try.underlying68, rfl, rfl, Try.sizeOf3⟩
instance : TyF Try.prog 68 2 2 := ⟨_, _, _, Try.underlying68, rfl, rfl, Try.sizeOf2⟩
instance : TyF Try.prog 68 3 3 := ⟨_, _, _, Try.underlying68, rfl, rfl, Try.sizeOf3⟩
instance : TyF Try.prog 68 4 4 := ⟨_, _, _, Try.underlying68, rfl, rfl, Try.sizeOf4⟩
instance : TyF Try.prog 68 5 5 := ⟨_, _, _, Try.underlying68, rfl, rfl, Try.sizeOf29⟩
instance : TyI Try.prog 68 ⟨11, 112, (Go.Value.agg #[(Go.Value.int Go.IntKind.i64 0), (Go.Value.int Go.IntKind.i64 0), (Go.Value.int Go.IntKind.i64 0), (Go.Value.int Go.IntKind.i64 0), (Go.Value.bool false), (Go.Value.int Go.IntKind.i64 0), (Go.Value.string { data := #[] }), (Go.Value.string { data := #[] }), (Go.Value.string { data := #[] }), (Go.Value.int Go.IntKind.i64 0), (Go.Value.int Go.IntKind.i64 0)])⟩ := .mk' (by kernel_rfl)
instance : TyU Try.prog 69 (Go.TypeDesc.slice 5) := ⟨Try.underlying69⟩
instance : TyI Try.prog 69 ⟨1, 24, (Go.Value.slice none 0 0)⟩ := .mk' (by kernel_rfl)
instance : TyU Try.prog 70 (Go.TypeDesc.tuple #[69, 25]) := ⟨Try.underlying70⟩
instance : TyI Try.prog 70 ⟨1, 0, (Go.Value.tuple #[(Go.Value.slice none 0 0), (Go.Value.int Go.IntKind.i64 0)])⟩ := .mk' (by kernel_rfl)
instance : TyU Try.prog 71 (Go.TypeDesc.func #[29] #[69, 25] false) := ⟨Try.underlying71⟩
instance : TyI Try.prog 71 ⟨1, 8, Go.Value.nilFunc⟩ := .mk' (by kernel_rfl)
instance : TyU Try.prog 72 (Go.TypeDesc.func #[] #[3] false) := ⟨Try.underlying72⟩
instance : TyI Try.prog 72 ⟨1, 8, Go.Value.nilFunc⟩ := .mk' (by kernel_rfl)
instance : TyU Try.prog 73 (Go.TypeDesc.func #[33] #[33] false) := ⟨Try.underlying73⟩
instance : TyI Try.prog 73 ⟨1, 8, Go.Value.nilFunc⟩ := .mk' (by kernel_rfl)
instance : TyU Try.prog 74 (Go.TypeDesc.func #[37, 37] #[4] false) := ⟨Try.underlying74⟩
instance : TyI Try.prog 74 ⟨1, 8, Go.Value.nilFunc⟩ := .mk' (by kernel_rfl)
instance : TyU Try.prog 75 (Go.TypeDesc.func #[3, 3, 77, 31] #[64, 25] false) := ⟨Try.underlying75⟩
instance : TyI Try.prog 75 ⟨1, 8, Go.Value.nilFunc⟩ := .mk' (by kernel_rfl)
instance : TyU Try.prog 76 (Go.TypeDesc.struct #[{ name := "View", type := 2, offset := 0, embedded := false, tag := "", pkgPath := "", byteOffset := 0 }, { name := "Normal", type := 2, offset := 1, embedded := false, tag := "", pkgPath := "", byteOffset := 8 }, { name := "Base", type := 2, offset := 2, embedded := false, tag := "", pkgPath := "", byteOffset := 16 }, { name := "State", type := 9, offset := 3, embedded := false, tag := "", pkgPath := "", byteOffset := 24 }, { name := "Entries", type := 32, offset := 4, embedded := false, tag := "", pkgPath := "", byteOffset := 40 }]) := ⟨Try.underlying76⟩
instance : TyP Try.prog 76 [(0, 1), (1, 1), (2, 1), (3, 1), (4, 1)] := ⟨_, Try.underlying76, fun w => by kernel_rfl⟩
instance : TyF Try.prog 76 0 0 := ⟨_, _, _, Try.underlying76, rfl, rfl, Try.sizeOf2⟩
instance : TyF Try.prog 76 1 1 := ⟨_, _, _, Try.underlying76, rfl, rfl, Try.sizeOf2⟩
instance : TyF Try.prog 76 2 2 := ⟨_, _, _, Try.underlying76, rfl, rfl, Try.sizeOf2⟩
instance : TyF Try.prog 76 3 3 := ⟨_, _, _, Try.underlying76, rfl, rfl, Try.sizeOf9⟩
instance : TyF Try.prog 76 4 4 := ⟨_, _, _, Try.underlying76, rfl, rfl, Try.sizeOf32⟩
instance : TyI Try.prog 76 ⟨5, 64, (Go.Value.agg #[(Go.Value.int Go.IntKind.i64 0), (Go.Value.int Go.IntKind.i64 0), (Go.Value.int Go.IntKind.i64 0), (Go.Value.string { data := #[] }), (Go.Value.slice none 0 0)])⟩ := .mk' (by kernel_rfl)
instance : TyU Try.prog 77 (Go.TypeDesc.struct #[{ name := "View", type := 2, offset := 0, embedded := false, tag := "", pkgPath := "", byteOffset := 0 }, { name := "Normal", type := 2, offset := 1, embedded := false, tag := "", pkgPath := "", byteOffset := 8 }, { name := "Base", type := 2, offset := 2, embedded := false, tag := "", pkgPath := "", byteOffset := 16 }, { name := "State", type := 9, offset := 3, embedded := false, tag := "", pkgPath := "", byteOffset := 24 }, { name := "Entries", type := 32, offset := 4, embedded := false, tag := "", pkgPath := "", byteOffset := 40 }]) := ⟨Try.underlying77⟩
instance : TyP Try.prog 77 [(0, 1), (1, 1), (2, 1), (3, 1), (4, 1)] := ⟨_, Try.underlying77, fun w => by kernel_rfl⟩
instance : TyF Try.prog 77 0 0 := ⟨_, _, _, Try.underlying77, rfl, rfl, Try.sizeOf2⟩
instance : TyF Try.prog 77 1 1 := ⟨_, _, _, Try.underlying77, rfl, rfl, Try.sizeOf2⟩
instance : TyF Try.prog 77 2 2 := ⟨_, _, _, Try.underlying77, rfl, rfl, Try.sizeOf2⟩
instance : TyF Try.prog 77 3 3 := ⟨_, _, _, Try.underlying77, rfl, rfl, Try.sizeOf9⟩
instance : TyF Try.prog 77 4 4 := ⟨_, _, _, Try.underlying77, rfl, rfl, Try.sizeOf32⟩
instance : TyI Try.prog 77 ⟨5, 64, (Go.Value.agg #[(Go.Value.int Go.IntKind.i64 0), (Go.Value.int Go.IntKind.i64 0), (Go.Value.int Go.IntKind.i64 0), (Go.Value.string { data := #[] }), (Go.Value.slice none 0 0)])⟩ := .mk' (by kernel_rfl)
instance : TyU Try.prog 78 (Go.TypeDesc.struct #[{ name := "b", type := 69, offset := 0, embedded := false, tag := "", pkgPath := "veneer/wire", byteOffset := 0 }]) := ⟨Try.underlying78⟩
instance : TyP Try.prog 78 [(0, 1)] := ⟨_, Try.underlying78, fun w => by kernel_rfl⟩
instance : TyF Try.prog 78 0 0 := ⟨_, _, _, Try.underlying78, rfl, rfl, Try.sizeOf69⟩
instance : TyI Try.prog 78 ⟨1, 24, (Go.Value.agg #[(Go.Value.slice none 0 0)])⟩ := .mk' (by kernel_rfl)
instance : TyU Try.prog 79 (Go.TypeDesc.struct #[{ name := "b", type := 69, offset := 0, embedded := false, tag := "", pkgPath := "veneer/wire", byteOffset := 0 }]) := ⟨Try.underlying79⟩
instance : TyP Try.prog 79 [(0, 1)] := ⟨_, Try.underlying79, fun w => by kernel_rfl⟩
instance : TyF Try.prog 79 0 0 := ⟨_, _, _, Try.underlying79, rfl, rfl, Try.sizeOf69⟩
instance : TyI Try.prog 79 ⟨1, 24, (Go.Value.agg #[(Go.Value.slice none 0 0)])⟩ := .mk' (by kernel_rfl)
instance : TyU Try.prog 80 (Go.TypeDesc.func #[2] #[] false) := ⟨Try.underlying80⟩
instance : TyI Try.prog 80 ⟨1, 8, Go.Value.nilFunc⟩ := .mk' (by kernel_rfl)
instance : TyU Try.prog 81 (Go.TypeDesc.func #[9] #[] false) := ⟨Try.underlying81⟩
instance : TyI Try.prog 81 ⟨1, 8, Go.Value.nilFunc⟩ := .mk' (by kernel_rfl)
instance : TyU Try.prog 82 (Go.TypeDesc.func #[] #[69] false) := ⟨Try.underlying82⟩
instance : TyI Try.prog 82 ⟨1, 8, Go.Value.nilFunc⟩ := .mk' (by kernel_rfl)
instance : TyU Try.prog 83 (Go.TypeDesc.func #[3] #[37] false) := ⟨Try.underlying83⟩
instance : TyI Try.prog 83 ⟨1, 8, Go.Value.nilFunc⟩ := .mk' (by kernel_rfl)
instance : TyU Try.prog 84 (Go.TypeDesc.func #[2] #[69] false) := ⟨Try.underlying84⟩
instance : TyI Try.prog 84 ⟨1, 8, Go.Value.nilFunc⟩ := .mk' (by kernel_rfl)
instance : TyU Try.prog 85 (Go.TypeDesc.func #[9] #[69] false) := ⟨Try.underlying85⟩
instance : TyI Try.prog 85 ⟨1, 8, Go.Value.nilFunc⟩ := .mk' (by kernel_rfl)
instance : TyU Try.prog 86 (Go.TypeDesc.func #[32, 32] #[4] false) := ⟨Try.underlying86⟩
instance : TyI Try.prog 86 ⟨1, 8, Go.Value.nilFunc⟩ := .mk' (by kernel_rfl)
instance : TyU Try.prog 87 (Go.TypeDesc.func #[77] #[25] false) := ⟨Try.underlying87⟩
instance : TyI Try.prog 87 ⟨1, 8, Go.Value.nilFunc⟩ := .mk' (by kernel_rfl)
instance : TyU Try.prog 88 (Go.TypeDesc.pointer 94) := ⟨Try.underlying88⟩
instance : TyI Try.prog 88 ⟨1, 8, (Go.Value.pointer none)⟩ := .mk' (by kernel_rfl)
instance : TyU Try.prog 89 (Go.TypeDesc.func #[64] #[88] false) := ⟨Try.underlying89⟩
instance : TyI Try.prog 89 ⟨1, 8, Go.Value.nilFunc⟩ := .mk' (by kernel_rfl)
instance : TyU Try.prog 90 (Go.TypeDesc.func #[3] #[3] false) := ⟨Try.underlying90⟩
instance : TyI Try.prog 90 ⟨1, 8, Go.Value.nilFunc⟩ := .mk' (by kernel_rfl)
instance : TyU Try.prog 91 (Go.TypeDesc.struct #[{ name := "Kind", type := 3, offset := 0, embedded := false, tag := "", pkgPath := "", byteOffset := 0 }, { name := "Behind", type := 2, offset := 1, embedded := false, tag := "", pkgPath := "", byteOffset := 8 }]) := ⟨Try.underlying91⟩
instance : TyP Try.prog 91 [(0, 1), (1, 1)] := ⟨_, Try.underlying91, fun w => by kernel_rfl⟩
instance : TyF Try.prog 91 0 0 := ⟨_, _, _, Try.underlying91, rfl, rfl, Try.sizeOf3⟩
instance : TyF Try.prog 91 1 1 := ⟨_, _, _, Try.underlying91, rfl, rfl, Try.sizeOf2⟩
instance : TyI Try.prog 91 ⟨2, 16, (Go.Value.agg #[(Go.Value.int Go.IntKind.i64 0), (Go.Value.int Go.IntKind.i64 0)])⟩ := .mk' (by kernel_rfl)
instance : TyU Try.prog 92 (Go.TypeDesc.struct #[{ name := "Kind", type := 3, offset := 0, embedded := false, tag := "", pkgPath := "", byteOffset := 0 }, { name := "Behind", type := 2, offset := 1, embedded := false, tag := "", pkgPath := "", byteOffset := 8 }]) := ⟨Try.underlying92⟩
instance : TyP Try.prog 92 [(0, 1), (1, 1)] := ⟨_, Try.underlying92, fun w => by kernel_rfl⟩
instance : TyF Try.prog 92 0 0 := ⟨_, _, _, Try.underlying92, rfl, rfl, Try.sizeOf3⟩
instance : TyF Try.prog 92 1 1 := ⟨_, _, _, Try.underlying92, rfl, rfl, Try.sizeOf2⟩
instance : TyI Try.prog 92 ⟨2, 16, (Go.Value.agg #[(Go.Value.int Go.IntKind.i64 0), (Go.Value.int Go.IntKind.i64 0)])⟩ := .mk' (by kernel_rfl)
instance : TyU Try.prog 93 (Go.TypeDesc.struct #[{ name := "Core", type := 64, offset := 0, embedded := true, tag := "", pkgPath := "", byteOffset := 0 }, { name := "out", type := 41, offset := 46, embedded := false, tag := "", pkgPath := "veneer/vr", byteOffset := 208 }, { name := "note", type := 92, offset := 47, embedded := false, tag := "", pkgPath := "veneer/vr", byteOffset := 232 }]) := ⟨Try.underlying93⟩
instance : TyP Try.prog 93 [(0, 46), (46, 1), (47, 2)] := ⟨_, Try.underlying93, fun w => by kernel_rfl⟩
instance : TyF Try.prog 93 0 0 := ⟨_, _, _, Try.underlying93, rfl, rfl, Try.sizeOf64⟩
instance : TyF Try.prog 93 1 46 := ⟨_, _, _, Try.underlying93, rfl, rfl, Try.sizeOf41⟩
instance : TyF Try.prog 93 2 47 := ⟨_, _, _, Try.underlying93, rfl, rfl, Try.sizeOf92⟩
instance : TyI Try.prog 93 ⟨49, 248, (Go.Value.agg #[(Go.Value.int Go.IntKind.i64 0), (Go.Value.int Go.IntKind.i64 0), (Go.Value.int Go.IntKind.i64 0), (Go.Value.int Go.IntKind.i64 0), (Go.Value.int Go.IntKind.i64 0), (Go.Value.int Go.IntKind.i64 0), (Go.Value.int Go.IntKind.u8 0), (Go.Value.int Go.IntKind.u8 0), (Go.Value.int Go.IntKind.u8 0), (Go.Value.int Go.IntKind.u8 0), (Go.Value.int Go.IntKind.u8 0), (Go.Value.int Go.IntKind.u8 0), (Go.Value.int Go.IntKind.u8 0), (Go.Value.int Go.IntKind.u8 0), (Go.Value.int Go.IntKind.u8 0), (Go.Value.int Go.IntKind.u8 0), (Go.Value.int Go.IntKind.u8 0), (Go.Value.int Go.IntKind.u8 0), (Go.Value.int Go.IntKind.u8 0), (Go.Value.int Go.IntKind.u8 0), (Go.Value.int Go.IntKind.u8 0), (Go.Value.int Go.IntKind.u8 0), (Go.Value.int Go.IntKind.u8 0), (Go.Value.int Go.IntKind.u8 0), (Go.Value.int Go.IntKind.u8 0), (Go.Value.int Go.IntKind.u8 0), (Go.Value.int Go.IntKind.u8 0), (Go.Value.int Go.IntKind.u8 0), (Go.Value.int Go.IntKind.u8 0), (Go.Value.int Go.IntKind.u8 0), (Go.Value.int Go.IntKind.u8 0), (Go.Value.int Go.IntKind.u8 0), (Go.Value.int Go.IntKind.u8 0), (Go.Value.int Go.IntKind.u8 0), (Go.Value.int Go.IntKind.u8 0), (Go.Value.int Go.IntKind.u8 0), (Go.Value.int Go.IntKind.u8 0), (Go.Value.int Go.IntKind.u8 0), (Go.Value.slice none 0 0), (Go.Value.int Go.IntKind.i64 0), (Go.Value.int Go.IntKind.i64 0), (Go.Value.slice none 0 0), (Go.Value.slice none 0 0), (Go.Value.slice none 0 0), (Go.Value.bool false), (Go.Value.int Go.IntKind.i64 0), (Go.Value.slice none 0 0), (Go.Value.int Go.IntKind.i64 0), (Go.Value.int Go.IntKind.i64 0)])⟩ := .mk' (by kernel_rfl)
instance : TyU Try.prog 94 (Go.TypeDesc.struct #[{ name := "Core", type := 64, offset := 0, embedded := true, tag := "", pkgPath := "", byteOffset := 0 }, { name := "out", type := 41, offset := 46, embedded := false, tag := "", pkgPath := "veneer/vr", byteOffset := 208 }, { name := "note", type := 92, offset := 47, embedded := false, tag := "", pkgPath := "veneer/vr", byteOffset := 232 }]) := ⟨Try.underlying94⟩
instance : TyP Try.prog 94 [(0, 46), (46, 1), (47, 2)] := ⟨_, Try.underlying94, fun w => by kernel_rfl⟩
instance : TyF Try.prog 94 0 0 := ⟨_, _, _, Try.underlying94, rfl, rfl, Try.sizeOf64⟩
instance : TyF Try.prog 94 1 46 := ⟨_, _, _, Try.underlying94, rfl, rfl, Try.sizeOf41⟩
instance : TyF Try.prog 94 2 47 := ⟨_, _, _, Try.underlying94, rfl, rfl, Try.sizeOf92⟩
instance : TyI Try.prog 94 ⟨49, 248, (Go.Value.agg #[(Go.Value.int Go.IntKind.i64 0), (Go.Value.int Go.IntKind.i64 0), (Go.Value.int Go.IntKind.i64 0), (Go.Value.int Go.IntKind.i64 0), (Go.Value.int Go.IntKind.i64 0), (Go.Value.int Go.IntKind.i64 0), (Go.Value.int Go.IntKind.u8 0), (Go.Value.int Go.IntKind.u8 0), (Go.Value.int Go.IntKind.u8 0), (Go.Value.int Go.IntKind.u8 0), (Go.Value.int Go.IntKind.u8 0), (Go.Value.int Go.IntKind.u8 0), (Go.Value.int Go.IntKind.u8 0), (Go.Value.int Go.IntKind.u8 0), (Go.Value.int Go.IntKind.u8 0), (Go.Value.int Go.IntKind.u8 0), (Go.Value.int Go.IntKind.u8 0), (Go.Value.int Go.IntKind.u8 0), (Go.Value.int Go.IntKind.u8 0), (Go.Value.int Go.IntKind.u8 0), (Go.Value.int Go.IntKind.u8 0), (Go.Value.int Go.IntKind.u8 0), (Go.Value.int Go.IntKind.u8 0), (Go.Value.int Go.IntKind.u8 0), (Go.Value.int Go.IntKind.u8 0), (Go.Value.int Go.IntKind.u8 0), (Go.Value.int Go.IntKind.u8 0), (Go.Value.int Go.IntKind.u8 0), (Go.Value.int Go.IntKind.u8 0), (Go.Value.int Go.IntKind.u8 0), (Go.Value.int Go.IntKind.u8 0), (Go.Value.int Go.IntKind.u8 0), (Go.Value.int Go.IntKind.u8 0), (Go.Value.int Go.IntKind.u8 0), (Go.Value.int Go.IntKind.u8 0), (Go.Value.int Go.IntKind.u8 0), (Go.Value.int Go.IntKind.u8 0), (Go.Value.int Go.IntKind.u8 0), (Go.Value.slice none 0 0), (Go.Value.int Go.IntKind.i64 0), (Go.Value.int Go.IntKind.i64 0), (Go.Value.slice none 0 0), (Go.Value.slice none 0 0), (Go.Value.slice none 0 0), (Go.Value.bool false), (Go.Value.int Go.IntKind.i64 0), (Go.Value.slice none 0 0), (Go.Value.int Go.IntKind.i64 0), (Go.Value.int Go.IntKind.i64 0)])⟩ := .mk' (by kernel_rfl)
instance : TyU Try.prog 95 (Go.TypeDesc.pointer 79) := ⟨Try.underlying95⟩
instance : TyI Try.prog 95 ⟨1, 8, (Go.Value.pointer none)⟩ := .mk' (by kernel_rfl)
instance : TyU Try.prog 96 (Go.TypeDesc.func #[97] #[] false) := ⟨Try.underlying96⟩
instance : TyI Try.prog 96 ⟨1, 8, Go.Value.nilFunc⟩ := .mk' (by kernel_rfl)
instance : TyU Try.prog 97 (Go.TypeDesc.int Go.IntKind.u64) := ⟨Try.underlying97⟩
instance : TyI Try.prog 97 ⟨1, 8, (Go.Value.int Go.IntKind.u64 0)⟩ := .mk' (by kernel_rfl)
instance : TyU Try.prog 98 (Go.TypeDesc.func #[97] #[69] false) := ⟨Try.underlying98⟩
instance : TyI Try.prog 98 ⟨1, 8, Go.Value.nilFunc⟩ := .mk' (by kernel_rfl)
instance : TyU Try.prog 99 (Go.TypeDesc.func #[77] #[2] false) := ⟨Try.underlying99⟩
instance : TyI Try.prog 99 ⟨1, 8, Go.Value.nilFunc⟩ := .mk' (by kernel_rfl)
instance : TyU Try.prog 100 (Go.TypeDesc.func #[32] #[32] false) := ⟨Try.underlying100⟩
instance : TyI Try.prog 100 ⟨1, 8, Go.Value.nilFunc⟩ := .mk' (by kernel_rfl)
instance : TyU Try.prog 101 (Go.TypeDesc.func #[60] #[60] false) := ⟨Try.underlying101⟩
instance : TyI Try.prog 101 ⟨1, 8, Go.Value.nilFunc⟩ := .mk' (by kernel_rfl)
instance : TyU Try.prog 102 (Go.TypeDesc.func #[61] #[61] false) := ⟨Try.underlying102⟩
instance : TyI Try.prog 102 ⟨1, 8, Go.Value.nilFunc⟩ := .mk' (by kernel_rfl)
instance : TyU Try.prog 103 (Go.TypeDesc.func #[62] #[62] false) := ⟨Try.underlying103⟩
instance : TyI Try.prog 103 ⟨1, 8, Go.Value.nilFunc⟩ := .mk' (by kernel_rfl)
instance : TyU Try.prog 104 (Go.TypeDesc.struct #[{ name := "Replica", type := 3, offset := 0, embedded := false, tag := "", pkgPath := "", byteOffset := 0 }, { name := "Normal", type := 2, offset := 1, embedded := false, tag := "", pkgPath := "", byteOffset := 8 }, { name := "Last", type := 2, offset := 2, embedded := false, tag := "", pkgPath := "", byteOffset := 16 }]) := ⟨Try.underlying104⟩
instance : TyP Try.prog 104 [(0, 1), (1, 1), (2, 1)] := ⟨_, Try.underlying104, fun w => by kernel_rfl⟩
instance : TyF Try.prog 104 0 0 := ⟨_, _, _, Try.underlying104, rfl, rfl, Try.sizeOf3⟩
instance : TyF Try.prog 104 1 1 := ⟨_, _, _, Try.underlying104, rfl, rfl, Try.sizeOf2⟩
instance : TyF Try.prog 104 2 2 := ⟨_, _, _, Try.underlying104, rfl, rfl, Try.sizeOf2⟩
instance : TyI Try.prog 104 ⟨3, 24, (Go.Value.agg #[(Go.Value.int Go.IntKind.i64 0), (Go.Value.int Go.IntKind.i64 0), (Go.Value.int Go.IntKind.i64 0)])⟩ := .mk' (by kernel_rfl)
instance : TyU Try.prog 105 (Go.TypeDesc.struct #[{ name := "Replica", type := 3, offset := 0, embedded := false, tag := "", pkgPath := "", byteOffset := 0 }, { name := "Normal", type := 2, offset := 1, embedded := false, tag := "", pkgPath := "", byteOffset := 8 }, { name := "Last", type := 2, offset := 2, embedded := false, tag := "", pkgPath := "", byteOffset := 16 }]) := ⟨Try.underlying105⟩
instance : TyP Try.prog 105 [(0, 1), (1, 1), (2, 1)] := ⟨_, Try.underlying105, fun w => by kernel_rfl⟩
instance : TyF Try.prog 105 0 0 := ⟨_, _, _, Try.underlying105, rfl, rfl, Try.sizeOf3⟩
instance : TyF Try.prog 105 1 1 := ⟨_, _, _, Try.underlying105, rfl, rfl, Try.sizeOf2⟩
instance : TyF Try.prog 105 2 2 := ⟨_, _, _, Try.underlying105, rfl, rfl, Try.sizeOf2⟩
instance : TyI Try.prog 105 ⟨3, 24, (Go.Value.agg #[(Go.Value.int Go.IntKind.i64 0), (Go.Value.int Go.IntKind.i64 0), (Go.Value.int Go.IntKind.i64 0)])⟩ := .mk' (by kernel_rfl)
instance : TyU Try.prog 106 (Go.TypeDesc.func #[2, 3] #[3] false) := ⟨Try.underlying106⟩
instance : TyI Try.prog 106 ⟨1, 8, Go.Value.nilFunc⟩ := .mk' (by kernel_rfl)
instance : TyU Try.prog 107 (Go.TypeDesc.func #[] #[9] false) := ⟨Try.underlying107⟩
instance : TyI Try.prog 107 ⟨1, 8, Go.Value.nilFunc⟩ := .mk' (by kernel_rfl)
instance : TyU Try.prog 108 (Go.TypeDesc.struct #[{ name := "_interface", type := 17, offset := 0, embedded := false, tag := "", pkgPath := "runtime", byteOffset := 0 }, { name := "concrete", type := 17, offset := 1, embedded := false, tag := "", pkgPath := "runtime", byteOffset := 8 }, { name := "asserted", type := 17, offset := 2, embedded := false, tag := "", pkgPath := "runtime", byteOffset := 16 }, { name := "missingMethod", type := 9, offset := 3, embedded := false, tag := "", pkgPath := "runtime", byteOffset := 24 }]) := ⟨Try.underlying108⟩
instance : TyP Try.prog 108 [(0, 1), (1, 1), (2, 1), (3, 1)] := ⟨_, Try.underlying108, fun w => by kernel_rfl⟩
instance : TyF Try.prog 108 0 0 := ⟨_, _, _, Try.underlying108, rfl, rfl, Try.sizeOf17⟩
instance : TyF Try.prog 108 1 1 := ⟨_, _, _, Try.underlying108, rfl, rfl, Try.sizeOf17⟩
instance : TyF Try.prog 108 2 2 := ⟨_, _, _, Try.underlying108, rfl, rfl, Try.sizeOf17⟩
instance : TyF Try.prog 108 3 3 := ⟨_, _, _, Try.underlying108, rfl, rfl, Try.sizeOf9⟩
instance : TyI Try.prog 108 ⟨4, 40, (Go.Value.agg #[(Go.Value.pointer none), (Go.Value.pointer none), (Go.Value.pointer none), (Go.Value.string { data := #[] })])⟩ := .mk' (by kernel_rfl)
instance : TyU Try.prog 109 (Go.TypeDesc.struct #[{ name := "_interface", type := 17, offset := 0, embedded := false, tag := "", pkgPath := "runtime", byteOffset := 0 }, { name := "concrete", type := 17, offset := 1, embedded := false, tag := "", pkgPath := "runtime", byteOffset := 8 }, { name := "asserted", type := 17, offset := 2, embedded := false, tag := "", pkgPath := "runtime", byteOffset := 16 }, { name := "missingMethod", type := 9, offset := 3, embedded := false, tag := "", pkgPath := "runtime", byteOffset := 24 }]) := ⟨Try.underlying109⟩
instance : TyP Try.prog 109 [(0, 1), (1, 1), (2, 1), (3, 1)] := ⟨_, Try.underlying109, fun w => by kernel_rfl⟩
instance : TyF Try.prog 109 0 0 := ⟨_, _, _, Try.underlying109, rfl, rfl, Try.sizeOf17⟩
instance : TyF Try.prog 109 1 1 := ⟨_, _, _, Try.underlying109, rfl, rfl, Try.sizeOf17⟩
instance : TyF Try.prog 109 2 2 := ⟨_, _, _, Try.underlying109, rfl, rfl, Try.sizeOf17⟩
instance : TyF Try.prog 109 3 3 := ⟨_, _, _, Try.underlying109, rfl, rfl, Try.sizeOf9⟩
instance : TyI Try.prog 109 ⟨4, 40, (Go.Value.agg #[(Go.Value.pointer none), (Go.Value.pointer none), (Go.Value.pointer none), (Go.Value.string { data := #[] })])⟩ := .mk' (by kernel_rfl)
instance : TyU Try.prog 110 (Go.TypeDesc.array 0 16) := ⟨Try.underlying110⟩
instance : TyI Try.prog 110 ⟨0, 0, (Go.Value.agg #[])⟩ := .mk' (by kernel_rfl)
instance : TyU Try.prog 111 (Go.TypeDesc.struct #[{ name := "_", type := 110, offset := 0, embedded := false, tag := "", pkgPath := "runtime", byteOffset := 0 }]) := ⟨Try.underlying111⟩
instance : TyP Try.prog 111 [(0, 0)] := ⟨_, Try.underlying111, fun w => by kernel_rfl⟩
instance : TyI Try.prog 111 ⟨0, 0, (Go.Value.agg #[])⟩ := .mk' (by kernel_rfl)
instance : TyU Try.prog 112 (Go.TypeDesc.struct #[{ name := "_", type := 110, offset := 0, embedded := false, tag := "", pkgPath := "runtime", byteOffset := 0 }]) := ⟨Try.underlying112⟩
instance : TyP Try.prog 112 [(0, 0)] := ⟨_, Try.underlying112, fun w => by kernel_rfl⟩
instance : TyI Try.prog 112 ⟨0, 0, (Go.Value.agg #[])⟩ := .mk' (by kernel_rfl)
instance : TyU Try.prog 113 (Go.TypeDesc.int Go.IntKind.u32) := ⟨Try.underlying113⟩
instance : TyI Try.prog 113 ⟨1, 4, (Go.Value.int Go.IntKind.u32 0)⟩ := .mk' (by kernel_rfl)
instance : TyU Try.prog 114 (Go.TypeDesc.int Go.IntKind.u8) := ⟨Try.underlying114⟩
instance : TyI Try.prog 114 ⟨1, 1, (Go.Value.int Go.IntKind.u8 0)⟩ := .mk' (by kernel_rfl)
instance : TyU Try.prog 115 (Go.TypeDesc.int Go.IntKind.u8) := ⟨Try.underlying115⟩
instance : TyI Try.prog 115 ⟨1, 1, (Go.Value.int Go.IntKind.u8 0)⟩ := .mk' (by kernel_rfl)
instance : TyU Try.prog 116 (Go.TypeDesc.func #[123, 123] #[4] false) := ⟨Try.underlying116⟩
instance : TyI Try.prog 116 ⟨1, 8, Go.Value.nilFunc⟩ := .mk' (by kernel_rfl)
instance : TyU Try.prog 117 (Go.TypeDesc.pointer 5) := ⟨Try.underlying117⟩
instance : TyI Try.prog 117 ⟨1, 8, (Go.Value.pointer none)⟩ := .mk' (by kernel_rfl)
instance : TyU Try.prog 118 (Go.TypeDesc.int Go.IntKind.i32) := ⟨Try.underlying118⟩
instance : TyI Try.prog 118 ⟨1, 4, (Go.Value.int Go.IntKind.i32 0)⟩ := .mk' (by kernel_rfl)
instance : TyU Try.prog 119 (Go.TypeDesc.int Go.IntKind.i32) := ⟨Try.underlying119⟩
instance : TyI Try.prog 119 ⟨1, 4, (Go.Value.int Go.IntKind.i32 0)⟩ := .mk' (by kernel_rfl)
instance : TyU Try.prog 120 (Go.TypeDesc.struct #[{ name := "Size_", type := 12, offset := 0, embedded := false, tag := "", pkgPath := "", byteOffset := 0 }, { name := "PtrBytes", type := 12, offset := 1, embedded := false, tag := "", pkgPath := "", byteOffset := 8 }, { name := "Hash", type := 113, offset := 2, embedded := false, tag := "", pkgPath := "", byteOffset := 16 }, { name := "TFlag", type := 114, offset := 3, embedded := false, tag := "", pkgPath := "", byteOffset := 20 }, { name := "Align_", type := 5, offset := 4, embedded := false, tag := "", pkgPath := "", byteOffset := 21 }, { name := "FieldAlign_", type := 5, offset := 5, embedded := false, tag := "", pkgPath := "", byteOffset := 22 }, { name := "Kind_", type := 115, offset := 6, embedded := false, tag := "", pkgPath := "", byteOffset := 23 }, { name := "Equal", type := 116, offset := 7, embedded := false, tag := "", pkgPath := "", byteOffset := 24 }, { name := "GCData", type := 117, offset := 8, embedded := false, tag := "", pkgPath := "", byteOffset := 32 }, { name := "Str", type := 118, offset := 9, embedded := false, tag := "", pkgPath := "", byteOffset := 40 }, { name := "PtrToThis", type := 119, offset := 10, embedded := false, tag := "", pkgPath := "", byteOffset := 44 }]) := ⟨Try.underlying120⟩
instance : TyP Try.prog 120 [(0, 1), (1, 1), (2, 1), (3, 1), (4, 1), (5, 1), (6, 1), (7, 1), (8, 1), (9, 1), (10, 1)] := ⟨_, Try.underlying120, fun w => by kernel_rfl⟩
instance : TyF Try.prog 120 0 0 := ⟨_, _, _, Try.underlying120, rfl, rfl, Try.sizeOf12⟩
instance : TyF Try.prog 120 1 1 := ⟨_, _, _, Try.underlying120, rfl, rfl, Try.sizeOf12⟩
instance : TyF Try.prog 120 2 2 := ⟨_, _, _, Try.underlying120, rfl, rfl, Try.sizeOf113⟩
instance : TyF Try.prog 120 3 3 := ⟨_, _, _, Try.underlying120, rfl, rfl, Try.sizeOf114⟩
instance : TyF Try.prog 120 4 4 := ⟨_, _, _, Try.underlying120, rfl, rfl, Try.sizeOf5⟩
instance : TyF Try.prog 120 5 5 := ⟨_, _, _, Try.underlying120, rfl, rfl, Try.sizeOf5⟩
instance : TyF Try.prog 120 6 6 := ⟨_, _, _, Try.underlying120, rfl, rfl, Try.sizeOf115⟩
instance : TyF Try.prog 120 7 7 := ⟨_, _, _, Try.underlying120, rfl, rfl, Try.sizeOf116⟩
instance : TyF Try.prog 120 8 8 := ⟨_, _, _, Try.underlying120, rfl, rfl, Try.sizeOf117⟩
instance : TyF Try.prog 120 9 9 := ⟨_, _, _, Try.underlying120, rfl, rfl, Try.sizeOf118⟩
instance : TyF Try.prog 120 10 10 := ⟨_, _, _, Try.underlying120, rfl, rfl, Try.sizeOf119⟩
instance : TyI Try.prog 120 ⟨11, 48, (Go.Value.agg #[(Go.Value.int Go.IntKind.u64 0), (Go.Value.int Go.IntKind.u64 0), (Go.Value.int Go.IntKind.u32 0), (Go.Value.int Go.IntKind.u8 0), (Go.Value.int Go.IntKind.u8 0), (Go.Value.int Go.IntKind.u8 0), (Go.Value.int Go.IntKind.u8 0), Go.Value.nilFunc, (Go.Value.pointer none), (Go.Value.int Go.IntKind.i32 0), (Go.Value.int Go.IntKind.i32 0)])⟩ := .mk' (by kernel_rfl)
instance : TyU Try.prog 121 (Go.TypeDesc.struct #[{ name := "Size_", type := 12, offset := 0, embedded := false, tag := "", pkgPath := "", byteOffset := 0 }, { name := "PtrBytes", type := 12, offset := 1, embedded := false, tag := "", pkgPath := "", byteOffset := 8 }, { name := "Hash", type := 113, offset := 2, embedded := false, tag := "", pkgPath := "", byteOffset := 16 }, { name := "TFlag", type := 114, offset := 3, embedded := false, tag := "", pkgPath := "", byteOffset := 20 }, { name := "Align_", type := 5, offset := 4, embedded := false, tag := "", pkgPath := "", byteOffset := 21 }, { name := "FieldAlign_", type := 5, offset := 5, embedded := false, tag := "", pkgPath := "", byteOffset := 22 }, { name := "Kind_", type := 115, offset := 6, embedded := false, tag := "", pkgPath := "", byteOffset := 23 }, { name := "Equal", type := 116, offset := 7, embedded := false, tag := "", pkgPath := "", byteOffset := 24 }, { name := "GCData", type := 117, offset := 8, embedded := false, tag := "", pkgPath := "", byteOffset := 32 }, { name := "Str", type := 118, offset := 9, embedded := false, tag := "", pkgPath := "", byteOffset := 40 }, { name := "PtrToThis", type := 119, offset := 10, embedded := false, tag := "", pkgPath := "", byteOffset := 44 }]) := ⟨Try.underlying121⟩
instance : TyP Try.prog 121 [(0, 1), (1, 1), (2, 1), (3, 1), (4, 1), (5, 1), (6, 1), (7, 1), (8, 1), (9, 1), (10, 1)] := ⟨_, Try.underlying121, fun w => by kernel_rfl⟩
instance : TyF Try.prog 121 0 0 := ⟨_, _, _, Try.underlying121, rfl, rfl, Try.sizeOf12⟩
instance : TyF Try.prog 121 1 1 := ⟨_, _, _, Try.underlying121, rfl, rfl, Try.sizeOf12⟩
instance : TyF Try.prog 121 2 2 := ⟨_, _, _, Try.underlying121, rfl, rfl, Try.sizeOf113⟩
instance : TyF Try.prog 121 3 3 := ⟨_, _, _, Try.underlying121, rfl, rfl, Try.sizeOf114⟩
instance : TyF Try.prog 121 4 4 := ⟨_, _, _, Try.underlying121, rfl, rfl, Try.sizeOf5⟩
instance : TyF Try.prog 121 5 5 := ⟨_, _, _, Try.underlying121, rfl, rfl, Try.sizeOf5⟩
instance : TyF Try.prog 121 6 6 := ⟨_, _, _, Try.underlying121, rfl, rfl, Try.sizeOf115⟩
instance : TyF Try.prog 121 7 7 := ⟨_, _, _, Try.underlying121, rfl, rfl, Try.sizeOf116⟩
instance : TyF Try.prog 121 8 8 := ⟨_, _, _, Try.underlying121, rfl, rfl, Try.sizeOf117⟩
instance : TyF Try.prog 121 9 9 := ⟨_, _, _, Try.underlying121, rfl, rfl, Try.sizeOf118⟩
instance : TyF Try.prog 121 10 10 := ⟨_, _, _, Try.underlying121, rfl, rfl, Try.sizeOf119⟩
instance : TyI Try.prog 121 ⟨11, 48, (Go.Value.agg #[(Go.Value.int Go.IntKind.u64 0), (Go.Value.int Go.IntKind.u64 0), (Go.Value.int Go.IntKind.u32 0), (Go.Value.int Go.IntKind.u8 0), (Go.Value.int Go.IntKind.u8 0), (Go.Value.int Go.IntKind.u8 0), (Go.Value.int Go.IntKind.u8 0), Go.Value.nilFunc, (Go.Value.pointer none), (Go.Value.int Go.IntKind.i32 0), (Go.Value.int Go.IntKind.i32 0)])⟩ := .mk' (by kernel_rfl)
instance : TyU Try.prog 122 (Go.TypeDesc.func #[4] #[] false) := ⟨Try.underlying122⟩
instance : TyI Try.prog 122 ⟨1, 8, Go.Value.nilFunc⟩ := .mk' (by kernel_rfl)
instance : TyU Try.prog 123 Go.TypeDesc.unsafePointer := ⟨Try.underlying123⟩
instance : TyI Try.prog 123 ⟨1, 8, (Go.Value.pointer none)⟩ := .mk' (by kernel_rfl)
instance : CallOk Try.prog 2 := ⟨Try.call2⟩
instance : CallOk Try.prog 3 := ⟨Try.call3⟩
instance : CallOk Try.prog 4 := ⟨Try.call4⟩
instance : CallOk Try.prog 5 := ⟨Try.call5⟩
instance : CallOk Try.prog 6 := ⟨Try.call6⟩
instance : CallOk Try.prog 7 := ⟨Try.call7⟩
instance : CallOk Try.prog 8 := ⟨Try.call8⟩
instance : CallOk Try.prog 9 := ⟨Try.call9⟩
instance : CallOk Try.prog 10 := ⟨Try.call10⟩
instance : CallOk Try.prog 11 := ⟨Try.call11⟩
instance : CallOk Try.prog 12 := ⟨Try.call12⟩
instance : CallOk Try.prog 13 := ⟨Try.call13⟩
instance : CallOk Try.prog 14 := ⟨Try.call14⟩
instance : CallOk Try.prog 15 := ⟨Try.call15⟩
instance : CallOk Try.prog 16 := ⟨Try.call16⟩
instance : CallOk Try.prog 17 := ⟨Try.call17⟩
instance : CallOk Try.prog 18 := ⟨Try.call18⟩
instance : CallOk Try.prog 19 := ⟨Try.call19⟩
instance : CallOk Try.prog 20 := ⟨Try.call20⟩
instance : CallOk Try.prog 21 := ⟨Try.call21⟩
instance : CallOk Try.prog 22 := ⟨Try.call22⟩
instance : CallOk Try.prog 23 := ⟨Try.call23⟩
instance : CallOk Try.prog 24 := ⟨Try.call24⟩
instance : CallOk Try.prog 25 := ⟨Try.call25⟩
instance : CallOk Try.prog 26 := ⟨Try.call26⟩
instance : CallOk Try.prog 27 := ⟨Try.call27⟩
instance : CallOk Try.prog 28 := ⟨Try.call28⟩
instance : CallOk Try.prog 29 := ⟨Try.call29⟩
instance : CallOk Try.prog 30 := ⟨Try.call30⟩
instance : CallOk Try.prog 31 := ⟨Try.call31⟩
instance : CallOk Try.prog 32 := ⟨Try.call32⟩
instance : CallOk Try.prog 33 := ⟨Try.call33⟩
instance : CallOk Try.prog 34 := ⟨Try.call34⟩
instance : CallOk Try.prog 35 := ⟨Try.call35⟩
instance : CallOk Try.prog 36 := ⟨Try.call36⟩
instance : CallOk Try.prog 37 := ⟨Try.call37⟩
instance : CallOk Try.prog 38 := ⟨Try.call38⟩
instance : CallOk Try.prog 39 := ⟨Try.call39⟩
instance : CallOk Try.prog 40 := ⟨Try.call40⟩
instance : CallOk Try.prog 41 := ⟨Try.call41⟩
instance : CallOk Try.prog 42 := ⟨Try.call42⟩
instance : CallOk Try.prog 43 := ⟨Try.call43⟩
instance : CallOk Try.prog 44 := ⟨Try.call44⟩
instance : CallOk Try.prog 45 := ⟨Try.call45⟩
instance : CallOk Try.prog 46 := ⟨Try.call46⟩
instance : CallOk Try.prog 47 := ⟨Try.call47⟩
instance : CallOk Try.prog 48 := ⟨Try.call48⟩
instance : CallOk Try.prog 49 := ⟨Try.call49⟩
end VK
