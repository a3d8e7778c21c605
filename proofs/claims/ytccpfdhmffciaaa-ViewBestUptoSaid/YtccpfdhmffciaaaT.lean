/- The seat's tables as instances: each type's make, size and zero; each function may be called; the order of open regions is any. No conditions. -/
import Derived.Test.YtccpfdhmffciaaaProg
import Derived.Test.YtccpfdhmffciaaaV1
import Derived.KernelRfl
namespace VK
open Go Go.Proofs
instance : Mixed Try.prog := ⟨by kernel_rfl⟩
instance : TyU Try.prog 0 (Go.TypeDesc.tuple #[]) := ⟨Try.underlying0⟩
instance : TyI Try.prog 0 ⟨1, 0, (Go.Value.tuple #[])⟩ := .mk' (by kernel_rfl)
instance : TyU Try.prog 1 (Go.TypeDesc.func #[] #[] false) := ⟨Try.underlying1⟩
instance : TyI Try.prog 1 ⟨1, 8, Go.Value.nilFunc⟩ := .mk' (by kernel_rfl)
instance : TyU Try.prog 2 (Go.TypeDesc.int Go.IntKind.i64) := ⟨Try.underlying2⟩
instance : TyI Try.prog 2 ⟨1, 8, (Go.Value.int Go.IntKind.i64 0)⟩ := .mk' (by kernel_rfl)
instance : TyU Try.prog 3 (Go.TypeDesc.int Go.IntKind.i64) := ⟨Try.underlying3⟩
instance : TyI Try.prog 3 ⟨1, 8, (Go.Value.int Go.IntKind.i64 0)⟩ := .mk' (by kernel_rfl)
instance : TyU Try.prog 4 Go.TypeDesc.bool := ⟨Try.underlying4⟩
instance : TyI Try.prog 4 ⟨1, 1, (Go.Value.bool false)⟩ := .mk' (by kernel_rfl)
instance : TyU Try.prog 5 (Go.TypeDesc.int Go.IntKind.u8) := ⟨Try.underlying5⟩
instance : TyI Try.prog 5 ⟨1, 1, (Go.Value.int Go.IntKind.u8 0)⟩ := .mk' (by kernel_rfl)
instance : TyU Try.prog 6 (Go.TypeDesc.int Go.IntKind.u8) := ⟨Try.underlying6⟩
instance : TyI Try.prog 6 ⟨1, 1, (Go.Value.int Go.IntKind.u8 0)⟩ := .mk' (by kernel_rfl)
instance : TyU Try.prog 7 (Go.TypeDesc.struct #[{ name := "x", type := 2, offset := 0, embedded := false, tag := "", pkgPath := "runtime", byteOffset := 0 }, { name := "y", type := 3, offset := 1, embedded := false, tag := "", pkgPath := "runtime", byteOffset := 8 }, { name := "signed", type := 4, offset := 2, embedded := false, tag := "", pkgPath := "runtime", byteOffset := 16 }, { name := "code", type := 6, offset := 3, embedded := false, tag := "", pkgPath := "runtime", byteOffset := 17 }]) := ⟨Try.underlying7⟩
instance : TyP Try.prog 7 [(0, 1), (1, 1), (2, 1), (3, 1)] := ⟨_, Try.underlying7, fun w => by kernel_rfl⟩
instance : TyF Try.prog 7 0 0 := ⟨_, _, _, Try.underlying7, rfl, rfl, Try.sizeOf2⟩
instance : TyF Try.prog 7 1 1 := ⟨_, _, _, Try.underlying7, rfl, rfl, Try.sizeOf3⟩
instance : TyF Try.prog 7 2 2 := ⟨_, _, _, Try.underlying7, rfl, rfl, Try.sizeOf4⟩
instance : TyF Try.prog 7 3 3 := ⟨_, _, _, Try.underlying7, rfl, rfl, Try.sizeOf6⟩
instance : TyI Try.prog 7 ⟨4, 24, (Go.Value.agg #[(Go.Value.int Go.IntKind.i64 0), (Go.Value.int Go.IntKind.i64 0), (Go.Value.bool false), (Go.Value.int Go.IntKind.u8 0)])⟩ := .mk' (by kernel_rfl)
instance : TyU Try.prog 8 (Go.TypeDesc.struct #[{ name := "x", type := 2, offset := 0, embedded := false, tag := "", pkgPath := "runtime", byteOffset := 0 }, { name := "y", type := 3, offset := 1, embedded := false, tag := "", pkgPath := "runtime", byteOffset := 8 }, { name := "signed", type := 4, offset := 2, embedded := false, tag := "", pkgPath := "runtime", byteOffset := 16 }, { name := "code", type := 6, offset := 3, embedded := false, tag := "", pkgPath := "runtime", byteOffset := 17 }]) := ⟨Try.underlying8⟩
instance : TyP Try.prog 8 [(0, 1), (1, 1), (2, 1), (3, 1)] := ⟨_, Try.underlying8, fun w => by kernel_rfl⟩
instance : TyF Try.prog 8 0 0 := ⟨_, _, _, Try.underlying8, rfl, rfl, Try.sizeOf2⟩
instance : TyF Try.prog 8 1 1 := ⟨_, _, _, Try.underlying8, rfl, rfl, Try.sizeOf3⟩
instance : TyF Try.prog 8 2 2 := ⟨_, _, _, Try.underlying8, rfl, rfl, Try.sizeOf4⟩
instance : TyF Try.prog 8 3 3 := ⟨_, _, _, Try.underlying8, rfl, rfl, Try.sizeOf6⟩
instance : TyI Try.prog 8 ⟨4, 24, (Go.Value.agg #[(Go.Value.int Go.IntKind.i64 0), (Go.Value.int Go.IntKind.i64 0), (Go.Value.bool false), (Go.Value.int Go.IntKind.u8 0)])⟩ := .mk' (by kernel_rfl)
instance : TyU Try.prog 9 Go.TypeDesc.string := ⟨Try.underlying9⟩
instance : TyI Try.prog 9 ⟨1, 16, (Go.Value.string { data := #[] })⟩ := .mk' (by kernel_rfl)
instance : TyU Try.prog 10 Go.TypeDesc.string := ⟨Try.underlying10⟩
instance : TyI Try.prog 10 ⟨1, 16, (Go.Value.string { data := #[] })⟩ := .mk' (by kernel_rfl)
instance : TyU Try.prog 11 Go.TypeDesc.string := ⟨Try.underlying11⟩
instance : TyI Try.prog 11 ⟨1, 16, (Go.Value.string { data := #[] })⟩ := .mk' (by kernel_rfl)
instance : TyU Try.prog 12 (Go.TypeDesc.int Go.IntKind.u64) := ⟨Try.underlying12⟩
instance : TyI Try.prog 12 ⟨1, 8, (Go.Value.int Go.IntKind.u64 0)⟩ := .mk' (by kernel_rfl)
instance : TyU Try.prog 13 (Go.TypeDesc.struct #[{ name := "msg", type := 9, offset := 0, embedded := false, tag := "", pkgPath := "runtime", byteOffset := 0 }, { name := "addr", type := 12, offset := 1, embedded := false, tag := "", pkgPath := "runtime", byteOffset := 16 }]) := ⟨Try.underlying13⟩
instance : TyP Try.prog 13 [(0, 1), (1, 1)] := ⟨_, Try.underlying13, fun w => by kernel_rfl⟩
instance : TyF Try.prog 13 0 0 := ⟨_, _, _, Try.underlying13, rfl, rfl, Try.sizeOf9⟩
instance : TyF Try.prog 13 1 1 := ⟨_, _, _, Try.underlying13, rfl, rfl, Try.sizeOf12⟩
instance : TyI Try.prog 13 ⟨2, 24, (Go.Value.agg #[(Go.Value.string { data := #[] }), (Go.Value.int Go.IntKind.u64 0)])⟩ := .mk' (by kernel_rfl)
instance : TyU Try.prog 14 (Go.TypeDesc.struct #[{ name := "msg", type := 9, offset := 0, embedded := false, tag := "", pkgPath := "runtime", byteOffset := 0 }, { name := "addr", type := 12, offset := 1, embedded := false, tag := "", pkgPath := "runtime", byteOffset := 16 }]) := ⟨Try.underlying14⟩
instance : TyP Try.prog 14 [(0, 1), (1, 1)] := ⟨_, Try.underlying14, fun w => by kernel_rfl⟩
instance : TyF Try.prog 14 0 0 := ⟨_, _, _, Try.underlying14, rfl, rfl, Try.sizeOf9⟩
instance : TyF Try.prog 14 1 1 := ⟨_, _, _, Try.underlying14, rfl, rfl, Try.sizeOf12⟩
instance : TyI Try.prog 14 ⟨2, 24, (Go.Value.agg #[(Go.Value.string { data := #[] }), (Go.Value.int Go.IntKind.u64 0)])⟩ := .mk' (by kernel_rfl)
instance : TyU Try.prog 15 (Go.TypeDesc.pointer 80) := ⟨Try.underlying15⟩
instance : TyI Try.prog 15 ⟨1, 8, (Go.Value.pointer none)⟩ := .mk' (by kernel_rfl)
instance : TyU Try.prog 16 (Go.TypeDesc.pointer 83) := ⟨Try.underlying16⟩
instance : TyI Try.prog 16 ⟨1, 8, (Go.Value.pointer none)⟩ := .mk' (by kernel_rfl)
instance : TyU Try.prog 17 (Go.TypeDesc.pointer 92) := ⟨Try.underlying17⟩
instance : TyI Try.prog 17 ⟨1, 8, (Go.Value.pointer none)⟩ := .mk' (by kernel_rfl)
instance : TyU Try.prog 18 (Go.TypeDesc.struct #[{ name := "typ", type := 17, offset := 0, embedded := false, tag := "", pkgPath := "internal/runtime/maps", byteOffset := 0 }]) := ⟨Try.underlying18⟩
instance : TyP Try.prog 18 [(0, 1)] := ⟨_, Try.underlying18, fun w => by kernel_rfl⟩
instance : TyF Try.prog 18 0 0 := ⟨_, _, _, Try.underlying18, rfl, rfl, Try.sizeOf17⟩
instance : TyI Try.prog 18 ⟨1, 8, (Go.Value.agg #[(Go.Value.pointer none)])⟩ := .mk' (by kernel_rfl)
instance : TyU Try.prog 19 (Go.TypeDesc.struct #[{ name := "typ", type := 17, offset := 0, embedded := false, tag := "", pkgPath := "internal/runtime/maps", byteOffset := 0 }]) := ⟨Try.underlying19⟩
instance : TyP Try.prog 19 [(0, 1)] := ⟨_, Try.underlying19, fun w => by kernel_rfl⟩
instance : TyF Try.prog 19 0 0 := ⟨_, _, _, Try.underlying19, rfl, rfl, Try.sizeOf17⟩
instance : TyI Try.prog 19 ⟨1, 8, (Go.Value.agg #[(Go.Value.pointer none)])⟩ := .mk' (by kernel_rfl)
instance : TyU Try.prog 20 (Go.TypeDesc.interface #[]) := ⟨Try.underlying20⟩
instance : TyI Try.prog 20 ⟨1, 16, Go.Value.nilIface⟩ := .mk' (by kernel_rfl)
instance : TyU Try.prog 21 (Go.TypeDesc.int Go.IntKind.i32) := ⟨Try.underlying21⟩
instance : TyI Try.prog 21 ⟨1, 4, (Go.Value.int Go.IntKind.i32 0)⟩ := .mk' (by kernel_rfl)
instance : TyU Try.prog 22 (Go.TypeDesc.func #[] #[4] false) := ⟨Try.underlying22⟩
instance : TyI Try.prog 22 ⟨1, 8, Go.Value.nilFunc⟩ := .mk' (by kernel_rfl)
instance : TyU Try.prog 23 (Go.TypeDesc.func #[2, 3] #[3] false) := ⟨Try.underlying23⟩
instance : TyI Try.prog 23 ⟨1, 8, Go.Value.nilFunc⟩ := .mk' (by kernel_rfl)
instance : TyU Try.prog 24 (Go.TypeDesc.func #[3] #[3] false) := ⟨Try.underlying24⟩
instance : TyI Try.prog 24 ⟨1, 8, Go.Value.nilFunc⟩ := .mk' (by kernel_rfl)
instance : TyU Try.prog 25 (Go.TypeDesc.func #[2, 3, 3] #[4] false) := ⟨Try.underlying25⟩
instance : TyI Try.prog 25 ⟨1, 8, Go.Value.nilFunc⟩ := .mk' (by kernel_rfl)
instance : TyU Try.prog 26 (Go.TypeDesc.func #[2, 3, 3] #[2] false) := ⟨Try.underlying26⟩
instance : TyI Try.prog 26 ⟨1, 8, Go.Value.nilFunc⟩ := .mk' (by kernel_rfl)
instance : TyU Try.prog 27 (Go.TypeDesc.func #[2, 2, 3, 3] #[4] false) := ⟨Try.underlying27⟩
instance : TyI Try.prog 27 ⟨1, 8, Go.Value.nilFunc⟩ := .mk' (by kernel_rfl)
instance : TyU Try.prog 28 (Go.TypeDesc.slice 31) := ⟨Try.underlying28⟩
instance : TyI Try.prog 28 ⟨1, 24, (Go.Value.slice none 0 0)⟩ := .mk' (by kernel_rfl)
instance : TyU Try.prog 29 (Go.TypeDesc.func #[28] #[3] false) := ⟨Try.underlying29⟩
instance : TyI Try.prog 29 ⟨1, 8, Go.Value.nilFunc⟩ := .mk' (by kernel_rfl)
instance : TyU Try.prog 30 (Go.TypeDesc.struct #[{ name := "Replica", type := 3, offset := 0, embedded := false, tag := "", pkgPath := "", byteOffset := 0 }, { name := "Normal", type := 2, offset := 1, embedded := false, tag := "", pkgPath := "", byteOffset := 8 }, { name := "Last", type := 2, offset := 2, embedded := false, tag := "", pkgPath := "", byteOffset := 16 }]) := ⟨Try.underlying30⟩
instance : TyP Try.prog 30 [(0, 1), (1, 1), (2, 1)] := ⟨_, Try.underlying30, fun w => by kernel_rfl⟩
instance : TyF Try.prog 30 0 0 := ⟨_, _, _, Try.underlying30, rfl, rfl, Try.sizeOf3⟩
instance : TyF Try.prog 30 1 1 := ⟨_, _, _, Try.underlying30, rfl, rfl, Try.sizeOf2⟩
instance : TyF Try.prog 30 2 2 := ⟨_, _, _, Try.underlying30, rfl, rfl, Try.sizeOf2⟩
instance : TyI Try.prog 30 ⟨3, 24, (Go.Value.agg #[(Go.Value.int Go.IntKind.i64 0), (Go.Value.int Go.IntKind.i64 0), (Go.Value.int Go.IntKind.i64 0)])⟩ := .mk' (by kernel_rfl)
instance : TyU Try.prog 31 (Go.TypeDesc.struct #[{ name := "Replica", type := 3, offset := 0, embedded := false, tag := "", pkgPath := "", byteOffset := 0 }, { name := "Normal", type := 2, offset := 1, embedded := false, tag := "", pkgPath := "", byteOffset := 8 }, { name := "Last", type := 2, offset := 2, embedded := false, tag := "", pkgPath := "", byteOffset := 16 }]) := ⟨Try.underlying31⟩
instance : TyP Try.prog 31 [(0, 1), (1, 1), (2, 1)] := ⟨_, Try.underlying31, fun w => by kernel_rfl⟩
instance : TyF Try.prog 31 0 0 := ⟨_, _, _, Try.underlying31, rfl, rfl, Try.sizeOf3⟩
instance : TyF Try.prog 31 1 1 := ⟨_, _, _, Try.underlying31, rfl, rfl, Try.sizeOf2⟩
instance : TyF Try.prog 31 2 2 := ⟨_, _, _, Try.underlying31, rfl, rfl, Try.sizeOf2⟩
instance : TyI Try.prog 31 ⟨3, 24, (Go.Value.agg #[(Go.Value.int Go.IntKind.i64 0), (Go.Value.int Go.IntKind.i64 0), (Go.Value.int Go.IntKind.i64 0)])⟩ := .mk' (by kernel_rfl)
instance : TyU Try.prog 32 (Go.TypeDesc.int Go.IntKind.u64) := ⟨Try.underlying32⟩
instance : TyI Try.prog 32 ⟨1, 8, (Go.Value.int Go.IntKind.u64 0)⟩ := .mk' (by kernel_rfl)
instance : TyU Try.prog 33 (Go.TypeDesc.func #[28, 3] #[4] false) := ⟨Try.underlying33⟩
instance : TyI Try.prog 33 ⟨1, 8, Go.Value.nilFunc⟩ := .mk' (by kernel_rfl)
instance : TyU Try.prog 34 (Go.TypeDesc.slice 2) := ⟨Try.underlying34⟩
instance : TyI Try.prog 34 ⟨1, 24, (Go.Value.slice none 0 0)⟩ := .mk' (by kernel_rfl)
instance : TyU Try.prog 35 (Go.TypeDesc.func #[34] #[2] false) := ⟨Try.underlying35⟩
instance : TyI Try.prog 35 ⟨1, 8, Go.Value.nilFunc⟩ := .mk' (by kernel_rfl)
instance : TyU Try.prog 36 (Go.TypeDesc.func #[34, 3] #[4] false) := ⟨Try.underlying36⟩
instance : TyI Try.prog 36 ⟨1, 8, Go.Value.nilFunc⟩ := .mk' (by kernel_rfl)
instance : TyU Try.prog 37 (Go.TypeDesc.slice 4) := ⟨Try.underlying37⟩
instance : TyI Try.prog 37 ⟨1, 24, (Go.Value.slice none 0 0)⟩ := .mk' (by kernel_rfl)
instance : TyU Try.prog 38 (Go.TypeDesc.func #[37, 37] #[4] false) := ⟨Try.underlying38⟩
instance : TyI Try.prog 38 ⟨1, 8, Go.Value.nilFunc⟩ := .mk' (by kernel_rfl)
instance : TyU Try.prog 39 (Go.TypeDesc.func #[28, 31] #[3] false) := ⟨Try.underlying39⟩
instance : TyI Try.prog 39 ⟨1, 8, Go.Value.nilFunc⟩ := .mk' (by kernel_rfl)
instance : TyU Try.prog 40 (Go.TypeDesc.func #[28, 41] #[31] false) := ⟨Try.underlying40⟩
instance : TyI Try.prog 40 ⟨1, 8, Go.Value.nilFunc⟩ := .mk' (by kernel_rfl)
instance : TyU Try.prog 41 (Go.TypeDesc.func #[31, 31] #[3] false) := ⟨Try.underlying41⟩
instance : TyI Try.prog 41 ⟨1, 8, Go.Value.nilFunc⟩ := .mk' (by kernel_rfl)
instance : TyU Try.prog 42 (Go.TypeDesc.func #[44] #[34] false) := ⟨Try.underlying42⟩
instance : TyI Try.prog 42 ⟨1, 8, Go.Value.nilFunc⟩ := .mk' (by kernel_rfl)
instance : TyU Try.prog 43 (Go.TypeDesc.func #[50] #[] false) := ⟨Try.underlying43⟩
instance : TyI Try.prog 43 ⟨1, 8, Go.Value.nilFunc⟩ := .mk' (by kernel_rfl)
instance : TyU Try.prog 44 (Go.TypeDesc.func #[50] #[] false) := ⟨Try.underlying44⟩
instance : TyI Try.prog 44 ⟨1, 8, Go.Value.nilFunc⟩ := .mk' (by kernel_rfl)
instance : TyU Try.prog 45 (Go.TypeDesc.func #[34] #[44] false) := ⟨Try.underlying45⟩
instance : TyI Try.prog 45 ⟨1, 8, Go.Value.nilFunc⟩ := .mk' (by kernel_rfl)
instance : TyU Try.prog 46 (Go.TypeDesc.func #[51] #[3] true) := ⟨Try.underlying46⟩
instance : TyI Try.prog 46 ⟨1, 8, Go.Value.nilFunc⟩ := .mk' (by kernel_rfl)
instance : TyU Try.prog 47 (Go.TypeDesc.func #[2, 2] #[3] false) := ⟨Try.underlying47⟩
instance : TyI Try.prog 47 ⟨1, 8, Go.Value.nilFunc⟩ := .mk' (by kernel_rfl)
instance : TyU Try.prog 48 (Go.TypeDesc.func #[3, 3] #[3] false) := ⟨Try.underlying48⟩
instance : TyI Try.prog 48 ⟨1, 8, Go.Value.nilFunc⟩ := .mk' (by kernel_rfl)
instance : TyU Try.prog 49 (Go.TypeDesc.func #[34] #[] false) := ⟨Try.underlying49⟩
instance : TyI Try.prog 49 ⟨1, 8, Go.Value.nilFunc⟩ := .mk' (by kernel_rfl)
instance : TyU Try.prog 50 (Go.TypeDesc.func #[2] #[4] false) := ⟨Try.underlying50⟩
instance : TyI Try.prog 50 ⟨1, 8, Go.Value.nilFunc⟩ := .mk' (by kernel_rfl)
instance : TyU Try.prog 51 (Go.TypeDesc.slice 3) := ⟨Try.underlying51⟩
instance : TyI Try.prog 51 ⟨1, 24, (Go.Value.slice none 0 0)⟩ := .mk' (by kernel_rfl)
instance : TyU Try.prog 52 (Go.TypeDesc.func #[3] #[4] false) := ⟨Try.underlying52⟩
instance : TyI Try.prog 52 ⟨1, 8, Go.Value.nilFunc⟩ := .mk' (by kernel_rfl)
instance : TyU Try.prog 53 (Go.TypeDesc.func #[34, 44] #[34] false) := ⟨Try.underlying53⟩
instance : TyI Try.prog 53 ⟨1, 8, Go.Value.nilFunc⟩ := .mk' (by kernel_rfl)
instance : TyU Try.prog 54 (Go.TypeDesc.func #[34, 3, 3, 3] #[] false) := ⟨Try.underlying54⟩
instance : TyI Try.prog 54 ⟨1, 8, Go.Value.nilFunc⟩ := .mk' (by kernel_rfl)
instance : TyU Try.prog 55 (Go.TypeDesc.func #[32] #[3] false) := ⟨Try.underlying55⟩
instance : TyI Try.prog 55 ⟨1, 8, Go.Value.nilFunc⟩ := .mk' (by kernel_rfl)
instance : TyU Try.prog 56 (Go.TypeDesc.func #[34, 3, 3] #[] false) := ⟨Try.underlying56⟩
instance : TyI Try.prog 56 ⟨1, 8, Go.Value.nilFunc⟩ := .mk' (by kernel_rfl)
instance : TyU Try.prog 57 (Go.TypeDesc.int Go.IntKind.i64) := ⟨Try.underlying57⟩
instance : TyI Try.prog 57 ⟨1, 8, (Go.Value.int Go.IntKind.i64 0)⟩ := .mk' (by kernel_rfl)
instance : TyU Try.prog 58 (Go.TypeDesc.tuple #[3, 57]) := ⟨Try.underlying58⟩
instance : TyI Try.prog 58 ⟨1, 0, (Go.Value.tuple #[(Go.Value.int Go.IntKind.i64 0), (Go.Value.int Go.IntKind.i64 0)])⟩ := .mk' (by kernel_rfl)
instance : TyU Try.prog 59 (Go.TypeDesc.func #[34, 3, 3] #[3, 57] false) := ⟨Try.underlying59⟩
instance : TyI Try.prog 59 ⟨1, 8, Go.Value.nilFunc⟩ := .mk' (by kernel_rfl)
instance : TyU Try.prog 60 (Go.TypeDesc.func #[34, 3, 3] #[4] false) := ⟨Try.underlying60⟩
instance : TyI Try.prog 60 ⟨1, 8, Go.Value.nilFunc⟩ := .mk' (by kernel_rfl)
instance : TyU Try.prog 61 (Go.TypeDesc.func #[2, 2] #[4] false) := ⟨Try.underlying61⟩
instance : TyI Try.prog 61 ⟨1, 8, Go.Value.nilFunc⟩ := .mk' (by kernel_rfl)
instance : TyU Try.prog 62 (Go.TypeDesc.func #[34, 3, 3, 3] #[3] false) := ⟨Try.underlying62⟩
instance : TyI Try.prog 62 ⟨1, 8, Go.Value.nilFunc⟩ := .mk' (by kernel_rfl)
instance : TyU Try.prog 63 (Go.TypeDesc.tuple #[3, 4]) := ⟨Try.underlying63⟩
instance : TyI Try.prog 63 ⟨1, 0, (Go.Value.tuple #[(Go.Value.int Go.IntKind.i64 0), (Go.Value.bool false)])⟩ := .mk' (by kernel_rfl)
instance : TyU Try.prog 64 (Go.TypeDesc.func #[34, 3, 3, 3] #[3, 4] false) := ⟨Try.underlying64⟩
instance : TyI Try.prog 64 ⟨1, 8, Go.Value.nilFunc⟩ := .mk' (by kernel_rfl)
instance : TyU Try.prog 65 (Go.TypeDesc.func #[66] #[3] false) := ⟨Try.underlying65⟩
instance : TyI Try.prog 65 ⟨1, 8, Go.Value.nilFunc⟩ := .mk' (by kernel_rfl)
instance : TyU Try.prog 66 (Go.TypeDesc.int Go.IntKind.u32) := ⟨Try.underlying66⟩
instance : TyI Try.prog 66 ⟨1, 4, (Go.Value.int Go.IntKind.u32 0)⟩ := .mk' (by kernel_rfl)
instance : TyU Try.prog 67 (Go.TypeDesc.func #[68] #[3] false) := ⟨Try.underlying67⟩
instance : TyI Try.prog 67 ⟨1, 8, Go.Value.nilFunc⟩ := .mk' (by kernel_rfl)
instance : TyU Try.prog 68 (Go.TypeDesc.int Go.IntKind.u64) := ⟨Try.underlying68⟩
instance : TyI Try.prog 68 ⟨1, 8, (Go.Value.int Go.IntKind.u64 0)⟩ := .mk' (by kernel_rfl)
instance : TyU Try.prog 69 (Go.TypeDesc.int Go.IntKind.u64) := ⟨Try.underlying69⟩
instance : TyI Try.prog 69 ⟨1, 8, (Go.Value.int Go.IntKind.u64 0)⟩ := .mk' (by kernel_rfl)
instance : TyU Try.prog 70 (Go.TypeDesc.func #[3] #[32] false) := ⟨Try.underlying70⟩
instance : TyI Try.prog 70 ⟨1, 8, Go.Value.nilFunc⟩ := .mk' (by kernel_rfl)
instance : TyU Try.prog 71 (Go.TypeDesc.func #[] #[68] false) := ⟨Try.underlying71⟩
instance : TyI Try.prog 71 ⟨1, 8, Go.Value.nilFunc⟩ := .mk' (by kernel_rfl)
instance : TyU Try.prog 72 (Go.TypeDesc.func #[34, 3, 73] #[3] false) := ⟨Try.underlying72⟩
instance : TyI Try.prog 72 ⟨1, 8, Go.Value.nilFunc⟩ := .mk' (by kernel_rfl)
instance : TyU Try.prog 73 (Go.TypeDesc.pointer 3) := ⟨Try.underlying73⟩
instance : TyI Try.prog 73 ⟨1, 8, (Go.Value.pointer none)⟩ := .mk' (by kernel_rfl)
instance : TyU Try.prog 74 (Go.TypeDesc.func #[34, 3, 3, 3, 73] #[3] false) := ⟨Try.underlying74⟩
instance : TyI Try.prog 74 ⟨1, 8, Go.Value.nilFunc⟩ := .mk' (by kernel_rfl)
instance : TyU Try.prog 75 (Go.TypeDesc.pointer 69) := ⟨Try.underlying75⟩
instance : TyI Try.prog 75 ⟨1, 8, (Go.Value.pointer none)⟩ := .mk' (by kernel_rfl)
instance : TyU Try.prog 76 (Go.TypeDesc.tuple #[3, 3]) := ⟨Try.underlying76⟩
instance : TyI Try.prog 76 ⟨1, 0, (Go.Value.tuple #[(Go.Value.int Go.IntKind.i64 0), (Go.Value.int Go.IntKind.i64 0)])⟩ := .mk' (by kernel_rfl)
instance : TyU Try.prog 77 (Go.TypeDesc.func #[34, 3, 3, 73] #[3, 3] false) := ⟨Try.underlying77⟩
instance : TyI Try.prog 77 ⟨1, 8, Go.Value.nilFunc⟩ := .mk' (by kernel_rfl)
instance : TyU Try.prog 78 (Go.TypeDesc.func #[] #[9] false) := ⟨Try.underlying78⟩
instance : TyI Try.prog 78 ⟨1, 8, Go.Value.nilFunc⟩ := .mk' (by kernel_rfl)
instance : TyU Try.prog 79 (Go.TypeDesc.struct #[{ name := "_interface", type := 17, offset := 0, embedded := false, tag := "", pkgPath := "runtime", byteOffset := 0 }, { name := "concrete", type := 17, offset := 1, embedded := false, tag := "", pkgPath := "runtime", byteOffset := 8 }, { name := "asserted", type := 17, offset := 2, embedded := false, tag := "", pkgPath := "runtime", byteOffset := 16 }, { name := "missingMethod", type := 9, offset := 3, embedded := false, tag := "", pkgPath := "runtime", byteOffset := 24 }]) := ⟨Try.underlying79⟩
instance : TyP Try.prog 79 [(0, 1), (1, 1), (2, 1), (3, 1)] := ⟨_, Try.underlying79, fun w => by kernel_rfl⟩
instance : TyF Try.prog 79 0 0 := ⟨_, _, _, Try.underlying79, rfl, rfl, Try.sizeOf17⟩
instance : TyF Try.prog 79 1 1 := ⟨_, _, _, Try.underlying79, rfl, rfl, Try.sizeOf17⟩
instance : TyF Try.prog 79 2 2 := ⟨_, _, _, Try.underlying79, rfl, rfl, Try.sizeOf17⟩
instance : TyF Try.prog 79 3 3 := ⟨_, _, _, Try.underlying79, rfl, rfl, Try.sizeOf9⟩
instance : TyI Try.prog 79 ⟨4, 40, (Go.Value.agg #[(Go.Value.pointer none), (Go.Value.pointer none), (Go.Value.pointer none), (Go.Value.string { data := #[] })])⟩ := .mk' (by kernel_rfl)
instance : TyU Try.prog 80 (Go.TypeDesc.struct #[{ name := "_interface", type := 17, offset := 0, embedded := false, tag := "", pkgPath := "runtime", byteOffset := 0 }, { name := "concrete", type := 17, offset := 1, embedded := false, tag := "", pkgPath := "runtime", byteOffset := 8 }, { name := "asserted", type := 17, offset := 2, embedded := false, tag := "", pkgPath := "runtime", byteOffset := 16 }, { name := "missingMethod", type := 9, offset := 3, embedded := false, tag := "", pkgPath := "runtime", byteOffset := 24 }]) := ⟨Try.underlying80⟩
instance : TyP Try.prog 80 [(0, 1), (1, 1), (2, 1), (3, 1)] := ⟨_, Try.underlying80, fun w => by kernel_rfl⟩
instance : TyF Try.prog 80 0 0 := ⟨_, _, _, Try.underlying80, rfl, rfl, Try.sizeOf17⟩
instance : TyF Try.prog 80 1 1 := ⟨_, _, _, Try.underlying80, rfl, rfl, Try.sizeOf17⟩
instance : TyF Try.prog 80 2 2 := ⟨_, _, _, Try.underlying80, rfl, rfl, Try.sizeOf17⟩
instance : TyF Try.prog 80 3 3 := ⟨_, _, _, Try.underlying80, rfl, rfl, Try.sizeOf9⟩
instance : TyI Try.prog 80 ⟨4, 40, (Go.Value.agg #[(Go.Value.pointer none), (Go.Value.pointer none), (Go.Value.pointer none), (Go.Value.string { data := #[] })])⟩ := .mk' (by kernel_rfl)
instance : TyU Try.prog 81 (Go.TypeDesc.array 0 16) := ⟨Try.underlying81⟩
instance : TyI Try.prog 81 ⟨0, 0, (Go.Value.agg #[])⟩ := .mk' (by kernel_rfl)
instance : TyU Try.prog 82 (Go.TypeDesc.struct #[{ name := "_", type := 81, offset := 0, embedded := false, tag := "", pkgPath := "runtime", byteOffset := 0 }]) := ⟨Try.underlying82⟩
instance : TyP Try.prog 82 [(0, 0)] := ⟨_, Try.underlying82, fun w => by kernel_rfl⟩
instance : TyI Try.prog 82 ⟨0, 0, (Go.Value.agg #[])⟩ := .mk' (by kernel_rfl)
instance : TyU Try.prog 83 (Go.TypeDesc.struct #[{ name := "_", type := 81, offset := 0, embedded := false, tag := "", pkgPath := "runtime", byteOffset := 0 }]) := ⟨Try.underlying83⟩
instance : TyP Try.prog 83 [(0, 0)] := ⟨_, Try.underlying83, fun w => by kernel_rfl⟩
instance : TyI Try.prog 83 ⟨0, 0, (Go.Value.agg #[])⟩ := .mk' (by kernel_rfl)
instance : TyU Try.prog 84 (Go.TypeDesc.func #[] #[3] false) := ⟨Try.underlying84⟩
instance : TyI Try.prog 84 ⟨1, 8, Go.Value.nilFunc⟩ := .mk' (by kernel_rfl)
instance : TyU Try.prog 85 (Go.TypeDesc.int Go.IntKind.u8) := ⟨Try.underlying85⟩
instance : TyI Try.prog 85 ⟨1, 1, (Go.Value.int Go.IntKind.u8 0)⟩ := .mk' (by kernel_rfl)
instance : TyU Try.prog 86 (Go.TypeDesc.int Go.IntKind.u8) := ⟨Try.underlying86⟩
instance : TyI Try.prog 86 ⟨1, 1, (Go.Value.int Go.IntKind.u8 0)⟩ := .mk' (by kernel_rfl)
instance : TyU Try.prog 87 (Go.TypeDesc.func #[93, 93] #[4] false) := ⟨Try.underlying87⟩
instance : TyI Try.prog 87 ⟨1, 8, Go.Value.nilFunc⟩ := .mk' (by kernel_rfl)
instance : TyU Try.prog 88 (Go.TypeDesc.pointer 5) := ⟨Try.underlying88⟩
instance : TyI Try.prog 88 ⟨1, 8, (Go.Value.pointer none)⟩ := .mk' (by kernel_rfl)
instance : TyU Try.prog 89 (Go.TypeDesc.int Go.IntKind.i32) := ⟨Try.underlying89⟩
instance : TyI Try.prog 89 ⟨1, 4, (Go.Value.int Go.IntKind.i32 0)⟩ := .mk' (by kernel_rfl)
instance : TyU Try.prog 90 (Go.TypeDesc.int Go.IntKind.i32) := ⟨Try.underlying90⟩
instance : TyI Try.prog 90 ⟨1, 4, (Go.Value.int Go.IntKind.i32 0)⟩ := .mk' (by kernel_rfl)
instance : TyU Try.prog 91 (Go.TypeDesc.struct #[{ name := "Size_", type := 12, offset := 0, embedded := false, tag := "", pkgPath := "", byteOffset := 0 }, { name := "PtrBytes", type := 12, offset := 1, embedded := false, tag := "", pkgPath := "", byteOffset := 8 }, { name := "Hash", type := 66, offset := 2, embedded := false, tag := "", pkgPath := "", byteOffset := 16 }, { name := "TFlag", type := 85, offset := 3, embedded := false, tag := "", pkgPath := "", byteOffset := 20 }, { name := "Align_", type := 5, offset := 4, embedded := false, tag := "", pkgPath := "", byteOffset := 21 }, { name := "FieldAlign_", type := 5, offset := 5, embedded := false, tag := "", pkgPath := "", byteOffset := 22 }, { name := "Kind_", type := 86, offset := 6, embedded := false, tag := "", pkgPath := "", byteOffset := 23 }, { name := "Equal", type := 87, offset := 7, embedded := false, tag := "", pkgPath := "", byteOffset := 24 }, { name := "GCData", type := 88, offset := 8, embedded := false, tag := "", pkgPath := "", byteOffset := 32 }, { name := "Str", type := 89, offset := 9, embedded := false, tag := "", pkgPath := "", byteOffset := 40 }, { name := "PtrToThis", type := 90, offset := 10, embedded := false, tag := "", pkgPath := "", byteOffset := 44 }]) := ⟨Try.underlying91⟩
instance : TyP Try.prog 91 [(0, 1), (1, 1), (2, 1), (3, 1), (4, 1), (5, 1), (6, 1), (7, 1), (8, 1), (9, 1), (10, 1)] := ⟨_, Try.underlying91, fun w => by kernel_rfl⟩
instance : TyF Try.prog 91 0 0 := ⟨_, _, _, Try.underlying91, rfl, rfl, Try.sizeOf12⟩
instance : TyF Try.prog 91 1 1 := ⟨_, _, _, Try.underlying91, rfl, rfl, Try.sizeOf12⟩
instance : TyF Try.prog 91 2 2 := ⟨_, _, _, Try.underlying91, rfl, rfl, Try.sizeOf66⟩
instance : TyF Try.prog 91 3 3 := ⟨_, _, _, Try.underlying91, rfl, rfl, Try.sizeOf85⟩
instance : TyF Try.prog 91 4 4 := ⟨_, _, _, Try.underlying91, rfl, rfl, Try.sizeOf5⟩
instance : TyF Try.prog 91 5 5 := ⟨_, _, _, Try.underlying91, rfl, rfl, Try.sizeOf5⟩
instance : TyF Try.prog 91 6 6 := ⟨_, _, _, Try.underlying91, rfl, rfl, Try.sizeOf86⟩
instance : TyF Try.prog 91 7 7 := ⟨_, _, _, Try.underlying91, rfl, rfl, Try.sizeOf87⟩
instance : TyF Try.prog 91 8 8 := ⟨_, _, _, Try.underlying91, rfl, rfl, Try.sizeOf88⟩
instance : TyF Try.prog 91 9 9 := ⟨_, _, _, Try.underlying91, rfl, rfl, Try.sizeOf89⟩
instance : TyF Try.prog 91 10 10 := ⟨_, _, _, Try.underlying91, rfl, rfl, Try.sizeOf90⟩
instance : TyI Try.prog 91 ⟨11, 48, (Go.Value.agg #[(Go.Value.int Go.IntKind.u64 0), (Go.Value.int Go.IntKind.u64 0), (Go.Value.int Go.IntKind.u32 0), (Go.Value.int Go.IntKind.u8 0), (Go.Value.int Go.IntKind.u8 0), (Go.Value.int Go.IntKind.u8 0), (Go.Value.int Go.IntKind.u8 0), Go.Value.nilFunc, (Go.Value.pointer none), (Go.Value.int Go.IntKind.i32 0), (Go.Value.int Go.IntKind.i32 0)])⟩ := .mk' (by kernel_rfl)
instance : TyU Try.prog 92 (Go.TypeDesc.struct #[{ name := "Size_", type := 12, offset := 0, embedded := false, tag := "", pkgPath := "", byteOffset := 0 }, { name := "PtrBytes", type := 12, offset := 1, embedded := false, tag := "", pkgPath := "", byteOffset := 8 }, { name := "Hash", type := 66, offset := 2, embedded := false, tag := "", pkgPath := "", byteOffset := 16 }, { name := "TFlag", type := 85, offset := 3, embedded := false, tag := "", pkgPath := "", byteOffset := 20 }, { name := "Align_", type := 5, offset := 4, embedded := false, tag := "", pkgPath := "", byteOffset := 21 }, { name := "FieldAlign_", type := 5, offset := 5, embedded := false, tag := "", pkgPath := "", byteOffset := 22 }, { name := "Kind_", type := 86, offset := 6, embedded := false, tag := "", pkgPath := "", byteOffset := 23 }, { name := "Equal", type := 87, offset := 7, embedded := false, tag := "", pkgPath := "", byteOffset := 24 }, { name := "GCData", type := 88, offset := 8, embedded := false, tag := "", pkgPath := "", byteOffset := 32 }, { name := "Str", type := 89, offset := 9, embedded := false, tag := "", pkgPath := "", byteOffset := 40 }, { name := "PtrToThis", type := 90, offset := 10, embedded := false, tag := "", pkgPath := "", byteOffset := 44 }]) := ⟨Try.underlying92⟩
instance : TyP Try.prog 92 [(0, 1), (1, 1), (2, 1), (3, 1), (4, 1), (5, 1), (6, 1), (7, 1), (8, 1), (9, 1), (10, 1)] := ⟨_, Try.underlying92, fun w => by kernel_rfl⟩
instance : TyF Try.prog 92 0 0 := ⟨_, _, _, Try.underlying92, rfl, rfl, Try.sizeOf12⟩
instance : TyF Try.prog 92 1 1 := ⟨_, _, _, Try.underlying92, rfl, rfl, Try.sizeOf12⟩
instance : TyF Try.prog 92 2 2 := ⟨_, _, _, Try.underlying92, rfl, rfl, Try.sizeOf66⟩
instance : TyF Try.prog 92 3 3 := ⟨_, _, _, Try.underlying92, rfl, rfl, Try.sizeOf85⟩
instance : TyF Try.prog 92 4 4 := ⟨_, _, _, Try.underlying92, rfl, rfl, Try.sizeOf5⟩
instance : TyF Try.prog 92 5 5 := ⟨_, _, _, Try.underlying92, rfl, rfl, Try.sizeOf5⟩
instance : TyF Try.prog 92 6 6 := ⟨_, _, _, Try.underlying92, rfl, rfl, Try.sizeOf86⟩
instance : TyF Try.prog 92 7 7 := ⟨_, _, _, Try.underlying92, rfl, rfl, Try.sizeOf87⟩
instance : TyF Try.prog 92 8 8 := ⟨_, _, _, Try.underlying92, rfl, rfl, Try.sizeOf88⟩
instance : TyF Try.prog 92 9 9 := ⟨_, _, _, Try.underlying92, rfl, rfl, Try.sizeOf89⟩
instance : TyF Try.prog 92 10 10 := ⟨_, _, _, Try.underlying92, rfl, rfl, Try.sizeOf90⟩
instance : TyI Try.prog 92 ⟨11, 48, (Go.Value.agg #[(Go.Value.int Go.IntKind.u64 0), (Go.Value.int Go.IntKind.u64 0), (Go.Value.int Go.IntKind.u32 0), (Go.Value.int Go.IntKind.u8 0), (Go.Value.int Go.IntKind.u8 0), (Go.Value.int Go.IntKind.u8 0), (Go.Value.int Go.IntKind.u8 0), Go.Value.nilFunc, (Go.Value.pointer none), (Go.Value.int Go.IntKind.i32 0), (Go.Value.int Go.IntKind.i32 0)])⟩ := .mk' (by kernel_rfl)
instance : TyU Try.prog 93 Go.TypeDesc.unsafePointer := ⟨Try.underlying93⟩
instance : TyI Try.prog 93 ⟨1, 8, (Go.Value.pointer none)⟩ := .mk' (by kernel_rfl)
instance : CallOk Try.prog 2 := ⟨Try.call2⟩
instance : CallOk Try.prog 3 := ⟨Try.call3⟩
instance : CallOk Try.prog 4 := ⟨Try.call4⟩
instance : CallOk Try.prog 5 := ⟨Try.call5⟩
instance : CallOk Try.prog 6 := ⟨Try.call6⟩
instance : CallOk Try.prog 7 := ⟨Try.call7⟩
instance : CallOk Try.prog 8 := ⟨Try.call8⟩
instance : CallOk Try.prog 9 := ⟨Try.call9⟩
instance : CallOk Try.prog 10 := ⟨Try.call10⟩
instance : CallOk Try.prog 11 := ⟨Try.call11⟩
instance : CallOk Try.prog 12 := ⟨Try.call12⟩
instance : CallOk Try.prog 13 := ⟨Try.call13⟩
instance : CallOk Try.prog 14 := ⟨Try.call14⟩
instance : CallOk Try.prog 15 := ⟨Try.call15⟩
instance : CallOk Try.prog 16 := ⟨Try.call16⟩
instance : CallOk Try.prog 17 := ⟨Try.call17⟩
instance : CallOk Try.prog 18 := ⟨Try.call18⟩
instance : CallOk Try.prog 19 := ⟨Try.call19⟩
instance : CallOk Try.prog 20 := ⟨Try.call20⟩
instance : CallOk Try.prog 21 := ⟨Try.call21⟩
instance : CallOk Try.prog 22 := ⟨Try.call22⟩
instance : CallOk Try.prog 23 := ⟨Try.call23⟩
instance : CallOk Try.prog 24 := ⟨Try.call24⟩
instance : CallOk Try.prog 25 := ⟨Try.call25⟩
instance : CallOk Try.prog 26 := ⟨Try.call26⟩
instance : CallOk Try.prog 27 := ⟨Try.call27⟩
instance : CallOk Try.prog 28 := ⟨Try.call28⟩
instance : CallOk Try.prog 29 := ⟨Try.call29⟩
instance : CallOk Try.prog 30 := ⟨Try.call30⟩
instance : CallOk Try.prog 31 := ⟨Try.call31⟩
instance : CallOk Try.prog 32 := ⟨Try.call32⟩
instance : CallOk Try.prog 33 := ⟨Try.call33⟩
instance : CallOk Try.prog 34 := ⟨Try.call34⟩
instance : CallOk Try.prog 35 := ⟨Try.call35⟩
instance : CallOk Try.prog 36 := ⟨Try.call36⟩
instance : CallOk Try.prog 37 := ⟨Try.call37⟩
instance : CallOk Try.prog 38 := ⟨Try.call38⟩
instance : CallOk Try.prog 39 := ⟨Try.call39⟩
instance : CallOk Try.prog 40 := ⟨Try.call40⟩
instance : CallOk Try.prog 41 := ⟨Try.call41⟩
instance : CallOk Try.prog 42 := ⟨Try.call42⟩
instance : CallOk Try.prog 43 := ⟨Try.call43⟩
instance : CallOk Try.prog 44 := ⟨Try.call44⟩
instance : CallOk Try.prog 45 := ⟨Try.call45⟩
instance : CallOk Try.prog 46 := ⟨Try.call46⟩
instance : CallOk Try.prog 47 := ⟨Try.call47⟩
instance : CallOk Try.prog 48 := ⟨Try.call48⟩
instance : CallOk Try.prog 49 := ⟨Try.call49⟩
instance : CallOk Try.prog 50 := ⟨Try.call50⟩
instance : CallOk Try.prog 51 := ⟨Try.call51⟩
instance : CallOk Try.prog 52 := ⟨Try.call52⟩
instance : CallOk Try.prog 53 := ⟨Try.call53⟩
end VK
