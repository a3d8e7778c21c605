/- What the proof rests on, part 2 of 6: the walker's lemmas, the walks of the functions and the plain laws. Conditions: none. -/
import Derived.Test.YtafofdcccmidmaaM1
import Derived.Test.YtafofdcccmidmaaProg
import Derived.KernelRfl
import Derived.Below
import Derived.Carry
import Derived.ChangeArms
import Derived.OpenShut
import Derived.Test.YtafofdcccmidmaaRows
import Derived.WalkKit
import Derived.ProofKit
import Derived.JoinedCond
import Derived.Lib.Bytealg
namespace VK
open Go Go.Proofs
instance : Mixed Try.prog := ⟨by kernel_rfl⟩
instance : TyU Try.prog 0 (Go.TypeDesc.tuple #[]) := ⟨Try.underlying0⟩
instance : TyI Try.prog 0 ⟨1, 0, (Go.Value.tuple #[])⟩ := .mk' (by kernel_rfl)
instance : TyU Try.prog 1 (Go.TypeDesc.func #[] #[] false) := ⟨Try.underlying1⟩
instance : TyI Try.prog 1 ⟨1, 8, Go.Value.nilFunc⟩ := .mk' (by kernel_rfl)
instance : TyU Try.prog 2 (Go.TypeDesc.int Go.IntKind.i64) := ⟨Try.underlying2⟩
instance : TyI Try.prog 2 ⟨1, 8, (Go.Value.int Go.IntKind.i64 0)⟩ := .mk' (by kernel_rfl)
instance : TyU Try.prog 3 (Go.TypeDesc.int Go.IntKind.i64) := ⟨Try.underlying3⟩
instance : TyI Try.prog 3 ⟨1, 8, (Go.Value.int Go.IntKind.i64 0)⟩ := .mk' (by kernel_rfl)
instance : TyU Try.prog 4 Go.TypeDesc.bool := ⟨Try.underlying4⟩
instance : TyI Try.prog 4 ⟨1, 1, (Go.Value.bool false)⟩ := .mk' (by kernel_rfl)
instance : TyU Try.prog 5 (Go.TypeDesc.int Go.IntKind.u8) := ⟨Try.underlying5⟩
instance : TyI Try.prog 5 ⟨1, 1, (Go.Value.int Go.IntKind.u8 0)⟩ := .mk' (by kernel_rfl)
instance : TyU Try.prog 6 (Go.TypeDesc.int Go.IntKind.u8) := ⟨Try.underlying6⟩
instance : TyI Try.prog 6 ⟨1, 1, (Go.Value.int Go.IntKind.u8 0)⟩ := .mk' (by kernel_rfl)
instance : TyU Try.prog 7 (Go.TypeDesc.struct #[{ name := "x", type := 2, offset := 0, embedded := false, tag := "", pkgPath := "runtime", byteOffset := 0 }, { name := "y", type := 3, offset := 1, embedded := false, tag := "", pkgPath := "runtime", byteOffset := 8 }, { name := "signed", type := 4, offset := 2, embedded := false, tag := "", pkgPath := "runtime", byteOffset := 16 }, { name := "code", type := 6, offset := 3, embedded := false, tag := "", pkgPath := "runtime", byteOffset := 17 }]) := ⟨Try.underlying7⟩
instance : TyP Try.prog 7 [(0, 1), (1, 1), (2, 1), (3, 1)] := ⟨_, Try.underlying7, fun w => by kernel_rfl⟩
instance : TyF Try.prog 7 0 0 := ⟨_, _, _, Try.underlying7, rfl, rfl, Try.sizeOf2⟩
instance : TyF Try.prog 7 1 1 := ⟨_, _, _, Try.underlying7, rfl, rfl, Try.sizeOf3⟩
instance : TyF Try.prog 7 2 2 := ⟨_, _, _, Try.underlying7, rfl, rfl, Try.sizeOf4⟩
instance : TyF Try.prog 7 3 3 := ⟨_, _, _, Try.underlying7, rfl, rfl, Try.sizeOf6⟩
instance : TyI Try.prog 7 ⟨4, 24, (Go.Value.agg #[(Go.Value.int Go.IntKind.i64 0), (Go.Value.int Go.IntKind.i64 0), (Go.Value.bool false), (Go.Value.int Go.IntKind.u8 0)])⟩ := .mk' (by kernel_rfl)
instance : TyU Try.prog 8 (Go.TypeDesc.struct #[{ name := "x", type := 2, offset := 0, embedded := false, tag := "", pkgPath := "runtime", byteOffset := 0 }, { name := "y", type := 3, offset := 1, embedded := false, tag := "", pkgPath := "runtime", byteOffset := 8 }, { name := "signed", type := 4, offset := 2, embedded := false, tag := "", pkgPath := "runtime", byteOffset := 16 }, { name := "code", type := 6, offset := 3, embedded := false, tag := "", pkgPath := "runtime", byteOffset := 17 }]) := ⟨Try.underlying8⟩
instance : TyP Try.prog 8 [(0, 1), (1, 1), (2, 1), (3, 1)] := ⟨_, Try.underlying8, fun w => by kernel_rfl⟩
instance : TyF Try.prog 8 0 0 := ⟨_, _, _, Try.underlying8, rfl, rfl, Try.sizeOf2⟩
instance : TyF Try.prog 8 1 1 := ⟨_, _, _, Try.underlying8, rfl, rfl, Try.sizeOf3⟩
instance : TyF Try.prog 8 2 2 := ⟨_, _, _, Try.underlying8, rfl, rfl, Try.sizeOf4⟩
instance : TyF Try.prog 8 3 3 := ⟨_, _, _, Try.underlying8, rfl, rfl, Try.sizeOf6⟩
instance : TyI Try.prog 8 ⟨4, 24, (Go.Value.agg #[(Go.Value.int Go.IntKind.i64 0), (Go.Value.int Go.IntKind.i64 0), (Go.Value.bool false), (Go.Value.int Go.IntKind.u8 0)])⟩ := .mk' (by kernel_rfl)
instance : TyU Try.prog 9 Go.TypeDesc.string := ⟨Try.underlying9⟩
instance : TyI Try.prog 9 ⟨1, 16, (Go.Value.string { data := #[] })⟩ := .mk' (by kernel_rfl)
instance : TyU Try.prog 10 Go.TypeDesc.string := ⟨Try.underlying10⟩
instance : TyI Try.prog 10 ⟨1, 16, (Go.Value.string { data := #[] })⟩ := .mk' (by kernel_rfl)
instance : TyU Try.prog 11 Go.TypeDesc.string := ⟨Try.underlying11⟩
instance : TyI Try.prog 11 ⟨1, 16, (Go.Value.string { data := #[] })⟩ := .mk' (by kernel_rfl)
instance : TyU Try.prog 12 (Go.TypeDesc.int Go.IntKind.u64) := ⟨Try.underlying12⟩
instance : TyI Try.prog 12 ⟨1, 8, (Go.Value.int Go.IntKind.u64 0)⟩ := .mk' (by kernel_rfl)
instance : TyU Try.prog 13 (Go.TypeDesc.struct #[{ name := "msg", type := 9, offset := 0, embedded := false, tag := "", pkgPath := "runtime", byteOffset := 0 }, { name := "addr", type := 12, offset := 1, embedded := false, tag := "", pkgPath := "runtime", byteOffset := 16 }]) := ⟨Try.underlying13⟩
instance : TyP Try.prog 13 [(0, 1), (1, 1)] := ⟨_, Try.underlying13, fun w => by kernel_rfl⟩
instance : TyF Try.prog 13 0 0 := ⟨_, _, _, Try.underlying13, rfl, rfl, Try.sizeOf9⟩
instance : TyF Try.prog 13 1 1 := ⟨_, _, _, Try.underlying13, rfl, rfl, Try.sizeOf12⟩
instance : TyI Try.prog 13 ⟨2, 24, (Go.Value.agg #[(Go.Value.string { data := #[] }), (Go.Value.int Go.IntKind.u64 0)])⟩ := .mk' (by kernel_rfl)
instance : TyU Try.prog 14 (Go.TypeDesc.struct #[{ name := "msg", type := 9, offset := 0, embedded := false, tag := "", pkgPath := "runtime", byteOffset := 0 }, { name := "addr", type := 12, offset := 1, embedded := false, tag := "", pkgPath := "runtime", byteOffset := 16 }]) := ⟨Try.underlying14⟩
instance : TyP Try.prog 14 [(0, 1), (1, 1)] := ⟨_, Try.underlying14, fun w => by kernel_rfl⟩
instance : TyF Try.prog 14 0 0 := ⟨_, _, _, Try.underlying14, rfl, rfl, Try.sizeOf9⟩
instance : TyF Try.prog 14 1 1 := ⟨_, _, _, Try.underlying14, rfl, rfl, Try.sizeOf12⟩
instance : TyI Try.prog 14 ⟨2, 24, (Go.Value.agg #[(Go.Value.string { data := #[] }), (Go.Value.int Go.IntKind.u64 0)])⟩ := .mk' (by kernel_rfl)
instance : TyU Try.prog 15 (Go.TypeDesc.pointer 160) := ⟨Try.underlying15⟩
instance : TyI Try.prog 15 ⟨1, 8, (Go.Value.pointer none)⟩ := .mk' (by kernel_rfl)
instance : TyU Try.prog 16 (Go.TypeDesc.pointer 163) := ⟨Try.underlying16⟩
instance : TyI Try.prog 16 ⟨1, 8, (Go.Value.pointer none)⟩ := .mk' (by kernel_rfl)
instance : TyU Try.prog 17 (Go.TypeDesc.pointer 171) := ⟨Try.underlying17⟩
instance : TyI Try.prog 17 ⟨1, 8, (Go.Value.pointer none)⟩ := .mk' (by kernel_rfl)
instance : TyU Try.prog 18 (Go.TypeDesc.struct #[{ name := "typ", type := 17, offset := 0, embedded := false, tag := "", pkgPath := "internal/runtime/maps", byteOffset := 0 }]) := ⟨Try.underlying18⟩
instance : TyP Try.prog 18 [(0, 1)] := ⟨_, Try.underlying18, fun w => by kernel_rfl⟩
instance : TyF Try.prog 18 0 0 := ⟨_, _, _, Try.underlying18, rfl, rfl, Try.sizeOf17⟩
instance : TyI Try.prog 18 ⟨1, 8, (Go.Value.agg #[(Go.Value.pointer none)])⟩ := .mk' (by kernel_rfl)
instance : TyU Try.prog 19 (Go.TypeDesc.struct #[{ name := "typ", type := 17, offset := 0, embedded := false, tag := "", pkgPath := "internal/runtime/maps", byteOffset := 0 }]) := ⟨Try.underlying19⟩
instance : TyP Try.prog 19 [(0, 1)] := ⟨_, Try.underlying19, fun w => by kernel_rfl⟩
instance : TyF Try.prog 19 0 0 := ⟨_, _, _, Try.underlying19, rfl, rfl, Try.sizeOf17⟩
instance : TyI Try.prog 19 ⟨1, 8, (Go.Value.agg #[(Go.Value.pointer none)])⟩ := .mk' (by kernel_rfl)
instance : TyU Try.prog 20 (Go.TypeDesc.interface #[]) := ⟨Try.underlying20⟩
instance : TyI Try.prog 20 ⟨1, 16, Go.Value.nilIface⟩ := .mk' (by kernel_rfl)
instance : TyU Try.prog 21 (Go.TypeDesc.int Go.IntKind.i32) := ⟨Try.underlying21⟩
instance : TyI Try.prog 21 ⟨1, 4, (Go.Value.int Go.IntKind.i32 0)⟩ := .mk' (by kernel_rfl)
instance : TyU Try.prog 22 (Go.TypeDesc.slice 37) := ⟨Try.underlying22⟩
instance : TyI Try.prog 22 ⟨1, 24, (Go.Value.slice none 0 0)⟩ := .mk' (by kernel_rfl)
instance : TyU Try.prog 23 (Go.TypeDesc.func #[] #[4] false) := ⟨Try.underlying23⟩
instance : TyI Try.prog 23 ⟨1, 8, Go.Value.nilFunc⟩ := .mk' (by kernel_rfl)
instance : TyU Try.prog 24 (Go.TypeDesc.func #[22] #[4] false) := ⟨Try.underlying24⟩
instance : TyI Try.prog 24 ⟨1, 8, Go.Value.nilFunc⟩ := .mk' (by kernel_rfl)
instance : TyU Try.prog 25 (Go.TypeDesc.pointer 74) := ⟨Try.underlying25⟩
instance : TyI Try.prog 25 ⟨1, 8, (Go.Value.pointer none)⟩ := .mk' (by kernel_rfl)
instance : TyU Try.prog 26 (Go.TypeDesc.slice 50) := ⟨Try.underlying26⟩
instance : TyI Try.prog 26 ⟨1, 24, (Go.Value.slice none 0 0)⟩ := .mk' (by kernel_rfl)
instance : TyU Try.prog 27 (Go.TypeDesc.struct #[{ name := "View", type := 2, offset := 0, embedded := false, tag := "", pkgPath := "", byteOffset := 0 }, { name := "Normal", type := 2, offset := 1, embedded := false, tag := "", pkgPath := "", byteOffset := 8 }, { name := "Base", type := 2, offset := 2, embedded := false, tag := "", pkgPath := "", byteOffset := 16 }, { name := "State", type := 9, offset := 3, embedded := false, tag := "", pkgPath := "", byteOffset := 24 }, { name := "Entries", type := 26, offset := 4, embedded := false, tag := "", pkgPath := "", byteOffset := 40 }]) := ⟨Try.underlying27⟩
instance : TyP Try.prog 27 [(0, 1), (1, 1), (2, 1), (3, 1), (4, 1)] := ⟨_, Try.underlying27, fun w => by kernel_rfl⟩
instance : TyF Try.prog 27 0 0 := ⟨_, _, _, Try.underlying27, rfl, rfl, Try.sizeOf2⟩
instance : TyF Try.prog 27 1 1 := ⟨_, _, _, Try.underlying27, rfl, rfl, Try.sizeOf2⟩
instance : TyF Try.prog 27 2 2 := ⟨_, _, _, Try.underlying27, rfl, rfl, Try.sizeOf2⟩
instance : TyF Try.prog 27 3 3 := ⟨_, _, _, Try.underlying27, rfl, rfl, Try.sizeOf9⟩
instance : TyF Try.prog 27 4 4 := ⟨_, _, _, Try.underlying27, rfl, rfl, Try.sizeOf26⟩
instance : TyI Try.prog 27 ⟨5, 64, (Go.Value.agg #[(Go.Value.int Go.IntKind.i64 0), (Go.Value.int Go.IntKind.i64 0), (Go.Value.int Go.IntKind.i64 0), (Go.Value.string { data := #[] }), (Go.Value.slice none 0 0)])⟩ := .mk' (by kernel_rfl)
instance : TyU Try.prog 28 (Go.TypeDesc.struct #[{ name := "View", type := 2, offset := 0, embedded := false, tag := "", pkgPath := "", byteOffset := 0 }, { name := "Normal", type := 2, offset := 1, embedded := false, tag := "", pkgPath := "", byteOffset := 8 }, { name := "Base", type := 2, offset := 2, embedded := false, tag := "", pkgPath := "", byteOffset := 16 }, { name := "State", type := 9, offset := 3, embedded := false, tag := "", pkgPath := "", byteOffset := 24 }, { name := "Entries", type := 26, offset := 4, embedded := false, tag := "", pkgPath := "", byteOffset := 40 }]) := ⟨Try.underlying28⟩
instance : TyP Try.prog 28 [(0, 1), (1, 1), (2, 1), (3, 1), (4, 1)] := ⟨_, Try.underlying28, fun w => by kernel_rfl⟩
instance : TyF Try.prog 28 0 0 := ⟨_, _, _, Try.underlying28, rfl, rfl, Try.sizeOf2⟩
instance : TyF Try.prog 28 1 1 := ⟨_, _, _, Try.underlying28, rfl, rfl, Try.sizeOf2⟩
instance : TyF Try.prog 28 2 2 := ⟨_, _, _, Try.underlying28, rfl, rfl, Try.sizeOf2⟩
instance : TyF Try.prog 28 3 3 := ⟨_, _, _, Try.underlying28, rfl, rfl, Try.sizeOf9⟩
instance : TyF Try.prog 28 4 4 := ⟨_, _, _, Try.underlying28, rfl, rfl, Try.sizeOf26⟩
instance : TyI Try.prog 28 ⟨5, 64, (Go.Value.agg #[(Go.Value.int Go.IntKind.i64 0), (Go.Value.int Go.IntKind.i64 0), (Go.Value.int Go.IntKind.i64 0), (Go.Value.string { data := #[] }), (Go.Value.slice none 0 0)])⟩ := .mk' (by kernel_rfl)
instance : TyU Try.prog 29 (Go.TypeDesc.int Go.IntKind.i64) := ⟨Try.underlying29⟩
instance : TyI Try.prog 29 ⟨1, 8, (Go.Value.int Go.IntKind.i64 0)⟩ := .mk' (by kernel_rfl)
instance : TyU Try.prog 30 (Go.TypeDesc.tuple #[25, 28, 29]) := ⟨Try.underlying30⟩
instance : TyI Try.prog 30 ⟨1, 0, (Go.Value.tuple #[(Go.Value.pointer none), (Go.Value.agg #[(Go.Value.int Go.IntKind.i64 0), (Go.Value.int Go.IntKind.i64 0), (Go.Value.int Go.IntKind.i64 0), (Go.Value.string { data := #[] }), (Go.Value.slice none 0 0)]), (Go.Value.int Go.IntKind.i64 0)])⟩ := .mk' (by kernel_rfl)
instance : TyU Try.prog 31 (Go.TypeDesc.func #[32] #[25, 28, 29] false) := ⟨Try.underlying31⟩
instance : TyI Try.prog 31 ⟨1, 8, Go.Value.nilFunc⟩ := .mk' (by kernel_rfl)
instance : TyU Try.prog 32 (Go.TypeDesc.pointer 85) := ⟨Try.underlying32⟩
instance : TyI Try.prog 32 ⟨1, 8, (Go.Value.pointer none)⟩ := .mk' (by kernel_rfl)
instance : TyU Try.prog 33 (Go.TypeDesc.func #[] #[32] false) := ⟨Try.underlying33⟩
instance : TyI Try.prog 33 ⟨1, 8, Go.Value.nilFunc⟩ := .mk' (by kernel_rfl)
instance : TyU Try.prog 34 (Go.TypeDesc.func #[25, 37] #[29] false) := ⟨Try.underlying34⟩
instance : TyI Try.prog 34 ⟨1, 8, Go.Value.nilFunc⟩ := .mk' (by kernel_rfl)
instance : TyU Try.prog 35 (Go.TypeDesc.slice 3) := ⟨Try.underlying35⟩
instance : TyI Try.prog 35 ⟨1, 24, (Go.Value.slice none 0 0)⟩ := .mk' (by kernel_rfl)
instance : TyU Try.prog 36 (Go.TypeDesc.struct #[{ name := "Kind", type := 3, offset := 0, embedded := false, tag := "", pkgPath := "", byteOffset := 0 }, { name := "View", type := 2, offset := 1, embedded := false, tag := "", pkgPath := "", byteOffset := 8 }, { name := "From", type := 2, offset := 2, embedded := false, tag := "", pkgPath := "", byteOffset := 16 }, { name := "K", type := 28, offset := 3, embedded := false, tag := "", pkgPath := "", byteOffset := 24 }, { name := "Fail", type := 3, offset := 8, embedded := false, tag := "", pkgPath := "", byteOffset := 88 }, { name := "Keep", type := 35, offset := 9, embedded := false, tag := "", pkgPath := "", byteOffset := 96 }]) := ⟨Try.underlying36⟩
instance : TyP Try.prog 36 [(0, 1), (1, 1), (2, 1), (3, 5), (8, 1), (9, 1)] := ⟨_, Try.underlying36, fun w => by kernel_rfl⟩
instance : TyF Try.prog 36 0 0 := ⟨_, _, _, Try.underlying36, rfl, rfl, Try.sizeOf3⟩
instance : TyF Try.prog 36 1 1 := ⟨_, _, _, Try.underlying36, rfl, rfl, Try.sizeOf2⟩
instance : TyF Try.prog 36 2 2 := ⟨_, _, _, Try.underlying36, rfl, rfl, Try.sizeOf2⟩
instance : TyF Try.prog 36 3 3 := ⟨_, _, _, Try.underlying36, rfl, rfl, Try.sizeOf28⟩
instance : TyF Try.prog 36 4 8 := ⟨_, _, _, Try.underlying36, rfl, rfl, Try.sizeOf3⟩
instance : TyF Try.prog 36 5 9 := ⟨_, _, _, Try.underlying36, rfl, rfl, Try.sizeOf35⟩
instance : TyI Try.prog 36 ⟨10, 120, (Go.Value.agg #[(Go.Value.int Go.IntKind.i64 0), (Go.Value.int Go.IntKind.i64 0), (Go.Value.int Go.IntKind.i64 0), (Go.Value.int Go.IntKind.i64 0), (Go.Value.int Go.IntKind.i64 0), (Go.Value.int Go.IntKind.i64 0), (Go.Value.string { data := #[] }), (Go.Value.slice none 0 0), (Go.Value.int Go.IntKind.i64 0), (Go.Value.slice none 0 0)])⟩ := .mk' (by kernel_rfl)
instance : TyU Try.prog 37 (Go.TypeDesc.struct #[{ name := "Kind", type := 3, offset := 0, embedded := false, tag := "", pkgPath := "", byteOffset := 0 }, { name := "View", type := 2, offset := 1, embedded := false, tag := "", pkgPath := "", byteOffset := 8 }, { name := "From", type := 2, offset := 2, embedded := false, tag := "", pkgPath := "", byteOffset := 16 }, { name := "K", type := 28, offset := 3, embedded := false, tag := "", pkgPath := "", byteOffset := 24 }, { name := "Fail", type := 3, offset := 8, embedded := false, tag := "", pkgPath := "", byteOffset := 88 }, { name := "Keep", type := 35, offset := 9, embedded := false, tag := "", pkgPath := "", byteOffset := 96 }]) := ⟨Try.underlying37⟩
instance : TyP Try.prog 37 [(0, 1), (1, 1), (2, 1), (3, 5), (8, 1), (9, 1)] := ⟨_, Try.underlying37, fun w => by kernel_rfl⟩
instance : TyF Try.prog 37 0 0 := ⟨_, _, _, Try.underlying37, rfl, rfl, Try.sizeOf3⟩
instance : TyF Try.prog 37 1 1 := ⟨_, _, _, Try.underlying37, rfl, rfl, Try.sizeOf2⟩
instance : TyF Try.prog 37 2 2 := ⟨_, _, _, Try.underlying37, rfl, rfl, Try.sizeOf2⟩
instance : TyF Try.prog 37 3 3 := ⟨_, _, _, Try.underlying37, rfl, rfl, Try.sizeOf28⟩
instance : TyF Try.prog 37 4 8 := ⟨_, _, _, Try.underlying37, rfl, rfl, Try.sizeOf3⟩
instance : TyF Try.prog 37 5 9 := ⟨_, _, _, Try.underlying37, rfl, rfl, Try.sizeOf35⟩
instance : TyI Try.prog 37 ⟨10, 120, (Go.Value.agg #[(Go.Value.int Go.IntKind.i64 0), (Go.Value.int Go.IntKind.i64 0), (Go.Value.int Go.IntKind.i64 0), (Go.Value.int Go.IntKind.i64 0), (Go.Value.int Go.IntKind.i64 0), (Go.Value.int Go.IntKind.i64 0), (Go.Value.string { data := #[] }), (Go.Value.slice none 0 0), (Go.Value.int Go.IntKind.i64 0), (Go.Value.slice none 0 0)])⟩ := .mk' (by kernel_rfl)
instance : TyU Try.prog 38 (Go.TypeDesc.func #[28] #[29] false) := ⟨Try.underlying38⟩
instance : TyI Try.prog 38 ⟨1, 8, Go.Value.nilFunc⟩ := .mk' (by kernel_rfl)
instance : TyU Try.prog 39 (Go.TypeDesc.func #[] #[28] false) := ⟨Try.underlying39⟩
instance : TyI Try.prog 39 ⟨1, 8, Go.Value.nilFunc⟩ := .mk' (by kernel_rfl)
instance : TyU Try.prog 40 (Go.TypeDesc.func #[28, 28] #[4] false) := ⟨Try.underlying40⟩
instance : TyI Try.prog 40 ⟨1, 8, Go.Value.nilFunc⟩ := .mk' (by kernel_rfl)
instance : TyU Try.prog 41 (Go.TypeDesc.func #[22, 22] #[4] false) := ⟨Try.underlying41⟩
instance : TyI Try.prog 41 ⟨1, 8, Go.Value.nilFunc⟩ := .mk' (by kernel_rfl)
instance : TyU Try.prog 42 (Go.TypeDesc.func #[28] #[4] false) := ⟨Try.underlying42⟩
instance : TyI Try.prog 42 ⟨1, 8, Go.Value.nilFunc⟩ := .mk' (by kernel_rfl)
instance : TyU Try.prog 43 (Go.TypeDesc.func #[3] #[] false) := ⟨Try.underlying43⟩
instance : TyI Try.prog 43 ⟨1, 8, Go.Value.nilFunc⟩ := .mk' (by kernel_rfl)
instance : TyU Try.prog 44 (Go.TypeDesc.func #[3] #[29] false) := ⟨Try.underlying44⟩
instance : TyI Try.prog 44 ⟨1, 8, Go.Value.nilFunc⟩ := .mk' (by kernel_rfl)
instance : TyU Try.prog 45 (Go.TypeDesc.func #[2] #[29] false) := ⟨Try.underlying45⟩
instance : TyI Try.prog 45 ⟨1, 8, Go.Value.nilFunc⟩ := .mk' (by kernel_rfl)
instance : TyU Try.prog 46 (Go.TypeDesc.func #[50] #[29] false) := ⟨Try.underlying46⟩
instance : TyI Try.prog 46 ⟨1, 8, Go.Value.nilFunc⟩ := .mk' (by kernel_rfl)
instance : TyU Try.prog 47 (Go.TypeDesc.struct #[{ name := "Kind", type := 3, offset := 0, embedded := false, tag := "", pkgPath := "", byteOffset := 0 }, { name := "Path", type := 9, offset := 1, embedded := false, tag := "", pkgPath := "", byteOffset := 8 }, { name := "To", type := 9, offset := 2, embedded := false, tag := "", pkgPath := "", byteOffset := 24 }, { name := "Data", type := 9, offset := 3, embedded := false, tag := "", pkgPath := "", byteOffset := 40 }, { name := "At", type := 3, offset := 4, embedded := false, tag := "", pkgPath := "", byteOffset := 56 }, { name := "Size", type := 3, offset := 5, embedded := false, tag := "", pkgPath := "", byteOffset := 64 }]) := ⟨Try.underlying47⟩
instance : TyP Try.prog 47 [(0, 1), (1, 1), (2, 1), (3, 1), (4, 1), (5, 1)] := ⟨_, Try.underlying47, fun w => by kernel_rfl⟩
instance : TyF Try.prog 47 0 0 := ⟨_, _, _, Try.underlying47, rfl, rfl, Try.sizeOf3⟩
instance : TyF Try.prog 47 1 1 := ⟨_, _, _, Try.underlying47, rfl, rfl, Try.sizeOf9⟩
instance : TyF Try.prog 47 2 2 := ⟨_, _, _, Try.underlying47, rfl, rfl, Try.sizeOf9⟩
instance : TyF Try.prog 47 3 3 := ⟨_, _, _, Try.underlying47, rfl, rfl, Try.sizeOf9⟩
instance : TyF Try.prog 47 4 4 := ⟨_, _, _, Try.underlying47, rfl, rfl, Try.sizeOf3⟩
instance : TyF Try.prog 47 5 5 := ⟨_, _, _, Try.underlying47, rfl, rfl, Try.sizeOf3⟩
instance : TyI Try.prog 47 ⟨6, 72, (Go.Value.agg #[(Go.Value.int Go.IntKind.i64 0), (Go.Value.string { data := #[] }), (Go.Value.string { data := #[] }), (Go.Value.string { data := #[] }), (Go.Value.int Go.IntKind.i64 0), (Go.Value.int Go.IntKind.i64 0)])⟩ := .mk' (by kernel_rfl)
instance : TyU Try.prog 48 (Go.TypeDesc.struct #[{ name := "Kind", type := 3, offset := 0, embedded := false, tag := "", pkgPath := "", byteOffset := 0 }, { name := "Path", type := 9, offset := 1, embedded := false, tag := "", pkgPath := "", byteOffset := 8 }, { name := "To", type := 9, offset := 2, embedded := false, tag := "", pkgPath := "", byteOffset := 24 }, { name := "Data", type := 9, offset := 3, embedded := false, tag := "", pkgPath := "", byteOffset := 40 }, { name := "At", type := 3, offset := 4, embedded := false, tag := "", pkgPath := "", byteOffset := 56 }, { name := "Size", type := 3, offset := 5, embedded := false, tag := "", pkgPath := "", byteOffset := 64 }]) := ⟨Try.underlying48⟩
instance : TyP Try.prog 48 [(0, 1), (1, 1), (2, 1), (3, 1), (4, 1), (5, 1)] := ⟨_, Try.underlying48, fun w => by kernel_rfl⟩
instance : TyF Try.prog 48 0 0 := ⟨_, _, _, Try.underlying48, rfl, rfl, Try.sizeOf3⟩
instance : TyF Try.prog 48 1 1 := ⟨_, _, _, Try.underlying48, rfl, rfl, Try.sizeOf9⟩
instance : TyF Try.prog 48 2 2 := ⟨_, _, _, Try.underlying48, rfl, rfl, Try.sizeOf9⟩
instance : TyF Try.prog 48 3 3 := ⟨_, _, _, Try.underlying48, rfl, rfl, Try.sizeOf9⟩
instance : TyF Try.prog 48 4 4 := ⟨_, _, _, Try.underlying48, rfl, rfl, Try.sizeOf3⟩
instance : TyF Try.prog 48 5 5 := ⟨_, _, _, Try.underlying48, rfl, rfl, Try.sizeOf3⟩
instance : TyI Try.prog 48 ⟨6, 72, (Go.Value.agg #[(Go.Value.int Go.IntKind.i64 0), (Go.Value.string { data := #[] }), (Go.Value.string { data := #[] }), (Go.Value.string { data := #[] }), (Go.Value.int Go.IntKind.i64 0), (Go.Value.int Go.IntKind.i64 0)])⟩ := .mk' (by kernel_rfl)
instance : TyU Try.prog 49 (Go.TypeDesc.struct #[{ name := "Client", type := 3, offset := 0, embedded := false, tag := "", pkgPath := "", byteOffset := 0 }, { name := "Number", type := 2, offset := 1, embedded := false, tag := "", pkgPath := "", byteOffset := 8 }, { name := "Op", type := 48, offset := 2, embedded := false, tag := "", pkgPath := "", byteOffset := 16 }]) := ⟨Try.underlying49⟩
instance : TyP Try.prog 49 [(0, 1), (1, 1), (2, 6)] := ⟨_, Try.underlying49, fun w => by kernel_rfl⟩
instance : TyF Try.prog 49 0 0 := ⟨_, _, _, Try.underlying49, rfl, rfl, Try.sizeOf3⟩
instance : TyF Try.prog 49 1 1 := ⟨_, _, _, Try.underlying49, rfl, rfl, Try.sizeOf2⟩
instance : TyF Try.prog 49 2 2 := ⟨_, _, _, Try.underlying49, rfl, rfl, Try.sizeOf48⟩
instance : TyI Try.prog 49 ⟨8, 88, (Go.Value.agg #[(Go.Value.int Go.IntKind.i64 0), (Go.Value.int Go.IntKind.i64 0), (Go.Value.int Go.IntKind.i64 0), (Go.Value.string { data := #[] }), (Go.Value.string { data := #[] }), (Go.Value.string { data := #[] }), (Go.Value.int Go.IntKind.i64 0), (Go.Value.int Go.IntKind.i64 0)])⟩ := .mk' (by kernel_rfl)
instance : TyU Try.prog 50 (Go.TypeDesc.struct #[{ name := "Client", type := 3, offset := 0, embedded := false, tag := "", pkgPath := "", byteOffset := 0 }, { name := "Number", type := 2, offset := 1, embedded := false, tag := "", pkgPath := "", byteOffset := 8 }, { name := "Op", type := 48, offset := 2, embedded := false, tag := "", pkgPath := "", byteOffset := 16 }]) := ⟨Try.underlying50⟩
instance : TyP Try.prog 50 [(0, 1), (1, 1), (2, 6)] := ⟨_, Try.underlying50, fun w => by kernel_rfl⟩
instance : TyF Try.prog 50 0 0 := ⟨_, _, _, Try.underlying50, rfl, rfl, Try.sizeOf3⟩
instance : TyF Try.prog 50 1 1 := ⟨_, _, _, Try.underlying50, rfl, rfl, Try.sizeOf2⟩
instance : TyF Try.prog 50 2 2 := ⟨_, _, _, Try.underlying50, rfl, rfl, Try.sizeOf48⟩
instance : TyI Try.prog 50 ⟨8, 88, (Go.Value.agg #[(Go.Value.int Go.IntKind.i64 0), (Go.Value.int Go.IntKind.i64 0), (Go.Value.int Go.IntKind.i64 0), (Go.Value.string { data := #[] }), (Go.Value.string { data := #[] }), (Go.Value.string { data := #[] }), (Go.Value.int Go.IntKind.i64 0), (Go.Value.int Go.IntKind.i64 0)])⟩ := .mk' (by kernel_rfl)
instance : TyU Try.prog 51 (Go.TypeDesc.func #[2, 2, 26] #[29] false) := ⟨Try.underlying51⟩
instance : TyI Try.prog 51 ⟨1, 8, Go.Value.nilFunc⟩ := .mk' (by kernel_rfl)
instance : TyU Try.prog 52 (Go.TypeDesc.slice 5) := ⟨Try.underlying52⟩
instance : TyI Try.prog 52 ⟨1, 24, (Go.Value.slice none 0 0)⟩ := .mk' (by kernel_rfl)
instance : TyU Try.prog 53 (Go.TypeDesc.pointer 57) := ⟨Try.underlying53⟩
instance : TyI Try.prog 53 ⟨1, 8, (Go.Value.pointer none)⟩ := .mk' (by kernel_rfl)
instance : TyU Try.prog 54 (Go.TypeDesc.array 2 9) := ⟨Try.underlying54⟩
instance : TyI Try.prog 54 ⟨2, 32, (Go.Value.agg #[(Go.Value.string { data := #[] }), (Go.Value.string { data := #[] })])⟩ := .mk' (by kernel_rfl)
instance : TyU Try.prog 55 (Go.TypeDesc.array 2 3) := ⟨Try.underlying55⟩
instance : TyI Try.prog 55 ⟨2, 16, (Go.Value.agg #[(Go.Value.int Go.IntKind.i64 0), (Go.Value.int Go.IntKind.i64 0)])⟩ := .mk' (by kernel_rfl)
instance : TyU Try.prog 56 (Go.TypeDesc.struct #[{ name := "B", type := 54, offset := 0, embedded := false, tag := "", pkgPath := "", byteOffset := 0 }, { name := "Sure", type := 55, offset := 2, embedded := false, tag := "", pkgPath := "", byteOffset := 32 }, { name := "Live", type := 3, offset := 4, embedded := false, tag := "", pkgPath := "", byteOffset := 48 }, { name := "Armed", type := 3, offset := 5, embedded := false, tag := "", pkgPath := "", byteOffset := 56 }, { name := "Gone", type := 4, offset := 6, embedded := false, tag := "", pkgPath := "", byteOffset := 64 }]) := ⟨Try.underlying56⟩
instance : TyP Try.prog 56 [(0, 2), (2, 2), (4, 1), (5, 1), (6, 1)] := ⟨_, Try.underlying56, fun w => by kernel_rfl⟩
instance : TyF Try.prog 56 0 0 := ⟨_, _, _, Try.underlying56, rfl, rfl, Try.sizeOf54⟩
instance : TyF Try.prog 56 1 2 := ⟨_, _, _, Try.underlying56, rfl, rfl, Try.sizeOf55⟩
instance : TyF Try.prog 56 2 4 := ⟨_, _, _, Try.underlying56, rfl, rfl, Try.sizeOf3⟩
instance : TyF Try.prog 56 3 5 := ⟨_, _, _, Try.underlying56, rfl, rfl, Try.sizeOf3⟩
instance : TyF Try.prog 56 4 6 := ⟨_, _, _, Try.underlying56, rfl, rfl, Try.sizeOf4⟩
instance : TyI Try.prog 56 ⟨7, 72, (Go.Value.agg #[(Go.Value.string { data := #[] }), (Go.Value.string { data := #[] }), (Go.Value.int Go.IntKind.i64 0), (Go.Value.int Go.IntKind.i64 0), (Go.Value.int Go.IntKind.i64 0), (Go.Value.int Go.IntKind.i64 0), (Go.Value.bool false)])⟩ := .mk' (by kernel_rfl)
instance : TyU Try.prog 57 (Go.TypeDesc.struct #[{ name := "B", type := 54, offset := 0, embedded := false, tag := "", pkgPath := "", byteOffset := 0 }, { name := "Sure", type := 55, offset := 2, embedded := false, tag := "", pkgPath := "", byteOffset := 32 }, { name := "Live", type := 3, offset := 4, embedded := false, tag := "", pkgPath := "", byteOffset := 48 }, { name := "Armed", type := 3, offset := 5, embedded := false, tag := "", pkgPath := "", byteOffset := 56 }, { name := "Gone", type := 4, offset := 6, embedded := false, tag := "", pkgPath := "", byteOffset := 64 }]) := ⟨Try.underlying57⟩
instance : TyP Try.prog 57 [(0, 2), (2, 2), (4, 1), (5, 1), (6, 1)] := ⟨_, Try.underlying57, fun w => by kernel_rfl⟩
instance : TyF Try.prog 57 0 0 := ⟨_, _, _, Try.underlying57, rfl, rfl, Try.sizeOf54⟩
instance : TyF Try.prog 57 1 2 := ⟨_, _, _, Try.underlying57, rfl, rfl, Try.sizeOf55⟩
instance : TyF Try.prog 57 2 4 := ⟨_, _, _, Try.underlying57, rfl, rfl, Try.sizeOf3⟩
instance : TyF Try.prog 57 3 5 := ⟨_, _, _, Try.underlying57, rfl, rfl, Try.sizeOf3⟩
instance : TyF Try.prog 57 4 6 := ⟨_, _, _, Try.underlying57, rfl, rfl, Try.sizeOf4⟩
instance : TyI Try.prog 57 ⟨7, 72, (Go.Value.agg #[(Go.Value.string { data := #[] }), (Go.Value.string { data := #[] }), (Go.Value.int Go.IntKind.i64 0), (Go.Value.int Go.IntKind.i64 0), (Go.Value.int Go.IntKind.i64 0), (Go.Value.int Go.IntKind.i64 0), (Go.Value.bool false)])⟩ := .mk' (by kernel_rfl)
instance : TyU Try.prog 58 (Go.TypeDesc.func #[3, 52] #[29] false) := ⟨Try.underlying58⟩
instance : TyI Try.prog 58 ⟨1, 8, Go.Value.nilFunc⟩ := .mk' (by kernel_rfl)
instance : TyU Try.prog 59 (Go.TypeDesc.func #[61] #[29] false) := ⟨Try.underlying59⟩
instance : TyI Try.prog 59 ⟨1, 8, Go.Value.nilFunc⟩ := .mk' (by kernel_rfl)
instance : TyU Try.prog 60 (Go.TypeDesc.struct #[{ name := "Kind", type := 3, offset := 0, embedded := false, tag := "", pkgPath := "", byteOffset := 0 }, { name := "Area", type := 3, offset := 1, embedded := false, tag := "", pkgPath := "", byteOffset := 8 }, { name := "B", type := 52, offset := 2, embedded := false, tag := "", pkgPath := "", byteOffset := 16 }, { name := "N", type := 3, offset := 3, embedded := false, tag := "", pkgPath := "", byteOffset := 40 }, { name := "Keep", type := 35, offset := 4, embedded := false, tag := "", pkgPath := "", byteOffset := 48 }]) := ⟨Try.underlying60⟩
instance : TyP Try.prog 60 [(0, 1), (1, 1), (2, 1), (3, 1), (4, 1)] := ⟨_, Try.underlying60, fun w => by kernel_rfl⟩
instance : TyF Try.prog 60 0 0 := ⟨_, _, _, Try.underlying60, rfl, rfl, Try.sizeOf3⟩
instance : TyF Try.prog 60 1 1 := ⟨_, _, _, Try.underlying60, rfl, rfl, Try.sizeOf3⟩
instance : TyF Try.prog 60 2 2 := ⟨_, _, _, Try.underlying60, rfl, rfl, Try.sizeOf52⟩
instance : TyF Try.prog 60 3 3 := ⟨_, _, _, Try.underlying60, rfl, rfl, Try.sizeOf3⟩
instance : TyF Try.prog 60 4 4 := ⟨_, _, _, Try.underlying60, rfl, rfl, Try.sizeOf35⟩
instance : TyI Try.prog 60 ⟨5, 72, (Go.Value.agg #[(Go.Value.int Go.IntKind.i64 0), (Go.Value.int Go.IntKind.i64 0), (Go.Value.slice none 0 0), (Go.Value.int Go.IntKind.i64 0), (Go.Value.slice none 0 0)])⟩ := .mk' (by kernel_rfl)
instance : TyU Try.prog 61 (Go.TypeDesc.struct #[{ name := "Kind", type := 3, offset := 0, embedded := false, tag := "", pkgPath := "", byteOffset := 0 }, { name := "Area", type := 3, offset := 1, embedded := false, tag := "", pkgPath := "", byteOffset := 8 }, { name := "B", type := 52, offset := 2, embedded := false, tag := "", pkgPath := "", byteOffset := 16 }, { name := "N", type := 3, offset := 3, embedded := false, tag := "", pkgPath := "", byteOffset := 40 }, { name := "Keep", type := 35, offset := 4, embedded := false, tag := "", pkgPath := "", byteOffset := 48 }]) := ⟨Try.underlying61⟩
instance : TyP Try.prog 61 [(0, 1), (1, 1), (2, 1), (3, 1), (4, 1)] := ⟨_, Try.underlying61, fun w => by kernel_rfl⟩
instance : TyF Try.prog 61 0 0 := ⟨_, _, _, Try.underlying61, rfl, rfl, Try.sizeOf3⟩
instance : TyF Try.prog 61 1 1 := ⟨_, _, _, Try.underlying61, rfl, rfl, Try.sizeOf3⟩
instance : TyF Try.prog 61 2 2 := ⟨_, _, _, Try.underlying61, rfl, rfl, Try.sizeOf52⟩
instance : TyF Try.prog 61 3 3 := ⟨_, _, _, Try.underlying61, rfl, rfl, Try.sizeOf3⟩
instance : TyF Try.prog 61 4 4 := ⟨_, _, _, Try.underlying61, rfl, rfl, Try.sizeOf35⟩
instance : TyI Try.prog 61 ⟨5, 72, (Go.Value.agg #[(Go.Value.int Go.IntKind.i64 0), (Go.Value.int Go.IntKind.i64 0), (Go.Value.slice none 0 0), (Go.Value.int Go.IntKind.i64 0), (Go.Value.slice none 0 0)])⟩ := .mk' (by kernel_rfl)
instance : TyU Try.prog 62 (Go.TypeDesc.pointer 67) := ⟨Try.underlying62⟩
instance : TyI Try.prog 62 ⟨1, 8, (Go.Value.pointer none)⟩ := .mk' (by kernel_rfl)
instance : TyU Try.prog 63 (Go.TypeDesc.tuple #[62, 29]) := ⟨Try.underlying63⟩
instance : TyI Try.prog 63 ⟨1, 0, (Go.Value.tuple #[(Go.Value.pointer none), (Go.Value.int Go.IntKind.i64 0)])⟩ := .mk' (by kernel_rfl)
instance : TyU Try.prog 64 (Go.TypeDesc.func #[53] #[62, 29] false) := ⟨Try.underlying64⟩
instance : TyI Try.prog 64 ⟨1, 8, Go.Value.nilFunc⟩ := .mk' (by kernel_rfl)
instance : TyU Try.prog 65 (Go.TypeDesc.func #[32, 53] #[4] false) := ⟨Try.underlying65⟩
instance : TyI Try.prog 65 ⟨1, 8, Go.Value.nilFunc⟩ := .mk' (by kernel_rfl)
instance : TyU Try.prog 66 (Go.TypeDesc.struct #[{ name := "P", type := 53, offset := 0, embedded := false, tag := "", pkgPath := "", byteOffset := 0 }, { name := "K", type := 28, offset := 1, embedded := false, tag := "", pkgPath := "", byteOffset := 8 }]) := ⟨Try.underlying66⟩
instance : TyP Try.prog 66 [(0, 1), (1, 5)] := ⟨_, Try.underlying66, fun w => by kernel_rfl⟩
instance : TyF Try.prog 66 0 0 := ⟨_, _, _, Try.underlying66, rfl, rfl, Try.sizeOf53⟩
instance : TyF Try.prog 66 1 1 := ⟨_, _, _, Try.underlying66, rfl, rfl, Try.sizeOf28⟩
instance : TyI Try.prog 66 ⟨6, 72, (Go.Value.agg #[(Go.Value.pointer none), (Go.Value.int Go.IntKind.i64 0), (Go.Value.int Go.IntKind.i64 0), (Go.Value.int Go.IntKind.i64 0), (Go.Value.string { data := #[] }), (Go.Value.slice none 0 0)])⟩ := .mk' (by kernel_rfl)
instance : TyU Try.prog 67 (Go.TypeDesc.struct #[{ name := "P", type := 53, offset := 0, embedded := false, tag := "", pkgPath := "", byteOffset := 0 }, { name := "K", type := 28, offset := 1, embedded := false, tag := "", pkgPath := "", byteOffset := 8 }]) := ⟨Try.underlying67⟩
instance : TyP Try.prog 67 [(0, 1), (1, 5)] := ⟨_, Try.underlying67, fun w => by kernel_rfl⟩
instance : TyF Try.prog 67 0 0 := ⟨_, _, _, Try.underlying67, rfl, rfl, Try.sizeOf53⟩
instance : TyF Try.prog 67 1 1 := ⟨_, _, _, Try.underlying67, rfl, rfl, Try.sizeOf28⟩
instance : TyI Try.prog 67 ⟨6, 72, (Go.Value.agg #[(Go.Value.pointer none), (Go.Value.int Go.IntKind.i64 0), (Go.Value.int Go.IntKind.i64 0), (Go.Value.int Go.IntKind.i64 0), (Go.Value.string { data := #[] }), (Go.Value.slice none 0 0)])⟩ := .mk' (by kernel_rfl)
instance : TyU Try.prog 68 (Go.TypeDesc.func #[52, 52] #[4] false) := ⟨Try.underlying68⟩
instance : TyI Try.prog 68 ⟨1, 8, Go.Value.nilFunc⟩ := .mk' (by kernel_rfl)
instance : TyU Try.prog 69 (Go.TypeDesc.func #[62, 37] #[29] false) := ⟨Try.underlying69⟩
instance : TyI Try.prog 69 ⟨1, 8, Go.Value.nilFunc⟩ := .mk' (by kernel_rfl)
instance : TyU Try.prog 70 (Go.TypeDesc.int Go.IntKind.u64) := ⟨Try.underlying70⟩
instance : TyI Try.prog 70 ⟨1, 8, (Go.Value.int Go.IntKind.u64 0)⟩ := .mk' (by kernel_rfl)
instance : TyU Try.prog 71 (Go.TypeDesc.func #[35] #[] true) := ⟨Try.underlying71⟩
instance : TyI Try.prog 71 ⟨1, 8, Go.Value.nilFunc⟩ := .mk' (by kernel_rfl)
instance : TyU Try.prog 72 (Go.TypeDesc.func #[3] #[52] false) := ⟨Try.underlying72⟩
instance : TyI Try.prog 72 ⟨1, 8, Go.Value.nilFunc⟩ := .mk' (by kernel_rfl)
instance : TyU Try.prog 73 (Go.TypeDesc.struct #[{ name := "p", type := 32, offset := 0, embedded := false, tag := "", pkgPath := "veneer/journal", byteOffset := 0 }, { name := "kept", type := 28, offset := 1, embedded := false, tag := "", pkgPath := "veneer/journal", byteOffset := 8 }]) := ⟨Try.underlying73⟩
instance : TyP Try.prog 73 [(0, 1), (1, 5)] := ⟨_, Try.underlying73, fun w => by kernel_rfl⟩
instance : TyF Try.prog 73 0 0 := ⟨_, _, _, Try.underlying73, rfl, rfl, Try.sizeOf32⟩
instance : TyF Try.prog 73 1 1 := ⟨_, _, _, Try.underlying73, rfl, rfl, Try.sizeOf28⟩
instance : TyI Try.prog 73 ⟨6, 72, (Go.Value.agg #[(Go.Value.pointer none), (Go.Value.int Go.IntKind.i64 0), (Go.Value.int Go.IntKind.i64 0), (Go.Value.int Go.IntKind.i64 0), (Go.Value.string { data := #[] }), (Go.Value.slice none 0 0)])⟩ := .mk' (by kernel_rfl)
instance : TyU Try.prog 74 (Go.TypeDesc.struct #[{ name := "p", type := 32, offset := 0, embedded := false, tag := "", pkgPath := "veneer/journal", byteOffset := 0 }, { name := "kept", type := 28, offset := 1, embedded := false, tag := "", pkgPath := "veneer/journal", byteOffset := 8 }]) := ⟨Try.underlying74⟩
instance : TyP Try.prog 74 [(0, 1), (1, 5)] := ⟨_, Try.underlying74, fun w => by kernel_rfl⟩
instance : TyF Try.prog 74 0 0 := ⟨_, _, _, Try.underlying74, rfl, rfl, Try.sizeOf32⟩
instance : TyF Try.prog 74 1 1 := ⟨_, _, _, Try.underlying74, rfl, rfl, Try.sizeOf28⟩
instance : TyI Try.prog 74 ⟨6, 72, (Go.Value.agg #[(Go.Value.pointer none), (Go.Value.int Go.IntKind.i64 0), (Go.Value.int Go.IntKind.i64 0), (Go.Value.int Go.IntKind.i64 0), (Go.Value.string { data := #[] }), (Go.Value.slice none 0 0)])⟩ := .mk' (by kernel_rfl)
instance : TyU Try.prog 75 (Go.TypeDesc.func #[] #[3] false) := ⟨Try.underlying75⟩
instance : TyI Try.prog 75 ⟨1, 8, Go.Value.nilFunc⟩ := .mk' (by kernel_rfl)
instance : TyU Try.prog 76 (Go.TypeDesc.slice 52) := ⟨Try.underlying76⟩
instance : TyI Try.prog 76 ⟨1, 24, (Go.Value.slice none 0 0)⟩ := .mk' (by kernel_rfl)
instance : TyU Try.prog 77 (Go.TypeDesc.tuple #[76, 3]) := ⟨Try.underlying77⟩
instance : TyI Try.prog 77 ⟨1, 0, (Go.Value.tuple #[(Go.Value.slice none 0 0), (Go.Value.int Go.IntKind.i64 0)])⟩ := .mk' (by kernel_rfl)
instance : TyU Try.prog 78 (Go.TypeDesc.func #[52] #[76, 3] false) := ⟨Try.underlying78⟩
instance : TyI Try.prog 78 ⟨1, 8, Go.Value.nilFunc⟩ := .mk' (by kernel_rfl)
instance : TyU Try.prog 79 (Go.TypeDesc.tuple #[28, 4]) := ⟨Try.underlying79⟩
instance : TyI Try.prog 79 ⟨1, 0, (Go.Value.tuple #[(Go.Value.agg #[(Go.Value.int Go.IntKind.i64 0), (Go.Value.int Go.IntKind.i64 0), (Go.Value.int Go.IntKind.i64 0), (Go.Value.string { data := #[] }), (Go.Value.slice none 0 0)]), (Go.Value.bool false)])⟩ := .mk' (by kernel_rfl)
instance : TyU Try.prog 80 (Go.TypeDesc.func #[28, 52] #[28, 4] false) := ⟨Try.underlying80⟩
instance : TyI Try.prog 80 ⟨1, 8, Go.Value.nilFunc⟩ := .mk' (by kernel_rfl)
instance : TyU Try.prog 81 (Go.TypeDesc.struct #[{ name := "b", type := 52, offset := 0, embedded := false, tag := "", pkgPath := "veneer/platter", byteOffset := 0 }, { name := "sure", type := 3, offset := 1, embedded := false, tag := "", pkgPath := "veneer/platter", byteOffset := 24 }]) := ⟨Try.underlying81⟩
instance : TyP Try.prog 81 [(0, 1), (1, 1)] := ⟨_, Try.underlying81, fun w => by kernel_rfl⟩
instance : TyF Try.prog 81 0 0 := ⟨_, _, _, Try.underlying81, rfl, rfl, Try.sizeOf52⟩
instance : TyF Try.prog 81 1 1 := ⟨_, _, _, Try.underlying81, rfl, rfl, Try.sizeOf3⟩
instance : TyI Try.prog 81 ⟨2, 32, (Go.Value.agg #[(Go.Value.slice none 0 0), (Go.Value.int Go.IntKind.i64 0)])⟩ := .mk' (by kernel_rfl)
instance : TyU Try.prog 82 (Go.TypeDesc.struct #[{ name := "b", type := 52, offset := 0, embedded := false, tag := "", pkgPath := "veneer/platter", byteOffset := 0 }, { name := "sure", type := 3, offset := 1, embedded := false, tag := "", pkgPath := "veneer/platter", byteOffset := 24 }]) := ⟨Try.underlying82⟩
instance : TyP Try.prog 82 [(0, 1), (1, 1)] := ⟨_, Try.underlying82, fun w => by kernel_rfl⟩
instance : TyF Try.prog 82 0 0 := ⟨_, _, _, Try.underlying82, rfl, rfl, Try.sizeOf52⟩
instance : TyF Try.prog 82 1 1 := ⟨_, _, _, Try.underlying82, rfl, rfl, Try.sizeOf3⟩
instance : TyI Try.prog 82 ⟨2, 32, (Go.Value.agg #[(Go.Value.slice none 0 0), (Go.Value.int Go.IntKind.i64 0)])⟩ := .mk' (by kernel_rfl)
instance : TyU Try.prog 83 (Go.TypeDesc.array 2 82) := ⟨Try.underlying83⟩
instance : TyI Try.prog 83 ⟨4, 64, (Go.Value.agg #[(Go.Value.slice none 0 0), (Go.Value.int Go.IntKind.i64 0), (Go.Value.slice none 0 0), (Go.Value.int Go.IntKind.i64 0)])⟩ := .mk' (by kernel_rfl)
instance : TyU Try.prog 84 (Go.TypeDesc.struct #[{ name := "areas", type := 83, offset := 0, embedded := false, tag := "", pkgPath := "veneer/platter", byteOffset := 0 }, { name := "live", type := 3, offset := 4, embedded := false, tag := "", pkgPath := "veneer/platter", byteOffset := 64 }, { name := "armed", type := 3, offset := 5, embedded := false, tag := "", pkgPath := "veneer/platter", byteOffset := 72 }, { name := "down", type := 4, offset := 6, embedded := false, tag := "", pkgPath := "veneer/platter", byteOffset := 80 }]) := ⟨Try.underlying84⟩
instance : TyP Try.prog 84 [(0, 4), (4, 1), (5, 1), (6, 1)] := ⟨_, Try.underlying84, fun w => by kernel_rfl⟩
instance : TyF Try.prog 84 0 0 := ⟨_, _, _, Try.underlying84, rfl, rfl, Try.sizeOf83⟩
instance : TyF Try.prog 84 1 4 := ⟨_, _, _, Try.underlying84, rfl, rfl, Try.sizeOf3⟩
instance : TyF Try.prog 84 2 5 := ⟨_, _, _, Try.underlying84, rfl, rfl, Try.sizeOf3⟩
instance : TyF Try.prog 84 3 6 := ⟨_, _, _, Try.underlying84, rfl, rfl, Try.sizeOf4⟩
instance : TyI Try.prog 84 ⟨7, 88, (Go.Value.agg #[(Go.Value.slice none 0 0), (Go.Value.int Go.IntKind.i64 0), (Go.Value.slice none 0 0), (Go.Value.int Go.IntKind.i64 0), (Go.Value.int Go.IntKind.i64 0), (Go.Value.int Go.IntKind.i64 0), (Go.Value.bool false)])⟩ := .mk' (by kernel_rfl)
instance : TyU Try.prog 85 (Go.TypeDesc.struct #[{ name := "areas", type := 83, offset := 0, embedded := false, tag := "", pkgPath := "veneer/platter", byteOffset := 0 }, { name := "live", type := 3, offset := 4, embedded := false, tag := "", pkgPath := "veneer/platter", byteOffset := 64 }, { name := "armed", type := 3, offset := 5, embedded := false, tag := "", pkgPath := "veneer/platter", byteOffset := 72 }, { name := "down", type := 4, offset := 6, embedded := false, tag := "", pkgPath := "veneer/platter", byteOffset := 80 }]) := ⟨Try.underlying85⟩
instance : TyP Try.prog 85 [(0, 4), (4, 1), (5, 1), (6, 1)] := ⟨_, Try.underlying85, fun w => by kernel_rfl⟩
instance : TyF Try.prog 85 0 0 := ⟨_, _, _, Try.underlying85, rfl, rfl, Try.sizeOf83⟩
instance : TyF Try.prog 85 1 4 := ⟨_, _, _, Try.underlying85, rfl, rfl, Try.sizeOf3⟩
instance : TyF Try.prog 85 2 5 := ⟨_, _, _, Try.underlying85, rfl, rfl, Try.sizeOf3⟩
instance : TyF Try.prog 85 3 6 := ⟨_, _, _, Try.underlying85, rfl, rfl, Try.sizeOf4⟩
instance : TyI Try.prog 85 ⟨7, 88, (Go.Value.agg #[(Go.Value.slice none 0 0), (Go.Value.int Go.IntKind.i64 0), (Go.Value.slice none 0 0), (Go.Value.int Go.IntKind.i64 0), (Go.Value.int Go.IntKind.i64 0), (Go.Value.int Go.IntKind.i64 0), (Go.Value.bool false)])⟩ := .mk' (by kernel_rfl)
instance : TyU Try.prog 86 (Go.TypeDesc.func #[37] #[50] false) := ⟨Try.underlying86⟩
instance : TyI Try.prog 86 ⟨1, 8, Go.Value.nilFunc⟩ := .mk' (by kernel_rfl)
instance : TyU Try.prog 87 (Go.TypeDesc.struct #[{ name := "b", type := 52, offset := 0, embedded := false, tag := "", pkgPath := "veneer/wire", byteOffset := 0 }]) := ⟨Try.underlying87⟩
instance : TyP Try.prog 87 [(0, 1)] := ⟨_, Try.underlying87, fun w => by kernel_rfl⟩
instance : TyF Try.prog 87 0 0 := ⟨_, _, _, Try.underlying87, rfl, rfl, Try.sizeOf52⟩
instance : TyI Try.prog 87 ⟨1, 24, (Go.Value.agg #[(Go.Value.slice none 0 0)])⟩ := .mk' (by kernel_rfl)
instance : TyU Try.prog 88 (Go.TypeDesc.struct #[{ name := "b", type := 52, offset := 0, embedded := false, tag := "", pkgPath := "veneer/wire", byteOffset := 0 }]) := ⟨Try.underlying88⟩
instance : TyP Try.prog 88 [(0, 1)] := ⟨_, Try.underlying88, fun w => by kernel_rfl⟩
instance : TyF Try.prog 88 0 0 := ⟨_, _, _, Try.underlying88, rfl, rfl, Try.sizeOf52⟩
instance : TyI Try.prog 88 ⟨1, 24, (Go.Value.agg #[(Go.Value.slice none 0 0)])⟩ := .mk' (by kernel_rfl)
instance : TyU Try.prog 89 (Go.TypeDesc.func #[90] #[] false) := ⟨Try.underlying89⟩
instance : TyI Try.prog 89 ⟨1, 8, Go.Value.nilFunc⟩ := .mk' (by kernel_rfl)
instance : TyU Try.prog 90 (Go.TypeDesc.int Go.IntKind.u64) := ⟨Try.underlying90⟩
instance : TyI Try.prog 90 ⟨1, 8, (Go.Value.int Go.IntKind.u64 0)⟩ := .mk' (by kernel_rfl)
instance : TyU Try.prog 91 (Go.TypeDesc.func #[9] #[] false) := ⟨Try.underlying91⟩
instance : TyI Try.prog 91 ⟨1, 8, Go.Value.nilFunc⟩ := .mk' (by kernel_rfl)
instance : TyU Try.prog 92 (Go.TypeDesc.func #[93, 26] #[] true) := ⟨Try.underlying92⟩
instance : TyI Try.prog 92 ⟨1, 8, Go.Value.nilFunc⟩ := .mk' (by kernel_rfl)
instance : TyU Try.prog 93 (Go.TypeDesc.pointer 88) := ⟨Try.underlying93⟩
instance : TyI Try.prog 93 ⟨1, 8, (Go.Value.pointer none)⟩ := .mk' (by kernel_rfl)
instance : TyU Try.prog 94 (Go.TypeDesc.tuple #[52, 29]) := ⟨Try.underlying94⟩
instance : TyI Try.prog 94 ⟨1, 0, (Go.Value.tuple #[(Go.Value.slice none 0 0), (Go.Value.int Go.IntKind.i64 0)])⟩ := .mk' (by kernel_rfl)
instance : TyU Try.prog 95 (Go.TypeDesc.func #[52] #[52, 29] false) := ⟨Try.underlying95⟩
instance : TyI Try.prog 95 ⟨1, 8, Go.Value.nilFunc⟩ := .mk' (by kernel_rfl)
instance : TyU Try.prog 96 (Go.TypeDesc.func #[] #[52] false) := ⟨Try.underlying96⟩
instance : TyI Try.prog 96 ⟨1, 8, Go.Value.nilFunc⟩ := .mk' (by kernel_rfl)
instance : TyU Try.prog 97 (Go.TypeDesc.func #[] #[29] false) := ⟨Try.underlying97⟩
instance : TyI Try.prog 97 ⟨1, 8, Go.Value.nilFunc⟩ := .mk' (by kernel_rfl)
instance : TyU Try.prog 98 (Go.TypeDesc.slice 97) := ⟨Try.underlying98⟩
instance : TyI Try.prog 98 ⟨1, 24, (Go.Value.slice none 0 0)⟩ := .mk' (by kernel_rfl)
instance : TyU Try.prog 99 (Go.TypeDesc.func #[26] #[26] false) := ⟨Try.underlying99⟩
instance : TyI Try.prog 99 ⟨1, 8, Go.Value.nilFunc⟩ := .mk' (by kernel_rfl)
instance : TyU Try.prog 100 (Go.TypeDesc.func #[26, 26] #[4] false) := ⟨Try.underlying100⟩
instance : TyI Try.prog 100 ⟨1, 8, Go.Value.nilFunc⟩ := .mk' (by kernel_rfl)
instance : TyU Try.prog 101 (Go.TypeDesc.func #[48] #[52, 29] false) := ⟨Try.underlying101⟩
instance : TyI Try.prog 101 ⟨1, 8, Go.Value.nilFunc⟩ := .mk' (by kernel_rfl)
instance : TyU Try.prog 102 (Go.TypeDesc.func #[28] #[2] false) := ⟨Try.underlying102⟩
instance : TyI Try.prog 102 ⟨1, 8, Go.Value.nilFunc⟩ := .mk' (by kernel_rfl)
instance : TyU Try.prog 103 (Go.TypeDesc.tuple #[29, 4]) := ⟨Try.underlying103⟩
instance : TyI Try.prog 103 ⟨1, 0, (Go.Value.tuple #[(Go.Value.int Go.IntKind.i64 0), (Go.Value.bool false)])⟩ := .mk' (by kernel_rfl)
instance : TyU Try.prog 104 (Go.TypeDesc.func #[3, 3] #[29, 4] false) := ⟨Try.underlying104⟩
instance : TyI Try.prog 104 ⟨1, 8, Go.Value.nilFunc⟩ := .mk' (by kernel_rfl)
instance : TyU Try.prog 105 (Go.TypeDesc.func #[93] #[29] false) := ⟨Try.underlying105⟩
instance : TyI Try.prog 105 ⟨1, 8, Go.Value.nilFunc⟩ := .mk' (by kernel_rfl)
instance : TyU Try.prog 106 (Go.TypeDesc.func #[26, 134] #[4] true) := ⟨Try.underlying106⟩
instance : TyI Try.prog 106 ⟨1, 8, Go.Value.nilFunc⟩ := .mk' (by kernel_rfl)
instance : TyU Try.prog 107 (Go.TypeDesc.func #[52] #[52] false) := ⟨Try.underlying107⟩
instance : TyI Try.prog 107 ⟨1, 8, Go.Value.nilFunc⟩ := .mk' (by kernel_rfl)
instance : TyU Try.prog 108 (Go.TypeDesc.func #[35] #[] false) := ⟨Try.underlying108⟩
instance : TyI Try.prog 108 ⟨1, 8, Go.Value.nilFunc⟩ := .mk' (by kernel_rfl)
instance : TyU Try.prog 109 (Go.TypeDesc.func #[3] #[3] false) := ⟨Try.underlying109⟩
instance : TyI Try.prog 109 ⟨1, 8, Go.Value.nilFunc⟩ := .mk' (by kernel_rfl)
instance : TyU Try.prog 110 (Go.TypeDesc.tuple #[52, 4]) := ⟨Try.underlying110⟩
instance : TyI Try.prog 110 ⟨1, 0, (Go.Value.tuple #[(Go.Value.slice none 0 0), (Go.Value.bool false)])⟩ := .mk' (by kernel_rfl)
instance : TyU Try.prog 111 (Go.TypeDesc.func #[37] #[52, 4] false) := ⟨Try.underlying111⟩
instance : TyI Try.prog 111 ⟨1, 8, Go.Value.nilFunc⟩ := .mk' (by kernel_rfl)
instance : TyU Try.prog 112 (Go.TypeDesc.func #[52] #[29] false) := ⟨Try.underlying112⟩
instance : TyI Try.prog 112 ⟨1, 8, Go.Value.nilFunc⟩ := .mk' (by kernel_rfl)
instance : TyU Try.prog 113 (Go.TypeDesc.pointer 82) := ⟨Try.underlying113⟩
instance : TyI Try.prog 113 ⟨1, 8, (Go.Value.pointer none)⟩ := .mk' (by kernel_rfl)
instance : TyU Try.prog 114 (Go.TypeDesc.tuple #[52, 3, 29]) := ⟨Try.underlying114⟩
instance : TyI Try.prog 114 ⟨1, 0, (Go.Value.tuple #[(Go.Value.slice none 0 0), (Go.Value.int Go.IntKind.i64 0), (Go.Value.int Go.IntKind.i64 0)])⟩ := .mk' (by kernel_rfl)
instance : TyU Try.prog 115 (Go.TypeDesc.func #[52] #[52, 3, 29] false) := ⟨Try.underlying115⟩
instance : TyI Try.prog 115 ⟨1, 8, Go.Value.nilFunc⟩ := .mk' (by kernel_rfl)
instance : TyU Try.prog 116 (Go.TypeDesc.struct #[]) := ⟨Try.underlying116⟩
instance : TyP Try.prog 116 [] := ⟨_, Try.underlying116, fun w => by kernel_rfl⟩
instance : TyI Try.prog 116 ⟨0, 0, (Go.Value.agg #[])⟩ := .mk' (by kernel_rfl)
instance : TyU Try.prog 117 (Go.TypeDesc.struct #[]) := ⟨Try.underlying117⟩
instance : TyP Try.prog 117 [] := ⟨_, Try.underlying117, fun w => by kernel_rfl⟩
instance : TyI Try.prog 117 ⟨0, 0, (Go.Value.agg #[])⟩ := .mk' (by kernel_rfl)
instance : TyU Try.prog 118 (Go.TypeDesc.tuple #[117, 4]) := ⟨Try.underlying118⟩
instance : TyI Try.prog 118 ⟨1, 0, (Go.Value.tuple #[(Go.Value.agg #[]), (Go.Value.bool false)])⟩ := .mk' (by kernel_rfl)
instance : TyU Try.prog 119 (Go.TypeDesc.pointer 121) := ⟨Try.underlying119⟩
instance : TyI Try.prog 119 ⟨1, 8, (Go.Value.pointer none)⟩ := .mk' (by kernel_rfl)
instance : TyU Try.prog 120 (Go.TypeDesc.struct #[{ name := "k", type := 28, offset := 0, embedded := false, tag := "", pkgPath := "veneer/journal", byteOffset := 0 }]) := ⟨Try.underlying120⟩
instance : TyP Try.prog 120 [(0, 5)] := ⟨_, Try.underlying120, fun w => by kernel_rfl⟩
instance : TyF Try.prog 120 0 0 := ⟨_, _, _, Try.underlying120, rfl, rfl, Try.sizeOf28⟩
instance : TyI Try.prog 120 ⟨5, 64, (Go.Value.agg #[(Go.Value.int Go.IntKind.i64 0), (Go.Value.int Go.IntKind.i64 0), (Go.Value.int Go.IntKind.i64 0), (Go.Value.string { data := #[] }), (Go.Value.slice none 0 0)])⟩ := .mk' (by kernel_rfl)
instance : TyU Try.prog 121 (Go.TypeDesc.struct #[{ name := "k", type := 28, offset := 0, embedded := false, tag := "", pkgPath := "veneer/journal", byteOffset := 0 }]) := ⟨Try.underlying121⟩
instance : TyP Try.prog 121 [(0, 5)] := ⟨_, Try.underlying121, fun w => by kernel_rfl⟩
instance : TyF Try.prog 121 0 0 := ⟨_, _, _, Try.underlying121, rfl, rfl, Try.sizeOf28⟩
instance : TyI Try.prog 121 ⟨5, 64, (Go.Value.agg #[(Go.Value.int Go.IntKind.i64 0), (Go.Value.int Go.IntKind.i64 0), (Go.Value.int Go.IntKind.i64 0), (Go.Value.string { data := #[] }), (Go.Value.slice none 0 0)])⟩ := .mk' (by kernel_rfl)
instance : TyU Try.prog 122 (Go.TypeDesc.pointer 147) := ⟨Try.underlying122⟩
instance : TyI Try.prog 122 ⟨1, 8, (Go.Value.pointer none)⟩ := .mk' (by kernel_rfl)
instance : TyU Try.prog 123 (Go.TypeDesc.func #[52] #[122] false) := ⟨Try.underlying123⟩
instance : TyI Try.prog 123 ⟨1, 8, Go.Value.nilFunc⟩ := .mk' (by kernel_rfl)
instance : TyU Try.prog 124 (Go.TypeDesc.func #[122] #[] false) := ⟨Try.underlying124⟩
instance : TyI Try.prog 124 ⟨1, 8, Go.Value.nilFunc⟩ := .mk' (by kernel_rfl)
instance : TyU Try.prog 125 (Go.TypeDesc.slice 124) := ⟨Try.underlying125⟩
instance : TyI Try.prog 125 ⟨1, 24, (Go.Value.slice none 0 0)⟩ := .mk' (by kernel_rfl)
instance : TyU Try.prog 126 (Go.TypeDesc.func #[] #[90] false) := ⟨Try.underlying126⟩
instance : TyI Try.prog 126 ⟨1, 8, Go.Value.nilFunc⟩ := .mk' (by kernel_rfl)
instance : TyU Try.prog 127 (Go.TypeDesc.func #[4] #[] false) := ⟨Try.underlying127⟩
instance : TyI Try.prog 127 ⟨1, 8, Go.Value.nilFunc⟩ := .mk' (by kernel_rfl)
instance : TyU Try.prog 128 (Go.TypeDesc.func #[2] #[] false) := ⟨Try.underlying128⟩
instance : TyI Try.prog 128 ⟨1, 8, Go.Value.nilFunc⟩ := .mk' (by kernel_rfl)
instance : TyU Try.prog 129 (Go.TypeDesc.func #[130] #[52] false) := ⟨Try.underlying129⟩
instance : TyI Try.prog 129 ⟨1, 8, Go.Value.nilFunc⟩ := .mk' (by kernel_rfl)
instance : TyU Try.prog 130 (Go.TypeDesc.int Go.IntKind.u32) := ⟨Try.underlying130⟩
instance : TyI Try.prog 130 ⟨1, 4, (Go.Value.int Go.IntKind.u32 0)⟩ := .mk' (by kernel_rfl)
instance : TyU Try.prog 131 (Go.TypeDesc.func #[76] #[130] true) := ⟨Try.underlying131⟩
instance : TyI Try.prog 131 ⟨1, 8, Go.Value.nilFunc⟩ := .mk' (by kernel_rfl)
instance : TyU Try.prog 132 (Go.TypeDesc.func #[2] #[52] false) := ⟨Try.underlying132⟩
instance : TyI Try.prog 132 ⟨1, 8, Go.Value.nilFunc⟩ := .mk' (by kernel_rfl)
instance : TyU Try.prog 133 (Go.TypeDesc.func #[9] #[52] false) := ⟨Try.underlying133⟩
instance : TyI Try.prog 133 ⟨1, 8, Go.Value.nilFunc⟩ := .mk' (by kernel_rfl)
instance : TyU Try.prog 134 (Go.TypeDesc.slice 2) := ⟨Try.underlying134⟩
instance : TyI Try.prog 134 ⟨1, 24, (Go.Value.slice none 0 0)⟩ := .mk' (by kernel_rfl)
instance : TyU Try.prog 135 (Go.TypeDesc.pointer 137) := ⟨Try.underlying135⟩
instance : TyI Try.prog 135 ⟨1, 8, (Go.Value.pointer none)⟩ := .mk' (by kernel_rfl)
instance : TyU Try.prog 136 (Go.TypeDesc.struct #[{ name := "B", type := 52, offset := 0, embedded := false, tag := "", pkgPath := "", byteOffset := 0 }, { name := "At", type := 3, offset := 1, embedded := false, tag := "", pkgPath := "", byteOffset := 24 }, { name := "Err", type := 29, offset := 2, embedded := false, tag := "", pkgPath := "", byteOffset := 32 }]) := ⟨Try.underlying136⟩
instance : TyP Try.prog 136 [(0, 1), (1, 1), (2, 1)] := ⟨_, Try.underlying136, fun w => by kernel_rfl⟩
instance : TyF Try.prog 136 0 0 := ⟨_, _, _, Try.underlying136, rfl, rfl, Try.sizeOf52⟩
instance : TyF Try.prog 136 1 1 := ⟨_, _, _, Try.underlying136, rfl, rfl, Try.sizeOf3⟩
instance : TyF Try.prog 136 2 2 := ⟨_, _, _, Try.underlying136, rfl, rfl, Try.sizeOf29⟩
instance : TyI Try.prog 136 ⟨3, 40, (Go.Value.agg #[(Go.Value.slice none 0 0), (Go.Value.int Go.IntKind.i64 0), (Go.Value.int Go.IntKind.i64 0)])⟩ := .mk' (by kernel_rfl)
instance : TyU Try.prog 137 (Go.TypeDesc.struct #[{ name := "B", type := 52, offset := 0, embedded := false, tag := "", pkgPath := "", byteOffset := 0 }, { name := "At", type := 3, offset := 1, embedded := false, tag := "", pkgPath := "", byteOffset := 24 }, { name := "Err", type := 29, offset := 2, embedded := false, tag := "", pkgPath := "", byteOffset := 32 }]) := ⟨Try.underlying137⟩
instance : TyP Try.prog 137 [(0, 1), (1, 1), (2, 1)] := ⟨_, Try.underlying137, fun w => by kernel_rfl⟩
instance : TyF Try.prog 137 0 0 := ⟨_, _, _, Try.underlying137, rfl, rfl, Try.sizeOf52⟩
instance : TyF Try.prog 137 1 1 := ⟨_, _, _, Try.underlying137, rfl, rfl, Try.sizeOf3⟩
instance : TyF Try.prog 137 2 2 := ⟨_, _, _, Try.underlying137, rfl, rfl, Try.sizeOf29⟩
instance : TyI Try.prog 137 ⟨3, 40, (Go.Value.agg #[(Go.Value.slice none 0 0), (Go.Value.int Go.IntKind.i64 0), (Go.Value.int Go.IntKind.i64 0)])⟩ := .mk' (by kernel_rfl)
instance : TyU Try.prog 138 (Go.TypeDesc.tuple #[26, 4]) := ⟨Try.underlying138⟩
instance : TyI Try.prog 138 ⟨1, 0, (Go.Value.tuple #[(Go.Value.slice none 0 0), (Go.Value.bool false)])⟩ := .mk' (by kernel_rfl)
instance : TyU Try.prog 139 (Go.TypeDesc.func #[135, 90] #[26, 4] false) := ⟨Try.underlying139⟩
instance : TyI Try.prog 139 ⟨1, 8, Go.Value.nilFunc⟩ := .mk' (by kernel_rfl)
instance : TyU Try.prog 140 (Go.TypeDesc.func #[3] #[9] false) := ⟨Try.underlying140⟩
instance : TyI Try.prog 140 ⟨1, 8, Go.Value.nilFunc⟩ := .mk' (by kernel_rfl)
instance : TyU Try.prog 141 (Go.TypeDesc.func #[28] #[52] false) := ⟨Try.underlying141⟩
instance : TyI Try.prog 141 ⟨1, 8, Go.Value.nilFunc⟩ := .mk' (by kernel_rfl)
instance : TyU Try.prog 142 (Go.TypeDesc.func #[3, 3, 52] #[29] false) := ⟨Try.underlying142⟩
instance : TyI Try.prog 142 ⟨1, 8, Go.Value.nilFunc⟩ := .mk' (by kernel_rfl)
instance : TyU Try.prog 143 (Go.TypeDesc.func #[90] #[52] false) := ⟨Try.underlying143⟩
instance : TyI Try.prog 143 ⟨1, 8, Go.Value.nilFunc⟩ := .mk' (by kernel_rfl)
instance : TyU Try.prog 144 (Go.TypeDesc.func #[26] #[52] false) := ⟨Try.underlying144⟩
instance : TyI Try.prog 144 ⟨1, 8, Go.Value.nilFunc⟩ := .mk' (by kernel_rfl)
instance : TyU Try.prog 145 (Go.TypeDesc.func #[52] #[130] false) := ⟨Try.underlying145⟩
instance : TyI Try.prog 145 ⟨1, 8, Go.Value.nilFunc⟩ := .mk' (by kernel_rfl)
instance : TyU Try.prog 146 (Go.TypeDesc.struct #[{ name := "b", type := 52, offset := 0, embedded := false, tag := "", pkgPath := "veneer/wire", byteOffset := 0 }, { name := "err", type := 29, offset := 1, embedded := false, tag := "", pkgPath := "veneer/wire", byteOffset := 24 }]) := ⟨Try.underlying146⟩
instance : TyP Try.prog 146 [(0, 1), (1, 1)] := ⟨_, Try.underlying146, fun w => by kernel_rfl⟩
instance : TyF Try.prog 146 0 0 := ⟨_, _, _, Try.underlying146, rfl, rfl, Try.sizeOf52⟩
instance : TyF Try.prog 146 1 1 := ⟨_, _, _, Try.underlying146, rfl, rfl, Try.sizeOf29⟩
instance : TyI Try.prog 146 ⟨2, 32, (Go.Value.agg #[(Go.Value.slice none 0 0), (Go.Value.int Go.IntKind.i64 0)])⟩ := .mk' (by kernel_rfl)
instance : TyU Try.prog 147 (Go.TypeDesc.struct #[{ name := "b", type := 52, offset := 0, embedded := false, tag := "", pkgPath := "veneer/wire", byteOffset := 0 }, { name := "err", type := 29, offset := 1, embedded := false, tag := "", pkgPath := "veneer/wire", byteOffset := 24 }]) := ⟨Try.underlying147⟩
instance : TyP Try.prog 147 [(0, 1), (1, 1)] := ⟨_, Try.underlying147, fun w => by kernel_rfl⟩
instance : TyF Try.prog 147 0 0 := ⟨_, _, _, Try.underlying147, rfl, rfl, Try.sizeOf52⟩
instance : TyF Try.prog 147 1 1 := ⟨_, _, _, Try.underlying147, rfl, rfl, Try.sizeOf29⟩
instance : TyI Try.prog 147 ⟨2, 32, (Go.Value.agg #[(Go.Value.slice none 0 0), (Go.Value.int Go.IntKind.i64 0)])⟩ := .mk' (by kernel_rfl)
instance : TyU Try.prog 148 (Go.TypeDesc.func #[122] #[2] false) := ⟨Try.underlying148⟩
instance : TyI Try.prog 148 ⟨1, 8, Go.Value.nilFunc⟩ := .mk' (by kernel_rfl)
instance : TyU Try.prog 149 (Go.TypeDesc.func #[122, 90] #[26] false) := ⟨Try.underlying149⟩
instance : TyI Try.prog 149 ⟨1, 8, Go.Value.nilFunc⟩ := .mk' (by kernel_rfl)
instance : TyU Try.prog 150 (Go.TypeDesc.tuple #[5, 4]) := ⟨Try.underlying150⟩
instance : TyI Try.prog 150 ⟨1, 0, (Go.Value.tuple #[(Go.Value.int Go.IntKind.u8 0), (Go.Value.bool false)])⟩ := .mk' (by kernel_rfl)
instance : TyU Try.prog 151 (Go.TypeDesc.func #[] #[5, 4] false) := ⟨Try.underlying151⟩
instance : TyI Try.prog 151 ⟨1, 8, Go.Value.nilFunc⟩ := .mk' (by kernel_rfl)
instance : TyU Try.prog 152 (Go.TypeDesc.func #[29] #[] false) := ⟨Try.underlying152⟩
instance : TyI Try.prog 152 ⟨1, 8, Go.Value.nilFunc⟩ := .mk' (by kernel_rfl)
instance : TyU Try.prog 153 (Go.TypeDesc.func #[] #[2] false) := ⟨Try.underlying153⟩
instance : TyI Try.prog 153 ⟨1, 8, Go.Value.nilFunc⟩ := .mk' (by kernel_rfl)
instance : TyU Try.prog 154 (Go.TypeDesc.tuple #[48, 4]) := ⟨Try.underlying154⟩
instance : TyI Try.prog 154 ⟨1, 0, (Go.Value.tuple #[(Go.Value.agg #[(Go.Value.int Go.IntKind.i64 0), (Go.Value.string { data := #[] }), (Go.Value.string { data := #[] }), (Go.Value.string { data := #[] }), (Go.Value.int Go.IntKind.i64 0), (Go.Value.int Go.IntKind.i64 0)]), (Go.Value.bool false)])⟩ := .mk' (by kernel_rfl)
instance : TyU Try.prog 155 (Go.TypeDesc.func #[52] #[48, 4] false) := ⟨Try.underlying155⟩
instance : TyI Try.prog 155 ⟨1, 8, Go.Value.nilFunc⟩ := .mk' (by kernel_rfl)
instance : TyU Try.prog 156 (Go.TypeDesc.tuple #[48, 29]) := ⟨Try.underlying156⟩
instance : TyI Try.prog 156 ⟨1, 0, (Go.Value.tuple #[(Go.Value.agg #[(Go.Value.int Go.IntKind.i64 0), (Go.Value.string { data := #[] }), (Go.Value.string { data := #[] }), (Go.Value.string { data := #[] }), (Go.Value.int Go.IntKind.i64 0), (Go.Value.int Go.IntKind.i64 0)]), (Go.Value.int Go.IntKind.i64 0)])⟩ := .mk' (by kernel_rfl)
instance : TyU Try.prog 157 (Go.TypeDesc.func #[52] #[48, 29] false) := ⟨Try.underlying157⟩
instance : TyI Try.prog 157 ⟨1, 8, Go.Value.nilFunc⟩ := .mk' (by kernel_rfl)
instance : TyU Try.prog 158 (Go.TypeDesc.func #[] #[9] false) := ⟨Try.underlying158⟩
instance : TyI Try.prog 158 ⟨1, 8, Go.Value.nilFunc⟩ := .mk' (by kernel_rfl)
instance : TyU Try.prog 159 (Go.TypeDesc.struct #[{ name := "_interface", type := 17, offset := 0, embedded := false, tag := "", pkgPath := "runtime", byteOffset := 0 }, { name := "concrete", type := 17, offset := 1, embedded := false, tag := "", pkgPath := "runtime", byteOffset := 8 }, { name := "asserted", type := 17, offset := 2, embedded := false, tag := "", pkgPath := "runtime", byteOffset := 16 }, { name := "missingMethod", type := 9, offset := 3, embedded := false, tag := "", pkgPath := "runtime", byteOffset := 24 }]) := ⟨Try.underlying159⟩
instance : TyP Try.prog 159 [(0, 1), (1, 1), (2, 1), (3, 1)] := ⟨_, Try.underlying159, fun w => by kernel_rfl⟩
instance : TyF Try.prog 159 0 0 := ⟨_, _, _, Try.underlying159, rfl, rfl, Try.sizeOf17⟩
instance : TyF Try.prog 159 1 1 := ⟨_, _, _, Try.underlying159, rfl, rfl, Try.sizeOf17⟩
instance : TyF Try.prog 159 2 2 := ⟨_, _, _, Try.underlying159, rfl, rfl, Try.sizeOf17⟩
instance : TyF Try.prog 159 3 3 := ⟨_, _, _, Try.underlying159, rfl, rfl, Try.sizeOf9⟩
instance : TyI Try.prog 159 ⟨4, 40, (Go.Value.agg #[(Go.Value.pointer none), (Go.Value.pointer none), (Go.Value.pointer none), (Go.Value.string { data := #[] })])⟩ := .mk' (by kernel_rfl)
instance : TyU Try.prog 160 (Go.TypeDesc.struct #[{ name := "_interface", type := 17, offset := 0, embedded := false, tag := "", pkgPath := "runtime", byteOffset := 0 }, { name := "concrete", type := 17, offset := 1, embedded := false, tag := "", pkgPath := "runtime", byteOffset := 8 }, { name := "asserted", type := 17, offset := 2, embedded := false, tag := "", pkgPath := "runtime", byteOffset := 16 }, { name := "missingMethod", type := 9, offset := 3, embedded := false, tag := "", pkgPath := "runtime", byteOffset := 24 }]) := ⟨Try.underlying160⟩
instance : TyP Try.prog 160 [(0, 1), (1, 1), (2, 1), (3, 1)] := ⟨_, Try.underlying160, fun w => by kernel_rfl⟩
instance : TyF Try.prog 160 0 0 := ⟨_, _, _, Try.underlying160, rfl, rfl, Try.sizeOf17⟩
instance : TyF Try.prog 160 1 1 := ⟨_, _, _, Try.underlying160, rfl, rfl, Try.sizeOf17⟩
instance : TyF Try.prog 160 2 2 := ⟨_, _, _, Try.underlying160, rfl, rfl, Try.sizeOf17⟩
instance : TyF Try.prog 160 3 3 := ⟨_, _, _, Try.underlying160, rfl, rfl, Try.sizeOf9⟩
instance : TyI Try.prog 160 ⟨4, 40, (Go.Value.agg #[(Go.Value.pointer none), (Go.Value.pointer none), (Go.Value.pointer none), (Go.Value.string { data := #[] })])⟩ := .mk' (by kernel_rfl)
instance : TyU Try.prog 161 (Go.TypeDesc.array 0 16) := ⟨Try.underlying161⟩
instance : TyI Try.prog 161 ⟨0, 0, (Go.Value.agg #[])⟩ := .mk' (by kernel_rfl)
instance : TyU Try.prog 162 (Go.TypeDesc.struct #[{ name := "_", type := 161, offset := 0, embedded := false, tag := "", pkgPath := "runtime", byteOffset := 0 }]) := ⟨Try.underlying162⟩
instance : TyP Try.prog 162 [(0, 0)] := ⟨_, Try.underlying162, fun w => by kernel_rfl⟩
instance : TyI Try.prog 162 ⟨0, 0, (Go.Value.agg #[])⟩ := .mk' (by kernel_rfl)
instance : TyU Try.prog 163 (Go.TypeDesc.struct #[{ name := "_", type := 161, offset := 0, embedded := false, tag := "", pkgPath := "runtime", byteOffset := 0 }]) := ⟨Try.underlying163⟩
instance : TyP Try.prog 163 [(0, 0)] := ⟨_, Try.underlying163, fun w => by kernel_rfl⟩
instance : TyI Try.prog 163 ⟨0, 0, (Go.Value.agg #[])⟩ := .mk' (by kernel_rfl)
instance : TyU Try.prog 164 (Go.TypeDesc.int Go.IntKind.u8) := ⟨Try.underlying164⟩
instance : TyI Try.prog 164 ⟨1, 1, (Go.Value.int Go.IntKind.u8 0)⟩ := .mk' (by kernel_rfl)
instance : TyU Try.prog 165 (Go.TypeDesc.int Go.IntKind.u8) := ⟨Try.underlying165⟩
instance : TyI Try.prog 165 ⟨1, 1, (Go.Value.int Go.IntKind.u8 0)⟩ := .mk' (by kernel_rfl)
instance : TyU Try.prog 166 (Go.TypeDesc.func #[172, 172] #[4] false) := ⟨Try.underlying166⟩
instance : TyI Try.prog 166 ⟨1, 8, Go.Value.nilFunc⟩ := .mk' (by kernel_rfl)
instance : TyU Try.prog 167 (Go.TypeDesc.pointer 5) := ⟨Try.underlying167⟩
instance : TyI Try.prog 167 ⟨1, 8, (Go.Value.pointer none)⟩ := .mk' (by kernel_rfl)
instance : TyU Try.prog 168 (Go.TypeDesc.int Go.IntKind.i32) := ⟨Try.underlying168⟩
instance : TyI Try.prog 168 ⟨1, 4, (Go.Value.int Go.IntKind.i32 0)⟩ := .mk' (by kernel_rfl)
instance : TyU Try.prog 169 (Go.TypeDesc.int Go.IntKind.i32) := ⟨Try.underlying169⟩
instance : TyI Try.prog 169 ⟨1, 4, (Go.Value.int Go.IntKind.i32 0)⟩ := .mk' (by kernel_rfl)
instance : TyU Try.prog 170 (Go.TypeDesc.struct #[{ name := "Size_", type := 12, offset := 0, embedded := false, tag := "", pkgPath := "", byteOffset := 0 }, { name := "PtrBytes", type := 12, offset := 1, embedded := false, tag := "", pkgPath := "", byteOffset := 8 }, { name := "Hash", type := 130, offset := 2, embedded := false, tag := "", pkgPath := "", byteOffset := 16 }, { name := "TFlag", type := 164, offset := 3, embedded := false, tag := "", pkgPath := "", byteOffset := 20 }, { name := "Align_", type := 5, offset := 4, embedded := false, tag := "", pkgPath := "", byteOffset := 21 }, { name := "FieldAlign_", type := 5, offset := 5, embedded := false, tag := "", pkgPath := "", byteOffset := 22 }, { name := "Kind_", type := 165, offset := 6, embedded := false, tag := "", pkgPath := "", byteOffset := 23 }, { name := "Equal", type := 166, offset := 7, embedded := false, tag := "", pkgPath := "", byteOffset := 24 }, { name := "GCData", type := 167, offset := 8, embedded := false, tag := "", pkgPath := "", byteOffset := 32 }, { name := "Str", type := 168, offset := 9, embedded := false, tag := "", pkgPath := "", byteOffset := 40 }, { name := "PtrToThis", type := 169, offset := 10, embedded := false, tag := "", pkgPath := "", byteOffset := 44 }]) := ⟨Try.underlying170⟩
instance : TyP Try.prog 170 [(0, 1), (1, 1), (2, 1), (3, 1), (4, 1), (5, 1), (6, 1), (7, 1), (8, 1), (9, 1), (10, 1)] := ⟨_, Try.underlying170, fun w => by kernel_rfl⟩
instance : TyF Try.prog 170 0 0 := ⟨_, _, _, Try.underlying170, rfl, rfl, Try.sizeOf12⟩
instance : TyF Try.prog 170 1 1 := ⟨_, _, _, Try.underlying170, rfl, rfl, Try.sizeOf12⟩
instance : TyF Try.prog 170 2 2 := ⟨_, _, _, Try.underlying170, rfl, rfl, Try.sizeOf130⟩
instance : TyF Try.prog 170 3 3 := ⟨_, _, _, Try.underlying170, rfl, rfl, Try.sizeOf164⟩
instance : TyF Try.prog 170 4 4 := ⟨_, _, _, Try.underlying170, rfl, rfl, Try.sizeOf5⟩
instance : TyF Try.prog 170 5 5 := ⟨_, _, _, Try.underlying170, rfl, rfl, Try.sizeOf5⟩
instance : TyF Try.prog 170 6 6 := ⟨_, _, _, Try.underlying170, rfl, rfl, Try.sizeOf165⟩
instance : TyF Try.prog 170 7 7 := ⟨_, _, _, Try.underlying170, rfl, rfl, Try.sizeOf166⟩
instance : TyF Try.prog 170 8 8 := ⟨_, _, _, Try.underlying170, rfl, rfl, Try.sizeOf167⟩
instance : TyF Try.prog 170 9 9 := ⟨_, _, _, Try.underlying170, rfl, rfl, Try.sizeOf168⟩
instance : TyF Try.prog 170 10 10 := ⟨_, _, _, Try.underlying170, rfl, rfl, Try.sizeOf169⟩
instance : TyI Try.prog 170 ⟨11, 48, (Go.Value.agg #[(Go.Value.int Go.IntKind.u64 0), (Go.Value.int Go.IntKind.u64 0), (Go.Value.int Go.IntKind.u32 0), (Go.Value.int Go.IntKind.u8 0), (Go.Value.int Go.IntKind.u8 0), (Go.Value.int Go.IntKind.u8 0), (Go.Value.int Go.IntKind.u8 0), Go.Value.nilFunc, (Go.Value.pointer none), (Go.Value.int Go.IntKind.i32 0), (Go.Value.int Go.IntKind.i32 0)])⟩ := .mk' (by kernel_rfl)
instance : TyU Try.prog 171 (Go.TypeDesc.struct #[{ name := "Size_", type := 12, offset := 0, embedded := false, tag := "", pkgPath := "", byteOffset := 0 }, { name := "PtrBytes", type := 12, offset := 1, embedded := false, tag := "", pkgPath := "", byteOffset := 8 }, { name := "Hash", type := 130, offset := 2, embedded := false, tag := "", pkgPath := "", byteOffset := 16 }, { name := "TFlag", type := 164, offset := 3, embedded := false, tag := "", pkgPath := "", byteOffset := 20 }, { name := "Align_", type := 5, offset := 4, embedded := false, tag := "", pkgPath := "", byteOffset := 21 }, { name := "FieldAlign_", type := 5, offset := 5, embedded := false, tag := "", pkgPath := "", byteOffset := 22 }, { name := "Kind_", type := 165, offset := 6, embedded := false, tag := "", pkgPath := "", byteOffset := 23 }, { name := "Equal", type := 166, offset := 7, embedded := false, tag := "", pkgPath := "", byteOffset := 24 }, { name := "GCData", type := 167, offset := 8, embedded := false, tag := "", pkgPath := "", byteOffset := 32 }, { name := "Str", type := 168, offset := 9, embedded := false, tag := "", pkgPath := "", byteOffset := 40 }, { name := "PtrToThis", type := 169, offset := 10, embedded := false, tag := "", pkgPath := "", byteOffset := 44 }]) := ⟨Try.underlying171⟩
instance : TyP Try.prog 171 [(0, 1), (1, 1), (2, 1), (3, 1), (4, 1), (5, 1), (6, 1), (7, 1), (8, 1), (9, 1), (10, 1)] := ⟨_, Try.underlying171, fun w => by kernel_rfl⟩
instance : TyF Try.prog 171 0 0 := ⟨_, _, _, Try.underlying171, rfl, rfl, Try.sizeOf12⟩
instance : TyF Try.prog 171 1 1 := ⟨_, _, _, Try.underlying171, rfl, rfl, Try.sizeOf12⟩
instance : TyF Try.prog 171 2 2 := ⟨_, _, _, Try.underlying171, rfl, rfl, Try.sizeOf130⟩
instance : TyF Try.prog 171 3 3 := ⟨_, _, _, Try.underlying171, rfl, rfl, Try.sizeOf164⟩
instance : TyF Try.prog 171 4 4 := ⟨_, _, _, Try.underlying171, rfl, rfl, Try.sizeOf5⟩
instance : TyF Try.prog 171 5 5 := ⟨_, _, _, Try.underlying171, rfl, rfl, Try.sizeOf5⟩
instance : TyF Try.prog 171 6 6 := ⟨_, _, _, Try.underlying171, rfl, rfl, Try.sizeOf165⟩
instance : TyF Try.prog 171 7 7 := ⟨_, _, _, Try.underlying171, rfl, rfl, Try.sizeOf166⟩
instance : TyF Try.prog 171 8 8 := ⟨_, _, _, Try.underlying171, rfl, rfl, Try.sizeOf167⟩
instance : TyF Try.prog 171 9 9 := ⟨_, _, _, Try.underlying171, rfl, rfl, Try.sizeOf168⟩
instance : TyF Try.prog 171 10 10 := ⟨_, _, _, Try.underlying171, rfl, rfl, Try.sizeOf169⟩
instance : TyI Try.prog 171 ⟨11, 48, (Go.Value.agg #[(Go.Value.int Go.IntKind.u64 0), (Go.Value.int Go.IntKind.u64 0), (Go.Value.int Go.IntKind.u32 0), (Go.Value.int Go.IntKind.u8 0), (Go.Value.int Go.IntKind.u8 0), (Go.Value.int Go.IntKind.u8 0), (Go.Value.int Go.IntKind.u8 0), Go.Value.nilFunc, (Go.Value.pointer none), (Go.Value.int Go.IntKind.i32 0), (Go.Value.int Go.IntKind.i32 0)])⟩ := .mk' (by kernel_rfl)
instance : TyU Try.prog 172 Go.TypeDesc.unsafePointer := ⟨Try.underlying172⟩
instance : TyI Try.prog 172 ⟨1, 8, (Go.Value.pointer none)⟩ := .mk' (by kernel_rfl)
instance : CallOk Try.prog 6 := ⟨Try.call6⟩
instance : CallOk Try.prog 8 := ⟨Try.call8⟩
instance : CallOk Try.prog 9 := ⟨Try.call9⟩
instance : CallOk Try.prog 10 := ⟨Try.call10⟩
instance : CallOk Try.prog 11 := ⟨Try.call11⟩
instance : CallOk Try.prog 12 := ⟨Try.call12⟩
instance : CallOk Try.prog 13 := ⟨Try.call13⟩
instance : CallOk Try.prog 14 := ⟨Try.call14⟩
instance : CallOk Try.prog 15 := ⟨Try.call15⟩
instance : CallOk Try.prog 16 := ⟨Try.call16⟩
instance : CallOk Try.prog 17 := ⟨Try.call17⟩
instance : CallOk Try.prog 18 := ⟨Try.call18⟩
instance : CallOk Try.prog 19 := ⟨Try.call19⟩
instance : CallOk Try.prog 20 := ⟨Try.call20⟩
instance : CallOk Try.prog 21 := ⟨Try.call21⟩
instance : CallOk Try.prog 22 := ⟨Try.call22⟩
instance : CallOk Try.prog 23 := ⟨Try.call23⟩
instance : CallOk Try.prog 24 := ⟨Try.call24⟩
instance : CallOk Try.prog 25 := ⟨Try.call25⟩
instance : CallOk Try.prog 26 := ⟨Try.call26⟩
instance : CallOk Try.prog 27 := ⟨Try.call27⟩
instance : CallOk Try.prog 28 := ⟨Try.call28⟩
instance : CallOk Try.prog 29 := ⟨Try.call29⟩
instance : CallOk Try.prog 31 := ⟨Try.call31⟩
instance : CallOk Try.prog 32 := ⟨Try.call32⟩
instance : CallOk Try.prog 33 := ⟨Try.call33⟩
instance : CallOk Try.prog 34 := ⟨Try.call34⟩
instance : CallOk Try.prog 35 := ⟨Try.call35⟩
instance : CallOk Try.prog 36 := ⟨Try.call36⟩
instance : CallOk Try.prog 37 := ⟨Try.call37⟩
instance : CallOk Try.prog 38 := ⟨Try.call38⟩
instance : CallOk Try.prog 39 := ⟨Try.call39⟩
instance : CallOk Try.prog 40 := ⟨Try.call40⟩
instance : CallOk Try.prog 41 := ⟨Try.call41⟩
instance : CallOk Try.prog 42 := ⟨Try.call42⟩
instance : CallOk Try.prog 43 := ⟨Try.call43⟩
instance : CallOk Try.prog 44 := ⟨Try.call44⟩
instance : CallOk Try.prog 45 := ⟨Try.call45⟩
instance : CallOk Try.prog 46 := ⟨Try.call46⟩
instance : CallOk Try.prog 47 := ⟨Try.call47⟩
instance : CallOk Try.prog 48 := ⟨Try.call48⟩
instance : CallOk Try.prog 49 := ⟨Try.call49⟩
instance : CallOk Try.prog 50 := ⟨Try.call50⟩
instance : CallOk Try.prog 51 := ⟨Try.call51⟩
instance : CallOk Try.prog 52 := ⟨Try.call52⟩
instance : CallOk Try.prog 53 := ⟨Try.call53⟩
instance : CallOk Try.prog 54 := ⟨Try.call54⟩
instance : CallOk Try.prog 55 := ⟨Try.call55⟩
instance : CallOk Try.prog 56 := ⟨Try.call56⟩
instance : CallOk Try.prog 57 := ⟨Try.call57⟩
instance : CallOk Try.prog 58 := ⟨Try.call58⟩
instance : CallOk Try.prog 59 := ⟨Try.call59⟩
instance : CallOk Try.prog 60 := ⟨Try.call60⟩
instance : CallOk Try.prog 61 := ⟨Try.call61⟩
instance : CallOk Try.prog 62 := ⟨Try.call62⟩
instance : CallOk Try.prog 63 := ⟨Try.call63⟩
instance : CallOk Try.prog 64 := ⟨Try.call64⟩
instance : CallOk Try.prog 65 := ⟨Try.call65⟩
instance : CallOk Try.prog 66 := ⟨Try.call66⟩
instance : CallOk Try.prog 67 := ⟨Try.call67⟩
instance : CallOk Try.prog 68 := ⟨Try.call68⟩
instance : CallOk Try.prog 69 := ⟨Try.call69⟩
instance : CallOk Try.prog 70 := ⟨Try.call70⟩
instance : CallOk Try.prog 71 := ⟨Try.call71⟩
instance : CallOk Try.prog 72 := ⟨Try.call72⟩
instance : CallOk Try.prog 73 := ⟨Try.call73⟩
instance : CallOk Try.prog 74 := ⟨Try.call74⟩
instance : CallOk Try.prog 75 := ⟨Try.call75⟩
instance : CallOk Try.prog 76 := ⟨Try.call76⟩
instance : CallOk Try.prog 77 := ⟨Try.call77⟩
instance : CallOk Try.prog 78 := ⟨Try.call78⟩
instance : CallOk Try.prog 79 := ⟨Try.call79⟩
instance : CallOk Try.prog 80 := ⟨Try.call80⟩
instance : CallOk Try.prog 81 := ⟨Try.call81⟩
instance : CallOk Try.prog 82 := ⟨Try.call82⟩
instance : CallOk Try.prog 83 := ⟨Try.call83⟩
instance : CallOk Try.prog 84 := ⟨Try.call84⟩
instance : CallOk Try.prog 85 := ⟨Try.call85⟩
instance : CallOk Try.prog 86 := ⟨Try.call86⟩
instance : CallOk Try.prog 87 := ⟨Try.call87⟩
instance : CallOk Try.prog 88 := ⟨Try.call88⟩
instance : CallOk Try.prog 89 := ⟨Try.call89⟩
instance : CallOk Try.prog 90 := ⟨Try.call90⟩
instance : CallOk Try.prog 91 := ⟨Try.call91⟩
instance : CallOk Try.prog 92 := ⟨Try.call92⟩
instance : CallOk Try.prog 93 := ⟨Try.call93⟩
instance : CallOk Try.prog 94 := ⟨Try.call94⟩
instance : CallOk Try.prog 95 := ⟨Try.call95⟩
instance : CallOk Try.prog 96 := ⟨Try.call96⟩
instance : CallOk Try.prog 97 := ⟨Try.call97⟩
instance : CallOk Try.prog 98 := ⟨Try.call98⟩
instance : CallOk Try.prog 99 := ⟨Try.call99⟩
instance : CallOk Try.prog 100 := ⟨Try.call100⟩
instance : CallOk Try.prog 101 := ⟨Try.call101⟩
instance : CallOk Try.prog 102 := ⟨Try.call102⟩
instance : CallOk Try.prog 103 := ⟨Try.call103⟩
instance : CallOk Try.prog 104 := ⟨Try.call104⟩
end VK

namespace VK
open Go Go.ChangeShapes Go.RowKit
def base (W : World) : Atom := fun h => ∀ b o, W.heap[b]? = some o → h b = some o
theorem st_base (W : World) : St W [base W] W := ⟨rfl, rfl, rfl, fun b => W.heap[b]?, fun _ => none, ⟨fun _ => .inr rfl, fun _ _ e => e, fun _ _ e => (by cases e)⟩, fun _ _ e => e, trivial⟩
theorem base_heap {W W' : World} {L : List Atom} (hs : St W (base W :: L) W') : ∀ (b : Nat) (o : Obj), W.heap[b]? = some o → W'.heap[b]? = some o := fun b o e => by
  obtain ⟨h1, h2, ⟨_, i1, _⟩, ha, _⟩ := hs.heap
  exact i1 b o (ha b o e)
theorem below_of {W W' : World} {L : List Atom} (hs : St W (base W :: L) W') : Below W.heap.size W W' := by
  have hh := base_heap hs
  refine ⟨hs.os, hs.tape, hs.output, ?_, fun k hk => ?_⟩
  · by_cases h0 : W.heap.size = 0
    · omega
    · have := hh (W.heap.size - 1) (W.heap[W.heap.size - 1]'(by omega)) (by simp)
      have := (Array.getElem?_eq_some_iff.1 this).1
      omega
  · have e : W.heap[k]? = some W.heap[k] := by simp [hk]
    rw [e]
    exact hh k _ e
theorem rd_base {W : World} {v : Value} {r : Row} (h : RdW W v r) : Rd [base W] v r := ⟨fun W0 w hs => by
  have hh : ∀ (b : Nat) (o : Obj), W.heap[b]? = some o → w.heap[b]? = some o := fun b o e => by
    obtain ⟨h1, h2, ⟨_, i1, _⟩, ha, _⟩ := hs.heap
    exact i1 b o (ha b o e)
  unfold RdW at h ⊢
  obtain ⟨h1, h2, a, cap, h3, h4, h5, h6⟩ := h
  refine ⟨h1, h2, a, cap, h3, h4, h5, h6.imp id ?_⟩
  rintro ⟨b, o, rfl, hc⟩
  refine ⟨b, o, rfl, fun j u hj => ?_⟩
  have := hc j u hj
  simp only [World.cell?] at this ⊢
  cases hb : W.heap[b]? with
  | none => rw [hb] at this; cases this
  | some x => rw [hb] at this; rw [hh b x hb]; exact this⟩
theorem law_calls {P : Program} {f : FuncId} {args : List Value} {W : World} (h : Fn P f args [base W] fun v L' => v = .bool true ∧ L' = [base W]) :
    Calls P f args.toArray W fun e W' => e = .returned (.bool true) ∧ Below W.heap.size W W' := by
  unfold Fn at h
  refine (h W W (st_base W)).mono ?_
  rintro e W' ⟨v, L', rfl, ⟨rfl, rfl⟩, hs⟩
  exact ⟨rfl, below_of hs⟩
section
variable {H : Type} {enc : TypeId × Value → H} {P : Program}
theorem trodAll_below (hl : laidOutB P = true) {W W' : World} (hb : Below W.heap.size W W') : ∀ {ts : List TypeId} {vs : List Value} {ds : List (DataW H)} {ps : List MemPlace}, ts.all (fun t => P.readableRec t && decide (t < P.types.size)) = true →
    DataW.TrodAll enc P W 0 (fun _ => true) true ts vs ds ps → (∀ x ∈ ps, x.block < W.heap.size) → DataW.TrodAll enc P W' 0 (fun b => decide (b < W.heap.size)) true ts vs ds ps
  | [], [], [], _, _, h, _ => h
  | t :: ts, v :: vs, d :: ds, ps, hr, h, hlt => by
    obtain ⟨p, q, h1, h2, rfl⟩ := h
    simp only [List.all_cons, Bool.and_eq_true, decide_eq_true_eq] at hr
    exact ⟨p, q, Below.trod hl hr.1.1 hr.1.2 h1 hb (fun x hx => hlt x (List.mem_append_left _ hx)), trodAll_below hl hb hr.2 h2 (fun x hx => hlt x (List.mem_append_right _ hx)), rfl⟩
  | [], _ :: _, _, _, _, h, _ => h.elim
  | [], [], _ :: _, _, _, h, _ => h.elim
  | _ :: _, [], _, _, _, h, _ => h.elim
  | _ :: _, _ :: _, [], _, _, h, _ => h.elim
theorem law_post {f : Func} {s : ChangeSpec} {apart fresh handsOn : Bool} {W W' : World} {args : Array Value} {ds gs : List (DataW H)} {before : List MemPlace} {tb : TypeId}
    (hW : DataW.Whole enc P f.params.toList s.vars apart W args.toList ds gs before) (hb : Below W.heap.size W W') (hl : laidOutB P = true) (hr : f.params.toList.all (fun t => P.readableRec t && decide (t < P.types.size)) = true)
    (hv : s.vars = []) (hres : f.resultTypes = #[tb]) (htb : P.underlying tb = some .bool) (hs1 : (s.fn H (ds ++ [])).results = [.lit (.bool true)]) (hs2 : (s.fn H (ds ++ [])).args = ds) (hs3 : (s.fn H (ds ++ [])).vars = []) :
    s.post enc P f apart fresh handsOn false W args (.bool true) W' := by
  have hW' := hW
  obtain ⟨p, q, hA, hV, hps, hfz, hnd⟩ := hW
  have hq : gs = [] ∧ q = [] := by
    rw [hv] at hV
    cases gs with
    | nil => exact ⟨rfl, hV⟩
    | cons => exact hV.elim
  obtain ⟨rfl, rfl⟩ := hq
  have hlt : ∀ x ∈ p, x.block < W.heap.size := fun x hx => hW'.lt x (by rw [hps]; exact List.mem_append_left _ hx)
  refine ⟨ds, [], before, [], p, [], hW', ?_, ?_, ?_, Below.frame hb _, fun h => by cases h⟩
  · rw [hs1, hres]
    exact trodAll_cons_mk (shut_bool htb _) trodAll_mk0
  · rw [hs2]
    exact trodAll_below hl hb hr hA hlt
  · rw [hs3, hv]
    rfl
end
class BulkC (B : {H : Type} → DataW H → Nat) (BA : {H : Type} → List (DataW H) → Nat) : Prop where
  str : ∀ {H : Type} (b : List UInt8), B (H := H) (.lit (.string b)) = b.length + 1
  lit : ∀ {H : Type} (l : Lit), 1 ≤ B (H := H) (.lit l)
  dnil : ∀ {H : Type}, B (H := H) .nil = 1
  ptr : ∀ {H : Type} (d : DataW H), B (.ptr d) = B d + 1
  slice : ∀ {H : Type} (e s : List (DataW H)), B (.slice e s) = BA e + BA s + 1
  agg : ∀ {H : Type} (p : List (DataW H)), B (.agg p) = BA p + 1
  nil : ∀ {H : Type}, BA (H := H) [] = 0
  cons : ∀ {H : Type} (d : DataW H) (r : List (DataW H)), BA (d :: r) = B d + BA r
structure Dec (B : {H : Type} → DataW H → Nat) (P : Program) (W : World) (t : TypeId) {α : Type} (f : α → List Value) (n : Nat) (good : α → Prop) (wt : α → Nat) : Prop where
  size : P.cellsOf t = n
  len : ∀ a, (f a).length = n
  one : ∀ a, good a → ∀ u ∈ f a, u.oneCell' = true
  dec : ∀ {H : Type} (enc : TypeId × Value → H) (fuel : Nat) (cs : List Value) (x : DataW H × List MemPlace), DataW.trod enc P W 0 (fun _ => true) true fuel t cs = some x → ∃ a, cs = f a ∧ good a ∧ wt a ≤ B x.1
section
variable {B : {H : Type} → DataW H → Nat} {BA : {H : Type} → List (DataW H) → Nat} (bc : BulkC B BA) {P : Program} {W : World} {t e : TypeId}
include bc
theorem Dec.int {k : IntKind} (ht : P.underlying t = some (.int k)) (hs : P.cellsOf t = 1) : Dec B P W t (fun z : Int => [.int k z]) 1 (inR k) (fun _ => 1) where
  size := hs
  len _ := rfl
  one _ _ u hu := by simp at hu; subst hu; rfl
  dec enc fuel cs x h := by
    obtain ⟨n, rfl, rfl, hw⟩ := DataW.trod_int ht h
    refine ⟨n, rfl, ?_, bc.lit _⟩
    simp only [Lit.wf, Bool.and_eq_true, decide_eq_true_eq] at hw
    cases k <;> simp [IntKind.min, IntKind.max, IntKind.bits, IntKind.signed] at hw <;> simp only [inR] <;> omega
theorem Dec.bool (ht : P.underlying t = some .bool) (hs : P.cellsOf t = 1) : Dec B P W t (fun b : Bool => [.bool b]) 1 (fun _ => True) (fun _ => 1) where
  size := hs
  len _ := rfl
  one _ _ u hu := by simp at hu; subst hu; rfl
  dec enc fuel cs x h := by
    obtain ⟨b, rfl, rfl⟩ := DataW.trod_bool ht h
    exact ⟨b, rfl, trivial, bc.lit _⟩
theorem Dec.str (ht : P.underlying t = some .string) (hs : P.cellsOf t = 1) : Dec B P W t (fun l : List UInt8 => [str l]) 1 (fun l => l.length ≤ maxLen) (fun l => l.length + 1) where
  size := hs
  len _ := rfl
  one _ _ u hu := by simp at hu; subst hu; rfl
  dec enc fuel cs x h := by
    obtain ⟨s, rfl, rfl, hm⟩ := DataW.trod_string ht h
    have hl : s.data.toList.length = s.size := by rw [Array.length_toList]; rfl
    refine ⟨s.data.toList, by simp [VK.str], by rw [hl]; exact hm, by rw [bc.str]; exact Nat.le_refl _⟩
theorem bulk_app {H : Type} (l m : List (DataW H)) : BA (l ++ m) = BA l + BA m := by
  induction l with
  | nil => simp [bc.nil]
  | cons d l ih => simp [bc.cons, ih]; omega
omit bc in
theorem RdW.mk {v : Value} {r : Row} (h1 : r.xs.length = r.n * r.sz) (h2 : ∀ u ∈ r.xs, u.oneCell' = true) (h3 : ∃ a cap, v = .slice a r.n cap ∧ r.n ≤ cap ∧ cap ≤ maxLen ∧
    (r.xs = [] ∨ ∃ b o, a = some ⟨b, o, none⟩ ∧ ∀ j u, r.xs[j]? = some u → W.cell? ⟨b, o + j, none⟩ = some u)) : RdW W v r := by
  unfold RdW
  exact ⟨h1, h2, h3⟩
theorem Dec.slice {β : Type} {g : β → List Value} {n : Nat} {good : β → Prop} {w : β → Nat} (ht : P.underlying t = some (.slice e)) (hs : P.cellsOf t = 1) (hn : 0 < n) (D : Dec B P W e g n good w) :
    Dec B P W t (fun p : Value × List β => [p.1]) 1 (fun p => RdW W p.1 (frow g n e p.2) ∧ ∀ b ∈ p.2, good b) (fun p => (p.2.map w).sum + 1) where
  size := hs
  len _ := rfl
  one a ha u hu := by
    simp at hu; subst hu
    have := ha.1
    unfold RdW at this
    obtain ⟨_, _, a', cap, h, _⟩ := this
    rw [h]; rfl
  dec enc fuel cs x h := by
    rcases DataW.trod_slice ht h with ⟨rfl, rfl⟩ | ⟨a, len, cap, elems, rest, m, rfl, rfl, rfl, _, hlc, hcm, hel, hx, _, _⟩
    · refine ⟨(.slice none 0 0, []), rfl, ⟨RdW.mk (by simp [frow]) (by simp [frow]) ⟨none, 0, rfl, by simp [frow], by simp [maxLen], .inl (by simp [frow])⟩, by simp⟩, ?_⟩
      rw [bc.dnil]; simp
    · have key : ∀ k, k ≤ len → ∃ l : List β, l.length = k ∧ (∀ i (hi : i < l.length), good l[i] ∧ W.cells? 0 (a.add (i * P.cellsOf e)) (P.cellsOf e) = some (g l[i])) ∧ (l.map w).sum ≤ BA ((elems.take k).map (·.1)) := by
        intro k
        induction k with
        | zero => intro _; exact ⟨[], rfl, fun i hi => absurd hi (by simp), by simp⟩
        | succ k ih =>
          intro hk
          obtain ⟨l, hl, h1, h2⟩ := ih (by omega)
          have hk' : k < elems.length := by omega
          have hxk := hx k (by omega)
          rw [List.getElem?_eq_getElem hk'] at hxk
          cases hc : W.cells? 0 (a.add (k * P.cellsOf e)) (P.cellsOf e) with
          | none => rw [hc] at hxk; simp at hxk
          | some cs =>
            rw [hc] at hxk
            obtain ⟨b, rfl, hg, hw⟩ := D.dec enc m cs _ hxk
            refine ⟨l ++ [b], by simp [hl], fun i hi => ?_, ?_⟩
            · by_cases hik : i < l.length
              · rw [List.getElem_append_left hik]; exact h1 i hik
              · have : i = k := by simp at hi; omega
                subst this
                rw [List.getElem_append_right (by omega)]
                simp only [show i - l.length = 0 by omega, List.getElem_singleton]
                exact ⟨hg, hc⟩
            · rw [List.take_succ_eq_append_getElem hk']
              simp only [List.map_append, bulk_app bc, List.sum_append, List.map_cons, List.map_nil, List.sum_cons, List.sum_nil, bc.cons, bc.nil]
              omega
      obtain ⟨l, hl, h1, h2⟩ := key len (Nat.le_refl _)
      have hsz := D.size
      rw [hsz] at h1
      have hflen : ∀ l : List β, (l.flatMap g).length = l.length * n := by
        intro l
        induction l with
        | nil => simp
        | cons b l ih => simp [ih, D.len, Nat.add_mul]; omega
      refine ⟨(.slice (some a) len cap, l), rfl, ⟨RdW.mk ?_ ?_ ⟨some a, cap, by simp [frow, hl], by simp [frow, hl]; exact hlc, hcm, ?_⟩, fun b hb => ?_⟩, ?_⟩
      · simp [frow, hflen]
      · intro u hu
        simp only [frow, List.mem_flatMap] at hu
        obtain ⟨b, hb, hu⟩ := hu
        obtain ⟨i, hi, rfl⟩ := List.getElem_of_mem hb
        exact D.one _ (h1 i hi).1 u hu
      · by_cases h0 : l = []
        · left; simp [frow, h0]
        · right
          have hl0 : 0 < l.length := List.length_pos_iff.2 h0
          have hcell : ∀ i (hi : i < l.length) r, r < n → W.cell? ((a.add (i * n)).add r) = (g l[i])[r]? := fun i hi r hr => (World.cells?_some (h1 i hi).2).2.2 r hr
          have hspot : a.spot = none := by
            have := hcell 0 hl0 0 hn
            simp only [Nat.zero_mul, Addr.add, if_true] at this
            have hg0 : (g l[0])[0]? ≠ none := by simp [D.len]; omega
            rw [← this] at hg0
            unfold World.cell? at hg0
            split at hg0
            · cases hsp : a.spot with
              | none => rfl
              | some s => rw [hsp] at hg0; simp at hg0
            · exact absurd rfl hg0
          refine ⟨a.block, a.off, by cases a; simp at hspot; subst hspot; rfl, fun j u hj => ?_⟩
          simp only [frow] at hj
          have hjl : j < l.length * n := by rw [← hflen]; exact (List.getElem?_eq_some_iff.1 hj).1
          have hi : j / n < l.length := (Nat.div_lt_iff_lt_mul hn).2 hjl
          have hr : j % n < n := Nat.mod_lt _ hn
          haveI : Inhabited β := ⟨l[0]⟩
          have hat := flatMap_at D.len hi (j % n) ((g l[j / n])[j % n]'(by rw [D.len]; exact hr)) (by
            rw [show l.getD (j / n) default = l[j / n] by simp [hi]]; simp [D.len, hr])
          have hj2 : j / n * n + j % n = j := Nat.div_add_mod' j n
          rw [hj2, hj] at hat
          cases hat
          have hc := hcell (j / n) hi (j % n) hr
          rw [List.getElem?_eq_getElem (by rw [D.len]; exact hr)] at hc
          rw [← hc]
          congr 1
          obtain ⟨ab, ao, asp⟩ := a
          simp only at hspot
          subst hspot
          have hadd : ∀ (o q : Nat), (⟨ab, o, none⟩ : Addr).add q = ⟨ab, o + q, none⟩ := fun o q => add_at ab o q
          rw [hadd, hadd, Nat.add_assoc, hj2]
      · obtain ⟨i, hi, rfl⟩ := List.getElem_of_mem hb
        exact (h1 i hi).1
      · rw [bc.slice]
        rw [List.take_of_length_le (by omega)] at h2
        simp only
        omega
omit bc in
theorem Dec.map {α β : Type} {f : α → List Value} {f' : β → List Value} {n : Nat} {good : α → Prop} {good' : β → Prop} {w : α → Nat} {w' : β → Nat} (φ : α → β) (D : Dec B P W t f n good w) (hl : ∀ b, (f' b).length = n) (h1 : ∀ b, good' b → ∀ u ∈ f' b, u.oneCell' = true)
    (hf : ∀ a, good a → f a = f' (φ a)) (hg : ∀ a, good a → good' (φ a)) (hw : ∀ a, w' (φ a) ≤ w a) : Dec B P W t f' n good' w' where
  size := D.size
  len := hl
  one := h1
  dec enc fuel cs x h := by
    obtain ⟨a, rfl, h2, h3⟩ := D.dec enc fuel cs x h
    exact ⟨φ a, hf a h2, hg a h2, Nat.le_trans (hw a) h3⟩
end
structure DecF (B : {H : Type} → DataW H → Nat) (BA : {H : Type} → List (DataW H) → Nat) (P : Program) (W : World) (fs : List Field) (off : Nat) {α : Type} (f : α → List Value) (n : Nat) (good : α → Prop) (wt : α → Nat) : Prop where
  len : ∀ a, (f a).length = n
  one : ∀ a, good a → ∀ u ∈ f a, u.oneCell' = true
  dec : ∀ {H : Type} (enc : TypeId × Value → H) (m : Nat) (cs : List Value) (xs : List (DataW H × List MemPlace)), cs.length = off + n → xs.length = fs.length →
    (∀ (i : Nat) (fld : Field), fs[i]? = some fld → DataW.trod enc P W 0 (fun _ => true) true m fld.type ((cs.drop fld.offset).take (P.cellsOf fld.type)) = xs[i]?) → ∃ a, cs.drop off = f a ∧ good a ∧ wt a ≤ BA (xs.map (·.1))
section
variable {B : {H : Type} → DataW H → Nat} {BA : {H : Type} → List (DataW H) → Nat} (bc : BulkC B BA) {P : Program} {W : World} {t e : TypeId}
theorem DecF.nil {off : Nat} : DecF B BA P W [] off (fun _ : Unit => []) 0 (fun _ => True) (fun _ => 0) where
  len _ := rfl
  one _ _ u hu := by cases hu
  dec enc m cs xs hl _ _ := ⟨(), List.drop_eq_nil_of_le (by omega), trivial, Nat.zero_le _⟩
include bc
theorem DecF.cons {fld : Field} {fs : List Field} {off : Nat} {α β : Type} {g : α → List Value} {f : β → List Value} {k n : Nat} {good : α → Prop} {good' : β → Prop} {w : α → Nat} {w' : β → Nat} (ho : fld.offset = off) (D : Dec B P W fld.type g k good w) (F : DecF B BA P W fs (off + k) f n good' w') :
    DecF B BA P W (fld :: fs) off (fun p : α × β => g p.1 ++ f p.2) (k + n) (fun p => good p.1 ∧ good' p.2) (fun p => w p.1 + w' p.2) where
  len p := by rw [List.length_append, D.len, F.len]
  one p hp u hu := by
    rcases List.mem_append.1 hu with hu | hu
    · exact D.one _ hp.1 u hu
    · exact F.one _ hp.2 u hu
  dec {H} enc m cs xs hl hx h := by
    cases xs with
    | nil => simp at hx
    | cons x xs =>
      have h0 := h 0 fld rfl
      rw [ho, D.size] at h0
      obtain ⟨a, ha, hg, hw⟩ := D.dec enc m _ x (by simpa using h0)
      obtain ⟨b, hb, hg', hw'⟩ := F.dec enc m cs xs (by omega) (by simpa using hx) fun i f' hf' => by simpa using h (i + 1) f' (by simpa using hf')
      refine ⟨(a, b), ?_, ⟨hg, hg'⟩, ?_⟩
      · rw [← ha, ← hb, ← List.drop_drop]
        exact (List.take_append_drop k _).symm
      · simp only [List.map_cons, bc.cons]
        omega
theorem Dec.struct {fs : Array Field} {α : Type} {f : α → List Value} {n : Nat} {good : α → Prop} {w : α → Nat} (ht : P.underlying t = some (.struct fs)) (hs : P.cellsOf t = n) (F : DecF B BA P W fs.toList 0 f n good w) : Dec B P W t f n good (fun a => w a + 1) where
  size := hs
  len := F.len
  one := F.one
  dec {H} enc fuel cs x h := by
    obtain ⟨xs, m, rfl, rfl, hl, hxl, hx⟩ := DataW.trod_struct ht h
    obtain ⟨a, ha, hg, hw⟩ := F.dec enc m cs xs (by omega) (by simpa using hxl) fun i fld hf => hx i fld (by simpa using hf)
    refine ⟨a, by simpa using ha, hg, ?_⟩
    rw [bc.agg]
    omega
end
end VK

namespace VK
open Go Go.Proofs Go.WideShapes
set_option linter.unusedSimpArgs false
set_option linter.unusedVariables false
set_option maxRecDepth 100000
set_option maxHeartbeats 40000000
theorem bulkC : BulkC (fun {H} => @Go.Proofs.Ytafofdcccmidmaa.Rows.uptoBulk H) (fun {H} => @Go.Proofs.Ytafofdcccmidmaa.Rows.uptoBulkAll H) where
  str _ := rfl
  lit l := by cases l <;> first | exact Nat.le_refl _ | exact Nat.succ_le_succ (Nat.zero_le _)
  dnil := rfl
  ptr _ := rfl
  slice _ _ := rfl
  agg _ := rfl
  nil := rfl
  cons _ _ := rfl
theorem frow_one {α : Type} {f : α → Value} {e : TypeId} (l : List α) : frow (fun b => [f b]) 1 e l = mrow f e l := by
  unfold frow mrow
  congr 1
  induction l with
  | nil => rfl
  | cons a l ih => simp only [List.flatMap_cons, List.map_cons, ih, List.singleton_append]
section
variable {H : Type} {enc : TypeId × Value → H} {W : World} {bs : Nat} {v : Value} {d : DataW H} {p : List MemPlace} {t e : TypeId}
theorem openSl {α : Type} {g : α → List Value} {n : Nat} {good : α → Prop} {wt : α → Nat} (tu : Try.prog.underlying t = some (.slice e)) (hs : Try.prog.cellsOf t = 1) (hn : 0 < n) (D : Dec (fun {H} => @Go.Proofs.Ytafofdcccmidmaa.Rows.uptoBulk H) Try.prog W e g n good wt)
    (hv : Value.okWide Try.prog W .any bs t v) (h : DataW.Trod enc Try.prog W 0 (fun _ => true) true t v d p) :
    ∃ l, Rd [base W] v (frow g n e l) ∧ (∀ a ∈ l, good a) ∧ (l.map wt).sum + 1 ≤ Go.Proofs.Ytafofdcccmidmaa.Rows.uptoBulk d := by
  obtain ⟨fuel, h⟩ := h
  obtain ⟨⟨u, l⟩, hc, ⟨hrd, hok⟩, hw⟩ := (Dec.slice bulkC tu hs hn D).dec enc fuel _ _ h
  obtain ⟨a0, n0, c0, rfl⟩ := okWide_slice tu hv
  obtain rfl : Value.slice a0 n0 c0 = u := by simpa [Value.cells] using hc
  exact ⟨l, rd_base hrd, hok, hw⟩
end
theorem le_sum {α : Type} {f : α → Nat} {l : List α} {a : α} (h : a ∈ l) : f a ≤ (l.map f).sum := by
  induction l with
  | nil => cases h
  | cons b l ih =>
    simp only [List.map_cons, List.sum_cons]
    rcases List.mem_cons.1 h with rfl | h
    · omega
    · have := ih h; omega
end VK

namespace VK
open Go Go.Proofs
set_option linter.unusedSimpArgs false
set_option linter.unusedVariables false
set_option maxRecDepth 100000
set_option maxHeartbeats 40000000
section
variable {c : Cx} {k : List KI} {E : Env} {L : List Atom} {all rest : List Oper} {d : Nat} {ty : TypeId} {pos : String} {aft : Array Edge}
end
end VK

namespace VK
open Go Go.Proofs
set_option linter.unusedSimpArgs false
set_option linter.unusedVariables false
set_option maxRecDepth 100000
set_option maxHeartbeats 40000000
end VK

namespace VK
open Go Go.Proofs
set_option linter.unusedSimpArgs false
set_option linter.unusedVariables false
set_option maxRecDepth 100000
set_option maxHeartbeats 40000000
end VK

namespace VK
open Go Go.Proofs
set_option linter.unusedSimpArgs false
set_option linter.unusedVariables false
set_option maxRecDepth 100000
set_option maxHeartbeats 40000000
theorem Fn.post {P : Program} {f : FuncId} {args : List Value} {L : List Atom} {R R' : Value → List Atom → Prop} (h : Fn P f args L R) (hr : ∀ v L', R v L' → ∃ L'', Ent L' L'' ∧ R' v L'') : Fn P f args L R' := by
  unfold Fn at *
  intro W0 w hs
  refine (h W0 w hs).mono ?_
  rintro e w' ⟨v, L', rfl, hR, hS⟩
  obtain ⟨L'', h1, h2⟩ := hr v L' hR
  exact ⟨v, L'', rfl, h2, hS.ent h1⟩
end VK

namespace VK
open Go Go.Proofs
set_option linter.unusedSimpArgs false
set_option linter.unusedVariables false
set_option maxRecDepth 100000
set_option maxHeartbeats 40000000
end VK

namespace VK
open Go Go.Proofs
set_option linter.unusedSimpArgs false
set_option linter.unusedVariables false
set_option maxRecDepth 100000
set_option maxHeartbeats 40000000
structure OpS where
  kind : Int
  path : List UInt8
  to_ : List UInt8
  data : List UInt8
  at_ : Int
  size : Int
  deriving DecidableEq, Inhabited
def opSC (a : OpS) : List Value := [.int .i64 a.kind, str a.path, str a.to_, str a.data, .int .i64 a.at_, .int .i64 a.size]
instance (L : List Atom) (a : OpS) : AllOne L (opSC a) := ⟨fun _ _ _ u hu => by
  simp only [opSC, List.mem_cons, List.mem_append, List.not_mem_nil, or_false] at hu
  rcases hu with rfl | rfl | rfl | rfl | rfl | rfl <;> rfl⟩
instance : LenC opSC 6 := ⟨fun _ => rfl⟩
instance : TyC Try.prog 48 opSC := ⟨trivial⟩
def OpS.ok (a : OpS) : Prop := inR .i64 a.kind ∧ a.path.length ≤ maxLen ∧ a.to_.length ≤ maxLen ∧ a.data.length ≤ maxLen ∧ inR .i64 a.at_ ∧ inR .i64 a.size
def OpS.wt (a : OpS) : Nat := 1 + (a.path.length + 1) + (a.to_.length + 1) + (a.data.length + 1) + 1 + 1 + 1
instance (a : OpS) (v : Int) : SetF opSC a 0 (.int .i64 v) { a with kind := v } := ⟨rfl⟩
instance (a : OpS) (v : Value) (l : List UInt8) [h : AsStr v l] : SetF opSC a 1 v { a with path := l } := ⟨by rw [h.h]; rfl⟩
instance (a : OpS) (v : Value) (l : List UInt8) [h : AsStr v l] : SetF opSC a 2 v { a with to_ := l } := ⟨by rw [h.h]; rfl⟩
instance (a : OpS) (v : Value) (l : List UInt8) [h : AsStr v l] : SetF opSC a 3 v { a with data := l } := ⟨by rw [h.h]; rfl⟩
instance (a : OpS) (v : Int) : SetF opSC a 4 (.int .i64 v) { a with at_ := v } := ⟨rfl⟩
instance (a : OpS) (v : Int) : SetF opSC a 5 (.int .i64 v) { a with size := v } := ⟨rfl⟩
instance (x0 : Int) (x1 : Value) (y1 : List UInt8) [h1 : AsStr x1 y1] (x2 : Value) (y2 : List UInt8) [h2 : AsStr x2 y2] (x3 : Value) (y3 : List UInt8) [h3 : AsStr x3 y3] (x4 : Int) (x5 : Int) : OfC opSC [.int .i64 x0, x1, x2, x3, .int .i64 x4, .int .i64 x5] ⟨x0, y1, y2, y3, x4, x5⟩ := ⟨by rw [h1.h, h2.h, h3.h]; rfl⟩
theorem opSC_ext (a b : OpS) : (a.kind = b.kind ∧ a.path = b.path ∧ a.to_ = b.to_ ∧ a.data = b.data ∧ a.at_ = b.at_ ∧ a.size = b.size ∧ True) ↔ a = b := by
  cases a; cases b; simp
instance : EqS Try.prog 48 opSC := ⟨fun d a b w => by
  have h := run_equalIn_struct (P := Try.prog) w (d + 7) 48 (opSC a).toArray (opSC b).toArray (by kernel_rfl) (by kernel_rfl)
  rw [show (agg (opSC a)) = .agg (opSC a).toArray from rfl, show (agg (opSC b)) = .agg (opSC b).toArray from rfl, h, show (Try.prog.fieldsOf 48).toList = [{ name := "Kind", type := 3, offset := 0, embedded := false, tag := "", pkgPath := "", byteOffset := 0 }, { name := "Path", type := 9, offset := 1, embedded := false, tag := "", pkgPath := "", byteOffset := 8 }, { name := "To", type := 9, offset := 2, embedded := false, tag := "", pkgPath := "", byteOffset := 24 }, { name := "Data", type := 9, offset := 3, embedded := false, tag := "", pkgPath := "", byteOffset := 40 }, { name := "At", type := 3, offset := 4, embedded := false, tag := "", pkgPath := "", byteOffset := 56 }, { name := "Size", type := 3, offset := 5, embedded := false, tag := "", pkgPath := "", byteOffset := 64 }] from by kernel_rfl]
  refine Eq.trans (b := .ok (decide (a.kind = b.kind ∧ a.path = b.path ∧ a.to_ = b.to_ ∧ a.data = b.data ∧ a.at_ = b.at_ ∧ a.size = b.size ∧ True)) w) ?_ (by congr 1; exact decide_eq_decide.2 (opSC_ext a b))
  refine eqF_cons (by decide) (part_one rfl rfl) (part_one rfl rfl) (eq_int _ _ _ w) ?_
  refine eqF_cons (by decide) (part_one rfl rfl) (part_one rfl rfl) (eq_str _ _ _ w) ?_
  refine eqF_cons (by decide) (part_one rfl rfl) (part_one rfl rfl) (eq_str _ _ _ w) ?_
  refine eqF_cons (by decide) (part_one rfl rfl) (part_one rfl rfl) (eq_str _ _ _ w) ?_
  refine eqF_cons (by decide) (part_one rfl rfl) (part_one rfl rfl) (eq_int _ _ _ w) ?_
  refine eqF_cons (by decide) (part_one rfl rfl) (part_one rfl rfl) (eq_int _ _ _ w) ?_
  exact eqF_nil'⟩
section
variable {B : {H : Type} → DataW H → Nat} {BA : {H : Type} → List (DataW H) → Nat} (bc : BulkC B BA)
include bc
theorem decOpS (W : World) : Dec B Try.prog W 48 opSC 6 OpS.ok OpS.wt :=
  (Dec.struct bc Try.underlying48 (by kernel_rfl) (DecF.cons bc rfl (Dec.int bc Try.underlying3 (by kernel_rfl)) (DecF.cons bc rfl (Dec.str bc Try.underlying9 (by kernel_rfl)) (DecF.cons bc rfl (Dec.str bc Try.underlying9 (by kernel_rfl)) (DecF.cons bc rfl (Dec.str bc Try.underlying9 (by kernel_rfl)) (DecF.cons bc rfl (Dec.int bc Try.underlying3 (by kernel_rfl)) (DecF.cons bc rfl (Dec.int bc Try.underlying3 (by kernel_rfl)) (DecF.nil)))))))).map
    (fun p => ⟨p.1, p.2.1, p.2.2.1, p.2.2.2.1, p.2.2.2.2.1, p.2.2.2.2.2.1⟩) (fun _ => rfl) (fun a ha u hu => by
      simp only [opSC, List.mem_cons, List.mem_append, List.mem_singleton, List.not_mem_nil, or_false] at hu
      rcases hu with rfl | rfl | rfl | rfl | rfl | rfl <;> rfl)
    (fun p hp => by first | rfl | (simp [opSC]; done)) (fun p hp => ⟨hp.1, hp.2.1, hp.2.2.1, hp.2.2.2.1, hp.2.2.2.2.1, hp.2.2.2.2.2.1⟩) (fun p => by simp only [OpS.wt]; omega)
end
def zeroOp : OpS := { kind := 0, path := [], to_ := [], data := [], at_ := 0, size := 0 }
end VK

namespace VK
open Go Go.Proofs
set_option linter.unusedSimpArgs false
set_option linter.unusedVariables false
set_option maxRecDepth 100000
set_option maxHeartbeats 40000000
def num (n : Nat) : List UInt8 := if h : 127 < n then UInt8.ofNat (n % 128 + 128) :: num (n / 128) else [UInt8.ofNat n]
termination_by n
theorem num_big {n : Nat} (h : 127 < n) : num n = UInt8.ofNat (n % 128 + 128) :: num (n / 128) := by rw [num]; simp [h]
theorem num_small {n : Nat} (h : ¬ 127 < n) : num n = [UInt8.ofNat n] := by rw [num]; simp [h]
def outA (o : Nat) (xs : List UInt8) : Atom := exA fun v : Value => [blk o ⟨[v], 88⟩, sl v (mrow by8 5 xs)]
theorem num_le (n : Nat) (h : n ≤ 18446744073709551615) : (num n).length ≤ 10 := by
  have key : ∀ (q : Nat) (n : Nat), n < 128 ^ (q + 1) → (num n).length ≤ q + 1 := by
    intro q
    induction q with
    | zero => intro n h; rw [num_small (by omega)]; simp
    | succ q ih =>
      intro n h
      by_cases hb : 127 < n
      · rw [num_big hb]
        have := ih (n / 128) (by rw [Nat.div_lt_iff_lt_mul (by omega)]; rw [← Nat.pow_succ]; exact h)
        simp; omega
      · rw [num_small hb]; simp
  exact key 9 n (Nat.lt_of_le_of_lt h (by decide))
theorem num_pos (n : Nat) : 1 ≤ (num n).length := by
  by_cases hb : 127 < n
  · rw [num_big hb]; simp
  · rw [num_small hb]; simp
theorem or128 (n : Nat) : UInt8.ofNat (((((n : Int) % 256).toNat ||| Int.toNat 128 : Nat) : Int)).toNat = UInt8.ofNat (n % 128 + 128) := by
  have h : ∀ m, m < 256 → UInt8.ofNat (m ||| 128) = UInt8.ofNat (m % 128 + 128) := by decide
  have e1 : ((n : Int) % 256).toNat = n % 256 := by omega
  have e2 : Int.toNat 128 = 128 := rfl
  rw [Int.toNat_natCast, e1, e2, h _ (by omega)]
  congr 2
  omega
theorem Num_c (F : List Atom) (o : Nat) (xs : List UInt8) (n : Nat) (hn : n ≤ 18446744073709551615) (hx : xs.length ≤ 140737488355000) :
    Fn Try.prog 36 [.pointer (some ⟨o, 0, none⟩), .int .u64 n] (outA o xs :: F) fun v L' => v = .tuple #[] ∧ L' = outA o (xs ++ num n) :: F := by
  refine Fn.exA fun v => ?_
  refine fn_intro Try.func36 rfl Try.ntmps36 rfl (fun W0 => ?_)
  simp only [List.cons_append, List.nil_append, argE]
  refine rS ?_
  refine rS ?_
  refine rR (id := 0) ?_
  refine oG (gM (evv rfl)) rfl rfl ?_
  refine oG (g_pnil TyU.h (evv rfl) (evv rfl) (by simp) (by rfl)) rfl rfl ?_
  refine oN ?_
  refine cC ?_
  refine r_cond_false rfl ?_
  refine r_skip ?_
  refine cC ?_
  refine rS ?_
  refine r_block ?_
  refine r_loop (σ := Nat × List UInt8 × Value) (fun s => s.2.1 ++ num s.1 = xs ++ num n ∧ s.1 ≤ 18446744073709551615) (fun s => s.1) (fun s => [(0, .v (.pointer (some ⟨o, 0, none⟩))), (1, .v (.int .u64 s.1))]) (fun s => blk o ⟨[s.2.2], 88⟩ :: sl s.2.2 (mrow by8 5 s.2.1) :: F) (n, xs, v) ⟨rfl, hn⟩ ⟨rfl, rfl, trivial⟩ (Ent.refl _) ?_
  rintro ⟨m, ys, u⟩ ⟨h1, h2⟩
  have hl := num_le n hn
  have hp := num_pos m
  have hlen := congrArg List.length h1
  simp only [List.length_append] at hlen
  dsimp only at h1 h2 ⊢
  have h1 : RowKit.Hid (ys ++ num m = xs ++ num n) := h1
  refine rS ?_
  refine rS ?_
  refine rR (id := 1) ?_
  refine oG (gM (evv rfl)) rfl rfl ?_
  refine oG (g_bin (evv rfl) (evv rfl) (by rfl)) rfl rfl ?_
  refine oN ?_
  refine cC ?_
  refine r_cond rfl (fun hc => ?_) (fun hc => ?_)
  · have hc := of_decide_eq_true hc
    refine r_skip ?_
    refine cC ?_
    refine rS ?_
    refine r_block ?_
    refine rR (id := 3) ?_
    refine oG (gM (evv rfl)) rfl rfl ?_
    refine oG (gM (evv rfl)) rfl rfl ?_
    refine oG (g_nil (evv rfl)) rfl rfl ?_
    refine oG (g_fld (evv rfl)) rfl rfl ?_
    refine oG (g_load (evv rfl) (by rfl) (by rfl)) rfl rfl ?_
    refine oG (gM (evv rfl)) rfl rfl ?_
    refine o_giveU (g_conv TyU.h TyU.h (evv rfl)) (by rfl) rfl ?_
    refine oG (g_bits (evv rfl) (evv rfl) (by rfl) (by omega) (by omega) (by omega) (by omega)) rfl rfl ?_
    refine o_litB rfl (by rfl) (by omega) (by first | omega | exact Int.ofNat_le.2 (Nat.le_of_lt_succ (Nat.or_lt_two_pow (n := 8) (by omega) (by omega))) | exact Int.ofNat_le.2 (Nat.le_of_lt_succ (Nat.xor_lt_two_pow (n := 8) (by omega) (by omega)))) rfl (fun _ => ?_)
    refine o_appM (evv rfl) (evv rfl) (by rfl) (by rfl) (by rfl) (by (try simp only [bsOf, List.length_append, List.length_cons, List.length_nil, List.length_take, List.length_drop, List.length_map, List.length_range]); omega) rfl (fun _ => ?_)
    refine oG (g_nil (evv rfl)) rfl rfl ?_
    refine oG (g_fld (evv rfl)) rfl rfl ?_
    refine o_store1 (evv rfl) (evv rfl) (by rfl) (by rfl) (by rfl) ?_
    refine oN ?_
    refine c_blk ?_
    refine cC ?_
    refine rR (id := 2) ?_
    refine oG (gM (evv rfl)) rfl rfl ?_
    refine oG (g_shrC 128 (evv rfl) (evv rfl) (by rfl) (by decide)) rfl rfl ?_
    refine oG (gA (evv rfl)) rfl rfl ?_
    refine oN ?_
    rename_i v1 v2
    refine c_loop (m / 128, ys ++ [UInt8.ofNat (m % 128 + 128)], v2) ⟨?_, by dsimp only; omega⟩ (by dsimp only; omega) ⟨rfl, ?_, trivial⟩ ?_
    · rw [h1.out.symm, num_big (by omega : 127 < m)]; simp
    · rfl
    · rw [or128]
      exact Ent.drop
  · have hc := of_decide_eq_false hc
    refine r_exit rfl ?_
    refine cC ?_
    refine rR (id := 4) ?_
    refine oG (gM (evv rfl)) rfl rfl ?_
    refine oG (gM (evv rfl)) rfl rfl ?_
    refine oG (g_nil (evv rfl)) rfl rfl ?_
    refine oG (g_fld (evv rfl)) rfl rfl ?_
    refine oG (g_load (evv rfl) (by rfl) (by rfl)) rfl rfl ?_
    refine oG (gM (evv rfl)) rfl rfl ?_
    refine o_giveN (g_conv TyU.h TyU.h (evv rfl)) (by simp only [inR]; omega) rfl ?_
    refine o_litB rfl (by rfl) (by omega) (by first | omega | exact Int.ofNat_le.2 (Nat.le_of_lt_succ (Nat.or_lt_two_pow (n := 8) (by omega) (by omega))) | exact Int.ofNat_le.2 (Nat.le_of_lt_succ (Nat.xor_lt_two_pow (n := 8) (by omega) (by omega)))) rfl (fun _ => ?_)
    refine o_appM (evv rfl) (evv rfl) (by rfl) (by rfl) (by rfl) (by (try simp only [bsOf, List.length_append, List.length_cons, List.length_nil, List.length_take, List.length_drop, List.length_map, List.length_range]); omega) rfl (fun _ => ?_)
    refine oG (g_nil (evv rfl)) rfl rfl ?_
    refine oG (g_fld (evv rfl)) rfl rfl ?_
    refine o_store1 (evv rfl) (evv rfl) (by rfl) (by rfl) (by rfl) ?_
    refine oN ?_
    rename_i v1 v2
    refine c_end (rs := []) rfl rfl _ ?_ ⟨rfl, rfl⟩
    have : num m = [UInt8.ofNat (m : Int).toNat] := by rw [num_small (by omega)]; rfl
    rw [← h1.out, this]
    exact Ent.drop.trans (Ent.shut (X := fun v : Value => [blk o ⟨[v], 88⟩, sl v (mrow by8 5 _)]) _)
theorem Num_l {L : List Atom} {o : Nat} {xs : List UInt8} {g : Atom → List Atom} [pk : Pick (outA o) L xs g] (z : Int) (hn : 0 ≤ z ∧ z ≤ 18446744073709551615) (hx : xs.length ≤ 140737488355000) :
    Fn Try.prog 36 [.pointer (some ⟨o, 0, none⟩), .int .u64 z] L fun v L' => v = .tuple #[] ∧ L' = g (outA o (xs ++ num z.toNat)) := by
  have h := Fn.lift1 (fun F => Num_c F o xs z.toNat (by omega) hx) pk
  rwa [Int.toNat_of_nonneg hn.1] at h
end VK

namespace VK
open Go Go.Proofs
set_option linter.unusedSimpArgs false
set_option linter.unusedVariables false
set_option maxRecDepth 100000
set_option maxHeartbeats 40000000
theorem Bytes_c (F : List Atom) (o : Nat) (xs : List UInt8) (hx : xs.length ≤ 140737488355328) :
    Fn Try.prog 40 [.pointer (some ⟨o, 0, none⟩)] (outA o xs :: F) fun v L' => True ∧ L' = [sl v (mrow by8 5 xs)] ++ outA o xs :: F := by
  refine Fn.exA fun v => ?_
  refine fn_intro Try.func40 rfl Try.ntmps40 rfl (fun W0 => ?_)
  simp only [List.cons_append, List.nil_append, argE]
  refine rS ?_
  refine rR (id := 0) ?_
  refine oG (gA (evv rfl)) rfl rfl ?_
  refine oN ?_
  refine cC ?_
  refine rS ?_
  refine rS ?_
  refine rR (id := 1) ?_
  refine oG (gM (evv rfl)) rfl rfl ?_
  refine oG (g_pnil TyU.h (evv rfl) (evv rfl) (by simp) (by rfl)) rfl rfl ?_
  refine oN ?_
  refine cC ?_
  refine r_cond_false rfl ?_
  refine r_skip ?_
  refine cC ?_
  refine rS ?_
  refine rR (id := 3) ?_
  refine oG (gM (evv rfl)) rfl rfl ?_
  refine oG (g_nil (evv rfl)) rfl rfl ?_
  refine oG (g_fld (evv rfl)) rfl rfl ?_
  refine oG (g_load (evv rfl) (by rfl) (by rfl)) rfl rfl ?_
  refine o_nilM by8 5 ?_
  refine o_appM (evv rfl) (evv rfl) (by rfl) (by rfl) (by rfl) (by (try simp only [bsOf, List.length_append, List.length_cons, List.length_nil, List.length_take, List.length_drop, List.length_map, List.length_range]); omega) rfl (fun _ => ?_)
  refine oG (gA (evv rfl)) rfl rfl ?_
  refine oN ?_
  refine cC ?_
  rename_i u
  refine r_ret (rs := [.tmp 2]) rfl rfl _ ?_ ⟨trivial, rfl⟩
  exact Ent.cons (Ent.shut (X := fun v : Value => [blk o ⟨[v], 88⟩, sl v (mrow by8 5 _)]) _)
theorem Bytes_l {L : List Atom} {o : Nat} {xs : List UInt8} {g : Atom → List Atom} [pk : Pick (outA o) L xs g] (hx : xs.length ≤ 140737488355328) :
    Fn Try.prog 40 [.pointer (some ⟨o, 0, none⟩)] L fun v L' => True ∧ L' = sl v (mrow by8 5 xs) :: g (outA o xs) :=
  Fn.liftV (fun F => Bytes_c F o xs hx) pk
def textB (s : List UInt8) : List UInt8 := num s.length ++ s
theorem Text_c (F : List Atom) (o : Nat) (xs s : List UInt8) (hx : xs.length + s.length ≤ 140737488354000) :
    Fn Try.prog 37 [.pointer (some ⟨o, 0, none⟩), str s] (outA o xs :: F) fun v L' => v = .tuple #[] ∧ L' = outA o (xs ++ textB s) :: F := by
  refine fn_intro Try.func37 rfl Try.ntmps37 rfl (fun W0 => ?_)
  simp only [List.cons_append, List.nil_append, argE]
  have hl := num_le s.length (by omega)
  refine rS ?_
  refine rS ?_
  refine rR (id := 0) ?_
  refine oG (gM (evv rfl)) rfl rfl ?_
  refine oG (g_pnil TyU.h (evv rfl) (evv rfl) (by simp) (by rfl)) rfl rfl ?_
  refine oN ?_
  refine cC ?_
  refine r_cond_false rfl ?_
  refine r_skip ?_
  refine cC ?_
  refine rS ?_
  refine rR (id := 1) ?_
  refine oG (gM (evv rfl)) rfl rfl ?_
  refine oG (gM (evv rfl)) rfl rfl ?_
  refine oG (g_lenS TyU.h (evv rfl)) rfl rfl ?_
  refine o_giveN (g_conv TyU.h TyU.h (evv rfl)) (by simp only [inR]; omega) rfl ?_
  (refine o_call rfl _ (Ent.refl _) (Num_l _ (by omega) (by (try simp only [bsOf, List.length_append, List.length_cons, List.length_nil]); omega)) rfl ?_; rintro _ _ ⟨rfl, rfl⟩; (try simp only [Int.toNat_natCast]))
  refine oN ?_
  refine cC ?_
  refine r_exA fun v => ?_
  simp only [List.cons_append, List.nil_append]
  refine rR (id := 2) ?_
  refine oG (gM (evv rfl)) rfl rfl ?_
  refine oG (gM (evv rfl)) rfl rfl ?_
  refine oG (g_nil (evv rfl)) rfl rfl ?_
  refine oG (g_fld (evv rfl)) rfl rfl ?_
  refine oG (g_load (evv rfl) (by rfl) (by rfl)) rfl rfl ?_
  refine oG (gM (evv rfl)) rfl rfl ?_
  refine o_appSM (evv rfl) (evv rfl) (by rfl) (by rfl) (by rfl) (by (try simp only [bsOf, List.length_append, List.length_cons, List.length_nil, List.length_take, List.length_drop, List.length_map, List.length_range]); omega) rfl (fun _ => ?_)
  refine oG (g_nil (evv rfl)) rfl rfl ?_
  refine oG (g_fld (evv rfl)) rfl rfl ?_
  refine o_store1 (evv rfl) (evv rfl) (by rfl) (by rfl) (by rfl) ?_
  refine oN ?_
  rename_i u
  refine c_end (rs := []) rfl rfl _ ?_ ⟨rfl, rfl⟩
  rw [textB, ← List.append_assoc]
  exact Ent.shut (X := fun v : Value => [blk o ⟨[v], 88⟩, sl v (mrow by8 5 _)]) _
theorem Text_l {L : List Atom} {o : Nat} {xs : List UInt8} {g : Atom → List Atom} [pk : Pick (outA o) L xs g] {s : List UInt8} (hx : xs.length + s.length ≤ 140737488354000) :
    Fn Try.prog 37 [.pointer (some ⟨o, 0, none⟩), str s] L fun v L' => v = .tuple #[] ∧ L' = g (outA o (xs ++ textB s)) :=
  Fn.lift1 (fun F => Text_c F o xs s hx) pk
def zig (n : Int) : Nat := if 0 ≤ n then (2 * n).toNat else (-2 * n - 1).toNat
theorem xor_ones (a : Nat) (h : a < 2 ^ 64) : a ^^^ (2 ^ 64 - 1) = 2 ^ 64 - 1 - a := by
  have h1 := congrArg BitVec.toNat (BitVec.xor_allOnes (x := BitVec.ofNat 64 a))
  rw [BitVec.toNat_xor, BitVec.toNat_not, BitVec.toNat_allOnes, BitVec.toNat_ofNat, Nat.mod_eq_of_lt h] at h1
  exact h1
theorem zig_bits (n : Int) (h0 : -9223372036854775808 ≤ n) (h1 : n ≤ 9223372036854775807) :
    ((n % 18446744073709551616 * 2 % 18446744073709551616).toNat ^^^ (n / 9223372036854775808 % 18446744073709551616).toNat) = zig n := by
  by_cases h : 0 ≤ n
  · have e1 : n / 9223372036854775808 = 0 := by omega
    rw [e1, zig, if_pos h]
    simp
    omega
  · have e1 : n / 9223372036854775808 = -1 := by omega
    rw [e1, zig, if_neg h]
    have e2 : ((-1 : Int) % 18446744073709551616).toNat = 2 ^ 64 - 1 := by decide
    rw [e2, xor_ones _ (by omega)]
    omega
theorem zig_le (n : Int) (h0 : -9223372036854775808 ≤ n) (h1 : n ≤ 9223372036854775807) : zig n ≤ 18446744073709551615 := by unfold zig; split <;> omega
def intB (n : Int) : List UInt8 := num (zig n)
theorem Int_c (F : List Atom) (o : Nat) (xs : List UInt8) (n : Int) (h0 : -9223372036854775808 ≤ n) (h1 : n ≤ 9223372036854775807) (hx : xs.length ≤ 140737488355000) :
    Fn Try.prog 75 [.pointer (some ⟨o, 0, none⟩), .int .i64 n] (outA o xs :: F) fun v L' => v = .tuple #[] ∧ L' = outA o (xs ++ intB n) :: F := by
  refine fn_intro Try.func75 rfl Try.ntmps75 rfl (fun W0 => ?_)
  simp only [List.cons_append, List.nil_append, argE]
  refine rR (id := 0) ?_
  refine oG (gM (evv rfl)) rfl rfl ?_
  refine oG (gM (evv rfl)) rfl rfl ?_
  refine o_giveU (g_conv TyU.h TyU.h (evv rfl)) (by rfl) rfl ?_
  refine o_giveU (g_shlC 2 (evv rfl) (evv rfl) (by rfl) (by decide)) (by rfl) rfl ?_
  refine oG (gM (evv rfl)) rfl rfl ?_
  refine oG (g_shrC 9223372036854775808 (evv rfl) (evv rfl) (by rfl) (by decide)) rfl rfl ?_
  refine o_giveU (g_conv TyU.h TyU.h (evv rfl)) (by rfl) rfl ?_
  refine oG (g_bits (evv rfl) (evv rfl) (by rfl) (by omega) (by omega) (by omega) (by omega)) rfl rfl ?_
  rw [zig_bits n h0 h1]
  have hz := zig_le n h0 h1
  (refine o_call rfl _ (Ent.refl _) (Num_l _ (by omega) (by (try simp only [bsOf, List.length_append, List.length_cons, List.length_nil]); omega)) rfl ?_; rintro _ _ ⟨rfl, rfl⟩; (try simp only [Int.toNat_natCast]))
  refine oN ?_
  exact c_end (rs := []) rfl rfl _ (Ent.refl _) ⟨rfl, rfl⟩
theorem Int_l {L : List Atom} {o : Nat} {xs : List UInt8} {g : Atom → List Atom} [pk : Pick (outA o) L xs g] (n : Int) (h : -9223372036854775808 ≤ n ∧ n ≤ 9223372036854775807) (hx : xs.length ≤ 140737488355000) :
    Fn Try.prog 75 [.pointer (some ⟨o, 0, none⟩), .int .i64 n] L fun v L' => v = .tuple #[] ∧ L' = g (outA o (xs ++ intB n)) :=
  Fn.lift1 (fun F => Int_c F o xs n h.1 h.2 hx) pk
end VK

namespace VK
open Go Go.Proofs
set_option linter.unusedSimpArgs false
set_option linter.unusedVariables false
set_option maxRecDepth 100000
set_option maxHeartbeats 40000000
theorem rNum_c (L : List Atom) (n : Nat) (hn : n ≤ 18446744073709551615) :
    Fn Try.prog 88 [.int .u64 n] L fun v L' => True ∧ L' = sl v (mrow by8 5 (num n)) :: L := by
  refine fn_intro Try.func88 rfl Try.ntmps88 rfl (fun W0 => ?_)
  simp only [argE]
  refine rS ?_
  refine rR (id := 0) ?_
  refine oG (gA (evv rfl)) rfl rfl ?_
  refine oN ?_
  refine cC ?_
  refine rS ?_
  refine rR (id := 1) ?_
  refine oG (gA (evv rfl)) rfl rfl ?_
  refine oN ?_
  refine cC ?_
  refine rS ?_
  refine r_block ?_
  refine r_ent _ (Ent.nilM by8 5) ?_
  refine r_loop (σ := Nat × List UInt8 × Value) (fun s => RowKit.Hid (s.2.1 ++ num s.1 = num n) ∧ s.1 ≤ 18446744073709551615) (fun s => s.1) (fun s => [(0, .v (.int .u64 s.1)), (3, .v s.2.2)]) (fun s => sl s.2.2 (mrow by8 5 s.2.1) :: L) (n, [], .slice none 0 0) ⟨rfl, hn⟩ ⟨rfl, rfl, trivial⟩ (Ent.refl _) ?_
  rintro ⟨m, ys, u⟩ ⟨h1, h2⟩
  have hl := num_le n hn
  have hp := num_pos m
  have hlen := congrArg List.length h1.out
  simp only [List.length_append] at hlen
  dsimp only at h1 h2 ⊢
  refine rS ?_
  refine rS ?_
  refine rR (id := 2) ?_
  refine oG (gM (evv rfl)) rfl rfl ?_
  refine oG (g_bin (evv rfl) (evv rfl) (by rfl)) rfl rfl ?_
  refine oN ?_
  refine cC ?_
  refine r_cond rfl (fun hc => ?_) (fun hc => ?_)
  · have hc := of_decide_eq_true hc
    refine r_skip ?_
    refine cC ?_
    refine r_block ?_
    refine rS ?_
    refine rR (id := 3) ?_
    refine oG (gM (evv rfl)) rfl rfl ?_
    refine oG (gM (evv rfl)) rfl rfl ?_
    refine oG (g_remP (evv rfl) (evv rfl) (by omega) (by omega)) rfl rfl ?_
    refine o_giveN (g_bin (evv rfl) (evv rfl) (by rfl)) (by simp only [inR]; omega) rfl ?_
    refine o_giveN (g_conv TyU.h TyU.h (evv rfl)) (by simp only [inR]; omega) rfl ?_
    refine o_litB rfl (by rfl) (by omega) (by first | omega | exact Int.ofNat_le.2 (Nat.le_of_lt_succ (Nat.or_lt_two_pow (n := 8) (by omega) (by omega))) | exact Int.ofNat_le.2 (Nat.le_of_lt_succ (Nat.xor_lt_two_pow (n := 8) (by omega) (by omega)))) rfl (fun _ => ?_)
    refine o_appM (evv rfl) (evv rfl) (by rfl) (by rfl) (by rfl) (by (try simp only [bsOf, List.length_append, List.length_cons, List.length_nil, List.length_take, List.length_drop, List.length_map, List.length_range]); omega) rfl (fun _ => ?_)
    refine oG (gA (evv rfl)) rfl rfl ?_
    refine oN ?_
    refine cC ?_
    refine rR (id := 4) ?_
    refine oG (gM (evv rfl)) rfl rfl ?_
    refine o_giveN (g_quoP (evv rfl) (evv rfl) (by omega) (by omega)) (by simp only [inR]; omega) rfl ?_
    refine oG (gA (evv rfl)) rfl rfl ?_
    refine oN ?_
    refine c_blk ?_
    rename_i v1 v2
    refine c_loop (m / 128, ys ++ [UInt8.ofNat (m % 128 + 128)], v2) ⟨?_, by dsimp only; omega⟩ (by dsimp only; omega) ⟨?_, rfl, trivial⟩ ?_
    · show _ = _
      rw [← h1.out, num_big (by omega : 127 < m)]; simp
    · exact congrArg some (congrArg EV.v (congrArg (Value.int .u64) (by dsimp only; omega)))
    · have e : (((m : Int) % 128 + 128) % 256).toNat = m % 128 + 128 := by omega
      first | rw [e] | (have e2 : ((m : Int) % 128 + 128).toNat = m % 128 + 128 := by omega
                        rw [e2])
      exact Ent.drop
  · have hc := of_decide_eq_false hc
    refine r_exit rfl ?_
    refine cC ?_
    refine rS ?_
    refine rR (id := 5) ?_
    refine oG (gM (evv rfl)) rfl rfl ?_
    refine oG (gM (evv rfl)) rfl rfl ?_
    refine o_giveN (g_conv TyU.h TyU.h (evv rfl)) (by simp only [inR]; omega) rfl ?_
    refine o_litB rfl (by rfl) (by omega) (by first | omega | exact Int.ofNat_le.2 (Nat.le_of_lt_succ (Nat.or_lt_two_pow (n := 8) (by omega) (by omega))) | exact Int.ofNat_le.2 (Nat.le_of_lt_succ (Nat.xor_lt_two_pow (n := 8) (by omega) (by omega)))) rfl (fun _ => ?_)
    refine o_appM (evv rfl) (evv rfl) (by rfl) (by rfl) (by rfl) (by (try simp only [bsOf, List.length_append, List.length_cons, List.length_nil, List.length_take, List.length_drop, List.length_map, List.length_range]); omega) rfl (fun _ => ?_)
    refine oG (gA (evv rfl)) rfl rfl ?_
    refine oN ?_
    refine cC ?_
    rename_i v1 v2
    refine r_ret (rs := [.tmp 2]) rfl rfl _ ?_ ⟨trivial, rfl⟩
    have : num m = [UInt8.ofNat (m : Int).toNat] := by rw [num_small (by omega)]; rfl
    rw [← h1.out, this]
    exact Ent.drop
theorem rNum_l {L : List Atom} (z : Int) (hn : 0 ≤ z ∧ z ≤ 18446744073709551615) : Fn Try.prog 88 [.int .u64 z] L fun v L' => True ∧ L' = sl v (mrow by8 5 (num z.toNat)) :: L := by
  have h := rNum_c L z.toNat (by omega)
  rwa [Int.toNat_of_nonneg hn.1] at h
theorem rInt_c (L : List Atom) (n : Int) (h0 : -9223372036854775808 ≤ n ∧ n ≤ 9223372036854775807) :
    Fn Try.prog 78 [.int .i64 n] L fun v L' => True ∧ L' = sl v (mrow by8 5 (intB n)) :: L := by
  refine fn_intro Try.func78 rfl Try.ntmps78 rfl (fun W0 => ?_)
  simp only [argE]
  by_cases h : 0 ≤ n
  · have hd : decide (0 ≤ n) = true := decide_eq_true h
    refine rS ?_
    refine rR (id := 0) ?_
    refine oG (gA (evv rfl)) rfl rfl ?_
    refine oN ?_
    refine cC ?_
    refine rS ?_
    refine rS ?_
    refine rR (id := 1) ?_
    refine oG (gM (evv rfl)) rfl rfl ?_
    refine oG (g_bin (evv rfl) (evv rfl) (by rfl)) rfl rfl ?_
    refine oN ?_
    refine cC ?_
    refine r_cond rfl (fun _ => ?_) (fun hc => absurd h (of_decide_eq_false hc))
    refine rS ?_
    refine rR (id := 2) ?_
    refine oG (gM (evv rfl)) rfl rfl ?_
    refine o_giveN (g_conv TyU.h TyU.h (evv rfl)) (by simp only [inR]; omega) rfl ?_
    refine o_giveN (g_bin (evv rfl) (evv rfl) (by rfl)) (by simp only [inR]; omega) rfl ?_
    (refine o_call rfl _ (Ent.refl _) (rNum_l _ (by omega)) rfl ?_; rintro _ _ ⟨_, rfl⟩; (try simp only [Int.toNat_natCast]))
    refine oG (gA (evv rfl)) rfl rfl ?_
    refine oN ?_
    refine cC ?_
    refine r_ret (rs := [.tmp 2]) rfl rfl _ (Ent.refl _) ⟨trivial, ?_⟩
    rw [intB, zig, if_pos h]; rfl
  · refine rS ?_
    refine rR (id := 0) ?_
    refine oG (gA (evv rfl)) rfl rfl ?_
    refine oN ?_
    refine cC ?_
    refine rS ?_
    refine rS ?_
    refine rR (id := 1) ?_
    refine oG (gM (evv rfl)) rfl rfl ?_
    refine oG (g_bin (evv rfl) (evv rfl) (by rfl)) rfl rfl ?_
    refine oN ?_
    refine cC ?_
    refine r_cond rfl (fun hc => absurd (of_decide_eq_true hc) h) (fun _ => ?_)
    refine r_skip ?_
    refine cC ?_
    refine rS ?_
    refine rR (id := 3) ?_
    refine oG (gM (evv rfl)) rfl rfl ?_
    refine o_giveN (g_bin (evv rfl) (evv rfl) (by rfl)) (by simp only [inR]; omega) rfl ?_
    refine o_giveN (g_neg (evv rfl)) (by simp only [inR]; omega) rfl ?_
    refine o_giveN (g_conv TyU.h TyU.h (evv rfl)) (by simp only [inR]; omega) rfl ?_
    refine o_giveN (g_bin (evv rfl) (evv rfl) (by rfl)) (by simp only [inR]; omega) rfl ?_
    refine o_giveN (g_bin (evv rfl) (evv rfl) (by rfl)) (by simp only [inR]; omega) rfl ?_
    (refine o_call rfl _ (Ent.refl _) (rNum_l _ (by omega)) rfl ?_; rintro _ _ ⟨_, rfl⟩; (try simp only [Int.toNat_natCast]))
    refine oG (gA (evv rfl)) rfl rfl ?_
    refine oN ?_
    refine cC ?_
    refine r_ret (rs := [.tmp 2]) rfl rfl _ (Ent.refl _) ⟨trivial, ?_⟩
    rw [intB, zig, if_neg h, show -2 * n - 1 = 2 * (0 - (n + 1)) + 1 by omega]; rfl
theorem rText_c (L : List Atom) (s : List UInt8) (h : s.length ≤ 140737488355000) :
    Fn Try.prog 79 [str s] L fun v L' => True ∧ L' = sl v (mrow by8 5 (textB s)) :: L := by
  refine fn_intro Try.func79 rfl Try.ntmps79 rfl (fun W0 => ?_)
  simp only [argE]
  have hl := num_le s.length (by omega)
  refine rS ?_
  refine rR (id := 0) ?_
  refine oG (gA (evv rfl)) rfl rfl ?_
  refine oN ?_
  refine cC ?_
  refine rS ?_
  refine rR (id := 1) ?_
  refine oG (gM (evv rfl)) rfl rfl ?_
  refine oG (g_lenS TyU.h (evv rfl)) rfl rfl ?_
  refine o_giveN (g_conv TyU.h TyU.h (evv rfl)) (by simp only [inR]; omega) rfl ?_
  (refine o_call rfl _ (Ent.refl _) (rNum_l _ (by omega)) rfl ?_; rintro _ _ ⟨_, rfl⟩; (try simp only [Int.toNat_natCast]))
  refine oG (gM (evv rfl)) rfl rfl ?_
  refine o_appSM (evv rfl) (evv rfl) (by rfl) (by rfl) (by rfl) (by (try simp only [bsOf, List.length_append, List.length_cons, List.length_nil, List.length_take, List.length_drop, List.length_map, List.length_range]); omega) rfl (fun _ => ?_)
  refine oG (gA (evv rfl)) rfl rfl ?_
  refine oN ?_
  refine cC ?_
  exact r_ret (rs := [.tmp 2]) rfl rfl _ (Ent.refl _) ⟨trivial, rfl⟩
end VK

namespace VK
open Go Go.Proofs
set_option linter.unusedSimpArgs false
set_option linter.unusedVariables false
set_option maxRecDepth 100000
set_option maxHeartbeats 40000000
structure InS where
  bs : List UInt8
  err : Int
def inX (i : Nat) (s : InS) : {x : Value × Value × List UInt8 // Rd [sl x.2.1 (mrow by8 5 x.2.2)] x.1 (mrow by8 5 s.bs)} → List Atom :=
  fun x => [blk i ⟨[x.1.1, .int .i64 s.err], 147⟩, sl x.1.2.1 (mrow by8 5 x.1.2.2)]
def inA (i : Nat) (s : InS) : Atom := exA (inX i s)
theorem inA_shut {i : Nat} {s : InS} {v w : Value} {full : List UInt8} {F : List Atom} (h : Rd [sl w (mrow by8 5 full)] v (mrow by8 5 s.bs)) :
    Ent (blk i ⟨[v, .int .i64 s.err], 147⟩ :: sl w (mrow by8 5 full) :: F) (inA i s :: F) := Ent.shut (X := inX i s) ⟨(v, w, full), h⟩
theorem Rd.app {L F : List Atom} {v : Value} {r : Row} (h : Rd L v r) : Rd (L ++ F) v r := ⟨fun W0 w hs => h.rd W0 w ⟨hs.os, hs.tape, hs.output, by obtain ⟨h1, h2, s, ha, hb⟩ := star_app hs.heap; exact star_mono s.2.1 ha⟩⟩
theorem Rd.one {A : Atom} {F : List Atom} {v : Value} {r : Row} (h : Rd [A] v r) : Rd (A :: F) v r := Rd.app (L := [A]) h
theorem fail_c (F : List Atom) (i : Nat) (s : InS) (e : Int) : Fn Try.prog 96 [.pointer (some ⟨i, 0, none⟩), .int .i64 e] (inA i s :: F) fun v L' => v = .tuple #[] ∧ L' = inA i ⟨[], e⟩ :: F := by
  refine Fn.exA ?_
  rintro ⟨⟨v, w, full⟩, hr⟩
  refine fn_intro Try.func96 rfl Try.ntmps96 rfl (fun W0 => ?_)
  simp only [inX, List.cons_append, List.nil_append, argE]
  refine rR (id := 0) ?_
  refine oG (gM (evv rfl)) rfl rfl ?_
  refine oG (gM (evv rfl)) rfl rfl ?_
  refine oG (gM (evv rfl)) rfl rfl ?_
  refine oG (g_nil (evv rfl)) rfl rfl ?_
  refine oG (g_fld (evv rfl)) rfl rfl ?_
  refine o_store1 (evv rfl) (evv rfl) (by rfl) (by rfl) (by rfl) ?_
  refine oG (g_nil (evv rfl)) rfl rfl ?_
  refine oG (g_fld (evv rfl)) rfl rfl ?_
  refine o_store1 (evv rfl) (evv rfl) (by rfl) (by rfl) (by rfl) ?_
  refine oN ?_
  exact c_end (rs := []) rfl rfl _ (inA_shut (s := ⟨[], e⟩) (Rd.nilM by8 _)) ⟨rfl, rfl⟩
theorem fail_l {L : List Atom} {i : Nat} {s : InS} {g : Atom → List Atom} [pk : Pick (inA i) L s g] (e : Int) :
    Fn Try.prog 96 [.pointer (some ⟨i, 0, none⟩), .int .i64 e] L fun v L' => v = .tuple #[] ∧ L' = g (inA i ⟨[], e⟩) := Fn.lift1 (fun F => fail_c F i s e) pk
def nextV (s : InS) : Value := if s.err = 0 then (match s.bs with | [] => .tuple #[.int .u8 0, .bool false] | c :: _ => .tuple #[by8 c, .bool true]) else .tuple #[.int .u8 0, .bool false]
def nextS (s : InS) : InS := if s.err = 0 then (match s.bs with | [] => ⟨[], 20⟩ | _ :: r => ⟨r, 0⟩) else s
theorem next_c (F : List Atom) (i : Nat) (s : InS) : Fn Try.prog 95 [.pointer (some ⟨i, 0, none⟩)] (inA i s :: F) fun v L' => v = nextV s ∧ L' = inA i (nextS s) :: F := by
  obtain ⟨bs, e⟩ := s
  refine Fn.exA ?_
  rintro ⟨⟨v, w, full⟩, hr⟩
  dsimp only at hr
  refine fn_intro Try.func95 rfl Try.ntmps95 rfl (fun W0 => ?_)
  haveI := hr.one (F := F)
  simp only [inX, List.cons_append, List.nil_append, argE]
  by_cases he : e = 0
  · subst he
    cases bs with
    | nil =>
      refine rS ?_
      refine rR (id := 0) ?_
      refine oG (gA (evv rfl)) rfl rfl ?_
      refine oG (gA (evv rfl)) rfl rfl ?_
      refine oN ?_
      refine cC ?_
      refine rS ?_
      refine rS ?_
      refine rR (id := 1) ?_
      refine oG (gM (evv rfl)) rfl rfl ?_
      refine oG (g_pnil TyU.h (evv rfl) (evv rfl) (by simp) (by rfl)) rfl rfl ?_
      refine oG (gM (evv rfl)) rfl rfl ?_
      refine o_gyes rfl ?_
      refine oG (gM (evv rfl)) rfl rfl ?_
      refine o_gyes rfl ?_
      refine oG (g_nil (evv rfl)) rfl rfl ?_
      refine o_gyes rfl ?_
      refine oG (g_fld (evv rfl)) rfl rfl ?_
      refine o_gyes rfl ?_
      refine oG (g_load (evv rfl) (by rfl) (by rfl)) rfl rfl ?_
      refine o_gyes rfl ?_
      refine oG (g_bin (evv rfl) (evv rfl) (by rfl)) rfl rfl ?_
      refine oG (g_pick (b := false) (evv rfl) (fun h => by cases h) (fun _ => (evv rfl))) rfl rfl ?_
      refine oN ?_
      refine cC ?_
      refine r_cond_false rfl ?_
      refine r_skip ?_
      refine cC ?_
      refine rS ?_
      refine rS ?_
      refine rR (id := 3) ?_
      refine oG (gM (evv rfl)) rfl rfl ?_
      refine oG (g_nil (evv rfl)) rfl rfl ?_
      refine oG (g_fld (evv rfl)) rfl rfl ?_
      refine oG (g_load (evv rfl) (by rfl) (by rfl)) rfl rfl ?_
      refine oG (g_lenM (evv rfl)) rfl rfl ?_
      refine oG (g_bin (evv rfl) (evv rfl) (by rfl)) rfl rfl ?_
      refine oN ?_
      refine cC ?_
      refine r_cond_true rfl ?_
      refine rS ?_
      refine r_ent _ (inA_shut (s := ⟨[], 0⟩) hr) ?_
      refine rR (id := 4) ?_
      refine oG (gM (evv rfl)) rfl rfl ?_
      (refine o_call rfl _ (Ent.refl _) (fail_l _) rfl ?_; rintro _ _ ⟨rfl, rfl⟩)
      refine oN ?_
      refine cC ?_
      refine rS ?_
      refine rR (id := 5) ?_
      refine oG (gA (evv rfl)) rfl rfl ?_
      refine oG (gA (evv rfl)) rfl rfl ?_
      refine oN ?_
      refine cC ?_
      exact r_ret (rs := [.tmp 2, .tmp 3]) rfl rfl _ (Ent.refl _) ⟨rfl, rfl⟩
    | cons c r =>
      have hpos : 0 < (c :: r).length := by simp
      refine rS ?_
      refine rR (id := 0) ?_
      refine oG (gA (evv rfl)) rfl rfl ?_
      refine oG (gA (evv rfl)) rfl rfl ?_
      refine oN ?_
      refine cC ?_
      refine rS ?_
      refine rS ?_
      refine rR (id := 1) ?_
      refine oG (gM (evv rfl)) rfl rfl ?_
      refine oG (g_pnil TyU.h (evv rfl) (evv rfl) (by simp) (by rfl)) rfl rfl ?_
      refine oG (gM (evv rfl)) rfl rfl ?_
      refine o_gyes rfl ?_
      refine oG (gM (evv rfl)) rfl rfl ?_
      refine o_gyes rfl ?_
      refine oG (g_nil (evv rfl)) rfl rfl ?_
      refine o_gyes rfl ?_
      refine oG (g_fld (evv rfl)) rfl rfl ?_
      refine o_gyes rfl ?_
      refine oG (g_load (evv rfl) (by rfl) (by rfl)) rfl rfl ?_
      refine o_gyes rfl ?_
      refine oG (g_bin (evv rfl) (evv rfl) (by rfl)) rfl rfl ?_
      refine oG (g_pick (b := false) (evv rfl) (fun h => by cases h) (fun _ => (evv rfl))) rfl rfl ?_
      refine oN ?_
      refine cC ?_
      refine r_cond_false rfl ?_
      refine r_skip ?_
      refine cC ?_
      refine rS ?_
      refine rS ?_
      refine rR (id := 3) ?_
      refine oG (gM (evv rfl)) rfl rfl ?_
      refine oG (g_nil (evv rfl)) rfl rfl ?_
      refine oG (g_fld (evv rfl)) rfl rfl ?_
      refine oG (g_load (evv rfl) (by rfl) (by rfl)) rfl rfl ?_
      refine oG (g_lenM (evv rfl)) rfl rfl ?_
      refine oG (g_bin (evv rfl) (evv rfl) (by rfl)) rfl rfl ?_
      refine oN ?_
      refine cC ?_
      refine r_cond_false rfl ?_
      refine r_skip ?_
      refine cC ?_
      refine rS ?_
      refine rR (id := 6) ?_
      refine oG (gM (evv rfl)) rfl rfl ?_
      refine oG (g_nil (evv rfl)) rfl rfl ?_
      refine oG (g_fld (evv rfl)) rfl rfl ?_
      refine oG (g_load (evv rfl) (by rfl) (by rfl)) rfl rfl ?_
      refine oG (g_idxMN (evv rfl) (evv rfl) (by rfl) (by first | omega | (have := of_decide_eq_true hg; omega) | (simp at hg; omega) | (simp only [List.length_set, List.length_append, List.length_cons, List.length_nil, List.length_map, List.length_take, List.length_drop, List.length_replicate]; omega))) rfl rfl ?_
      refine oG (g_loadM (evv rfl) (by rfl) (by first | omega | (have := of_decide_eq_true hg; omega) | (simp at hg; omega) | (simp only [List.length_set, List.length_append, List.length_cons, List.length_nil, List.length_map, List.length_take, List.length_drop, List.length_replicate]; omega))) rfl rfl ?_
      refine oG (gA (evv rfl)) rfl rfl ?_
      refine oN ?_
      refine cC ?_
      refine rS ?_
      refine rR (id := 7) ?_
      refine oG (gM (evv rfl)) rfl rfl ?_
      refine oG (gM (evv rfl)) rfl rfl ?_
      refine oG (g_nil (evv rfl)) rfl rfl ?_
      refine oG (g_fld (evv rfl)) rfl rfl ?_
      refine oG (g_load (evv rfl) (by rfl) (by rfl)) rfl rfl ?_
      refine oG (g_subM (evv rfl) _ _ (bnd_to (evv rfl) (by omega)) bnd_none (by rfl) (by omega) (by first | omega | (simp only [List.length_append, List.length_cons, List.length_nil, List.length_set, List.length_map]; omega))) rfl rfl ?_
      refine oG (g_nil (evv rfl)) rfl rfl ?_
      refine oG (g_fld (evv rfl)) rfl rfl ?_
      refine o_store1 (evv rfl) (evv rfl) (by rfl) (by rfl) (by rfl) ?_
      refine oN ?_
      refine cC ?_
      refine rS ?_
      refine rR (id := 8) ?_
      refine oG (gM (evv rfl)) rfl rfl ?_
      refine oG (gA (evv rfl)) rfl rfl ?_
      refine oG (gA (evv rfl)) rfl rfl ?_
      refine oN ?_
      refine cC ?_
      exact r_ret (rs := [.tmp 2, .tmp 3]) rfl rfl _ (inA_shut (s := ⟨r, 0⟩) ((Rd.subM (rd := hr)).as (by simp))) ⟨rfl, rfl⟩
  · have he' : decide (e = 0) = false := decide_eq_false he
    refine rS ?_
    refine rR (id := 0) ?_
    refine oG (gA (evv rfl)) rfl rfl ?_
    refine oG (gA (evv rfl)) rfl rfl ?_
    refine oN ?_
    refine cC ?_
    refine rS ?_
    refine rS ?_
    refine rR (id := 1) ?_
    refine oG (gM (evv rfl)) rfl rfl ?_
    refine oG (g_pnil TyU.h (evv rfl) (evv rfl) (by simp) (by rfl)) rfl rfl ?_
    refine oG (gM (evv rfl)) rfl rfl ?_
    refine o_gyes rfl ?_
    refine oG (gM (evv rfl)) rfl rfl ?_
    refine o_gyes rfl ?_
    refine oG (g_nil (evv rfl)) rfl rfl ?_
    refine o_gyes rfl ?_
    refine oG (g_fld (evv rfl)) rfl rfl ?_
    refine o_gyes rfl ?_
    refine oG (g_load (evv rfl) (by rfl) (by rfl)) rfl rfl ?_
    refine o_gyes rfl ?_
    refine oG (g_bin (evv rfl) (evv rfl) (by rfl)) rfl rfl ?_
    refine oG (g_pick (b := false) (evv rfl) (fun h => by cases h) (fun _ => (evv rfl))) rfl rfl ?_
    refine oN ?_
    refine cC ?_
    refine r_cond rfl (fun hc => ?_) (fun hc => ?_)
    · refine rS ?_
      refine rR (id := 2) ?_
      refine oG (gA (evv rfl)) rfl rfl ?_
      refine oG (gA (evv rfl)) rfl rfl ?_
      refine oN ?_
      refine cC ?_
      exact r_ret (rs := [.tmp 2, .tmp 3]) rfl rfl _ (inA_shut (s := ⟨bs, e⟩) hr) ⟨by simp only [nextV, if_neg he]; rfl, by simp only [nextS, if_neg he]⟩
    · simp [he'] at hc
theorem next_l {L : List Atom} {i : Nat} {s : InS} {g : Atom → List Atom} [pk : Pick (inA i) L s g] :
    Fn Try.prog 95 [.pointer (some ⟨i, 0, none⟩)] L fun v L' => v = nextV s ∧ L' = g (inA i (nextS s)) := Fn.lift1 (fun F => next_c F i s) pk
theorem numStep {n k c : Nat} (hn : n < 128 ^ k) (hk : k ≤ 9) (hc : c < 256) (h9 : k = 9 → c ≤ 1) :
    IntKind.u64.wrap ↑(BitVec.ofInt IntKind.u64.bits ↑n ||| BitVec.ofInt IntKind.u64.bits (↑((↑c : Int).toNat &&& Int.toNat 127) % 18446744073709551616 * 2 ^ min (7 * (k : Int)).toNat IntKind.u64.bits % 18446744073709551616)).toNat
      = ((n + c % 128 * 128 ^ k : Nat) : Int) := by
  have e0 : min (7 * (k : Int)).toNat IntKind.u64.bits = 7 * k := by show min _ 64 = _; omega
  have e1 : (2 : Int) ^ (7 * k) = ((128 ^ k : Nat) : Int) := by rw [Int.natCast_pow]; rw [Int.pow_mul]; rfl
  have e2 : ((c : Int).toNat &&& Int.toNat 127) = c % 128 := Nat.and_two_pow_sub_one_eq_mod c 7
  have hp : 128 ^ k = 2 ^ (7 * k) := by rw [Nat.pow_mul]
  have hb : c % 128 * 128 ^ k + 128 ^ k ≤ 18446744073709551616 := by
    have : ∀ k : Nat, k ≤ 9 → 128 ^ k ≤ 9223372036854775808 := by decide
    have h1 := this k hk
    by_cases h : k = 9
    · subst h; have := h9 rfl; omega
    · have : ∀ k : Nat, k ≤ 8 → 128 ^ k ≤ 72057594037927936 := by decide
      have h2 := this k (by omega)
      have : c % 128 * 128 ^ k ≤ 127 * 128 ^ k := Nat.mul_le_mul_right _ (by omega)
      omega
  generalize hP : 128 ^ k = P at *
  rw [e0, e1, e2]
  have em : ((c % 128 : Nat) : Int) % 18446744073709551616 = ((c % 128 : Nat) : Int) := by omega
  rw [em, ← Int.natCast_mul]
  generalize hm : c % 128 * P = m at *
  have e3 : (m : Int) % 18446744073709551616 = (m : Int) := by omega
  rw [e3]
  have o1 : ∀ x : Nat, x < 18446744073709551616 → (BitVec.ofInt IntKind.u64.bits (x : Int)).toNat = x := fun x hx => by
    show (BitVec.ofInt 64 (x : Int)).toNat = x
    rw [BitVec.toNat_ofInt]; omega
  rw [BitVec.toNat_or, o1 _ (by omega), o1 _ (by omega)]
  have e4 : n ||| m = n + m := by
    rw [← hm, hp, Nat.mul_comm, Nat.or_comm, ← Nat.two_pow_add_eq_or_of_lt (by omega), Nat.add_comm]
  rw [e4]
  exact wrap_in (by simp only [inR]; omega)
def numGo : Nat → Nat → List UInt8 → Nat × InS
  | _, _, [] => (0, ⟨[], 20⟩)
  | k, n, c :: r => if k = 9 ∧ 1 < c.toNat ∨ 0 < k ∧ c.toNat = 0 then (0, ⟨[], 21⟩) else if c.toNat < 128 then (n + c.toNat % 128 * 128 ^ k, ⟨r, 0⟩) else numGo (k + 1) (n + c.toNat % 128 * 128 ^ k) r
def numR (s : InS) : Nat × InS := if s.err = 0 then numGo 0 0 s.bs else (0, s)
theorem inNum_c (F : List Atom) (i : Nat) (s : InS) : Fn Try.prog 72 [.pointer (some ⟨i, 0, none⟩)] (inA i s :: F) fun v L' => v = .int .u64 (numR s).1 ∧ L' = inA i (numR s).2 :: F := by
  refine fn_intro Try.func72 rfl Try.ntmps72 rfl (fun W0 => ?_)
  simp only [argE]
  obtain ⟨bs, e⟩ := s
  by_cases he : e = 0
  · subst he
    refine rS ?_
    refine rR (id := 0) ?_
    refine oG (gA (evv rfl)) rfl rfl ?_
    refine oN ?_
    refine cC ?_
    refine rS ?_
    refine rR (id := 1) ?_
    refine oG (gA (evv rfl)) rfl rfl ?_
    refine oN ?_
    refine cC ?_
    refine rS ?_
    refine rR (id := 2) ?_
    refine oG (gA (evv rfl)) rfl rfl ?_
    refine oN ?_
    refine cC ?_
    refine r_block ?_
    refine r_loop (σ := Nat × Nat × List UInt8) (fun s => numGo s.1 s.2.1 s.2.2 = numGo 0 0 bs ∧ s.1 ≤ 9 ∧ s.2.1 < 128 ^ s.1) (fun s => s.2.2.length) (fun s => [(0, .v (.pointer (some ⟨i, 0, none⟩))), (3, .v (.int .u64 s.2.1)), (4, .v (.int .i64 s.1))]) (fun s => inA i ⟨s.2.2, 0⟩ :: F) (0, 0, bs) ⟨rfl, Nat.zero_le _, Nat.one_pos⟩ ⟨rfl, rfl, rfl, trivial⟩ (Ent.refl _) ?_
    rintro ⟨k, n, cs⟩ ⟨h1, h2, h3⟩
    dsimp only at h1 h2 h3 ⊢
    cases cs with
    | nil =>
      refine rS ?_
      refine r_block ?_
      refine rS ?_
      refine rR (id := 4) ?_
      refine oG (gM (evv rfl)) rfl rfl ?_
      (refine o_call rfl _ (Ent.refl _) next_l rfl ?_; rintro _ _ ⟨rfl, rfl⟩)
      refine oG (gM (evv rfl)) rfl rfl ?_
      refine oG (g_extract (evv rfl) (by rfl)) rfl rfl ?_
      refine oG (g_extract (evv rfl) (by rfl)) rfl rfl ?_
      refine oG (gA (evv rfl)) rfl rfl ?_
      refine oG (gA (evv rfl)) rfl rfl ?_
      refine oN ?_
      refine cC ?_
      refine rS ?_
      refine rS ?_
      refine rR (id := 5) ?_
      refine oG (gM (evv rfl)) rfl rfl ?_
      refine oG (g_not (evv rfl)) rfl rfl ?_
      refine oN ?_
      refine cC ?_
      refine r_cond_true rfl ?_
      refine rS ?_
      refine rR (id := 6) ?_
      refine oG (gA (evv rfl)) rfl rfl ?_
      refine oN ?_
      refine cC ?_
      refine r_ret (rs := [.tmp 2]) rfl rfl _ (Ent.refl _) ?_
      simp only [numR, if_true, ← h1]
      exact ⟨rfl, rfl⟩
    | cons c r =>
      have hc256 : c.toNat < 256 := c.toNat_lt
      refine rS ?_
      refine r_block ?_
      refine rS ?_
      refine rR (id := 4) ?_
      refine oG (gM (evv rfl)) rfl rfl ?_
      (refine o_call rfl _ (Ent.refl _) next_l rfl ?_; rintro _ _ ⟨rfl, rfl⟩)
      refine oG (gM (evv rfl)) rfl rfl ?_
      refine oG (g_extract (evv rfl) (by rfl)) rfl rfl ?_
      refine oG (g_extract (evv rfl) (by rfl)) rfl rfl ?_
      refine oG (gA (evv rfl)) rfl rfl ?_
      refine oG (gA (evv rfl)) rfl rfl ?_
      refine oN ?_
      refine cC ?_
      refine rS ?_
      refine rS ?_
      refine rR (id := 5) ?_
      refine oG (gM (evv rfl)) rfl rfl ?_
      refine oG (g_not (evv rfl)) rfl rfl ?_
      refine oN ?_
      refine cC ?_
      refine r_cond_false rfl ?_
      refine r_skip ?_
      refine cC ?_
      refine rS ?_
      refine rS ?_
      refine rR (id := 7) ?_
      refine oG (gM (evv rfl)) rfl rfl ?_
      refine oG (g_bin (evv rfl) (evv rfl) (by rfl)) rfl rfl ?_
      refine oG (gM (evv rfl)) rfl rfl ?_
      refine o_lazy rfl (fun hg => gM (by first | exact evv rfl | exact evg rfl (by rw [hp]; rfl) | exact evg rfl hp | exact evg rfl hg | exact evg rfl (by first | (simp_all; done) | (simp [*]; done) | fail) | fail)) rfl rfl ?_
      refine o_lazy rfl (fun hg => g_bin (by first | exact evv rfl | exact evg rfl (by rw [hp]; rfl) | exact evg rfl hp | exact evg rfl hg | exact evg rfl (by first | (simp_all; done) | (simp [*]; done) | fail) | fail) (by first | exact evv rfl | exact evg rfl (by rw [hp]; rfl) | exact evg rfl hp | exact evg rfl hg | exact evg rfl (by first | (simp_all; done) | (simp [*]; done) | fail) | fail) (by rfl)) rfl rfl ?_
      refine oG (g_pick_and (evv rfl) (evv rfl) (fun hp => (by first | exact evv rfl | exact evg rfl (by rw [hp]; rfl) | exact evg rfl hp | exact evg rfl hg | exact evg rfl (by first | (simp_all; done) | (simp [*]; done) | fail) | fail))) rfl rfl ?_
      refine oG (gM (evv rfl)) rfl rfl ?_
      refine o_lazy rfl (fun hg => gM (by first | exact evv rfl | exact evg rfl (by rw [hp]; rfl) | exact evg rfl hp | exact evg rfl hg | exact evg rfl (by first | (simp_all; done) | (simp [*]; done) | fail) | fail)) rfl rfl ?_
      refine o_lazy rfl (fun hg => g_bin (by first | exact evv rfl | exact evg rfl (by rw [hp]; rfl) | exact evg rfl hp | exact evg rfl hg | exact evg rfl (by first | (simp_all; done) | (simp [*]; done) | fail) | fail) (by first | exact evv rfl | exact evg rfl (by rw [hp]; rfl) | exact evg rfl hp | exact evg rfl hg | exact evg rfl (by first | (simp_all; done) | (simp [*]; done) | fail) | fail) (by rfl)) rfl rfl ?_
      refine o_lazy rfl (fun hg => gM (by first | exact evv rfl | exact evg rfl (by rw [hp]; rfl) | exact evg rfl hp | exact evg rfl hg | exact evg rfl (by first | (simp_all; done) | (simp [*]; done) | fail) | fail)) rfl rfl ?_
      refine o_lazy rfl (fun hg => gM (by first | exact evv rfl | exact evg rfl (by rw [hp]; rfl) | exact evg rfl hp | exact evg rfl hg | exact evg rfl (by first | (simp_all; done) | (simp [*]; done) | fail) | fail)) rfl rfl ?_
      refine o_lazy rfl (fun hg => g_bin (by first | exact evv rfl | exact evg rfl (by rw [hp]; rfl) | exact evg rfl hp | exact evg rfl hg | exact evg rfl (by first | (simp_all; done) | (simp [*]; done) | fail) | fail) (by first | exact evv rfl | exact evg rfl (by rw [hp]; rfl) | exact evg rfl hp | exact evg rfl hg | exact evg rfl (by first | (simp_all; done) | (simp [*]; done) | fail) | fail) (by rfl)) rfl rfl ?_
      refine o_lazy rfl (fun hg => g_pick_and (by first | exact evv rfl | exact evg rfl (by rw [hp]; rfl) | exact evg rfl hp | exact evg rfl hg | exact evg rfl (by first | (simp_all; done) | (simp [*]; done) | fail) | fail) (by first | exact evv rfl | exact evg rfl (by rw [hp]; rfl) | exact evg rfl hp | exact evg rfl hg | exact evg rfl (by first | (simp_all; done) | (simp [*]; done) | fail) | fail) (fun hp => (by first | exact evv rfl | exact evg rfl (by rw [hp]; rfl) | exact evg rfl hp | exact evg rfl hg | exact evg rfl (by first | (simp_all; done) | (simp [*]; done) | fail) | fail))) rfl rfl ?_
      refine oG (g_pick_or (evv rfl) (evv rfl) (fun hp => (by first | exact evv rfl | exact evg rfl (by rw [hp]; rfl) | exact evg rfl hp | exact evg rfl hg | exact evg rfl (by first | (simp_all; done) | (simp [*]; done) | fail) | fail))) rfl rfl ?_
      refine oN ?_
      refine cC ?_
      refine r_cond rfl (fun hc => ?_) (fun hc => ?_)
      · have hb : k = 9 ∧ 1 < c.toNat ∨ 0 < k ∧ c.toNat = 0 := by simp only [Bool.or_eq_true, Bool.and_eq_true, decide_eq_true_eq] at hc; omega
        refine rS ?_
        refine rR (id := 8) ?_
        refine oG (gM (evv rfl)) rfl rfl ?_
        (refine o_call rfl _ (Ent.refl _) (fail_l _) rfl ?_; rintro _ _ ⟨rfl, rfl⟩)
        refine oN ?_
        refine cC ?_
        refine rS ?_
        refine rR (id := 9) ?_
        refine oG (gA (evv rfl)) rfl rfl ?_
        refine oN ?_
        refine cC ?_
        refine r_ret (rs := [.tmp 2]) rfl rfl _ (Ent.refl _) ?_
        have e : numR ⟨bs, 0⟩ = (0, ⟨[], 21⟩) := by simp only [numR, if_true, ← h1, numGo, if_pos hb]
        rw [e]
        exact ⟨rfl, rfl⟩
      · have hb : ¬ (k = 9 ∧ 1 < c.toNat ∨ 0 < k ∧ c.toNat = 0) := by simp only [Bool.or_eq_false_iff, Bool.and_eq_false_iff, decide_eq_false_iff_not] at hc; omega
        clear hc
        refine r_skip ?_
        refine cC ?_
        refine rS ?_
        refine rR (id := 10) ?_
        refine oG (gM (evv rfl)) rfl rfl ?_
        refine oG (gM (evv rfl)) rfl rfl ?_
        refine oG (g_bits (evv rfl) (evv rfl) (by rfl) (by omega) (by omega) (by omega) (by omega)) rfl rfl ?_
        refine o_giveU (g_conv TyU.h TyU.h (evv rfl)) (by rfl) rfl ?_
        refine oG (gM (evv rfl)) rfl rfl ?_
        refine o_giveN (g_bin (evv rfl) (evv rfl) (by rfl)) (by simp only [inR]; omega) rfl ?_
        refine o_giveU (g_shift (evv rfl) (evv rfl) (by rfl) (by omega)) (by rfl) rfl ?_
        refine oG (g_bin (evv rfl) (evv rfl) (by rfl)) rfl rfl ?_
        refine oG (gA (evv rfl)) rfl rfl ?_
        refine oN ?_
        refine cC ?_
        refine rS ?_
        refine rR (id := 11) ?_
        refine oG (gM (evv rfl)) rfl rfl ?_
        refine oG (g_bin (evv rfl) (evv rfl) (by rfl)) rfl rfl ?_
        refine oN ?_
        refine cC ?_
        rw [numStep h3 h2 hc256 (by omega)]
        have hN : n + c.toNat % 128 * 128 ^ k < 128 ^ (k + 1) := by rw [Nat.pow_succ]; have : c.toNat % 128 * 128 ^ k ≤ 127 * 128 ^ k := Nat.mul_le_mul_right _ (by omega); omega
        refine r_cond rfl (fun hc => ?_) (fun hc => ?_)
        · have hc := of_decide_eq_true hc
          refine rS ?_
          refine rR (id := 12) ?_
          refine oG (gM (evv rfl)) rfl rfl ?_
          refine oG (gA (evv rfl)) rfl rfl ?_
          refine oN ?_
          refine cC ?_
          refine r_ret (rs := [.tmp 2]) rfl rfl _ (Ent.refl _) ?_
          have e : numR ⟨bs, 0⟩ = (n + c.toNat % 128 * 128 ^ k, ⟨r, 0⟩) := by simp only [numR, if_true, ← h1, numGo, if_neg hb]; rw [if_pos (by omega)]
          rw [e]
          exact ⟨rfl, rfl⟩
        · have hc := of_decide_eq_false hc
          refine r_skip ?_
          refine c_blk ?_
          refine cC ?_
          refine rR (id := 3) ?_
          refine oG (gM (evv rfl)) rfl rfl ?_
          refine o_giveN (g_bin (evv rfl) (evv rfl) (by rfl)) (by simp only [inR]; omega) rfl ?_
          refine oG (gA (evv rfl)) rfl rfl ?_
          refine oN ?_
          refine c_loop (k + 1, n + c.toNat % 128 * 128 ^ k, r) ⟨?_, ?_, hN⟩ (by dsimp only [List.length_cons]; omega) ⟨rfl, rfl, rfl, trivial⟩ (Ent.refl _)
          · rw [← h1]; simp only [numGo, if_neg hb]; rw [if_neg (by omega)]
          · dsimp only; by_cases h9 : k = 9
            · exfalso; omega
            · omega
  · have hV : nextV ⟨bs, e⟩ = .tuple #[.int .u8 0, .bool false] := by simp only [nextV, if_neg he]
    have hS : nextS ⟨bs, e⟩ = ⟨bs, e⟩ := by simp only [nextS, if_neg he]
    have hR : numR ⟨bs, e⟩ = (0, ⟨bs, e⟩) := by simp only [numR, if_neg he]
    rw [hR]
    refine rS ?_
    refine rR (id := 0) ?_
    refine oG (gA (evv rfl)) rfl rfl ?_
    refine oN ?_
    refine cC ?_
    refine rS ?_
    refine rR (id := 1) ?_
    refine oG (gA (evv rfl)) rfl rfl ?_
    refine oN ?_
    refine cC ?_
    refine rS ?_
    refine rR (id := 2) ?_
    refine oG (gA (evv rfl)) rfl rfl ?_
    refine oN ?_
    refine cC ?_
    refine r_block ?_
    refine r_loop (σ := Unit) (fun _ => True) (fun _ => 0) (fun s => [(0, .v (.pointer (some ⟨i, 0, none⟩))), (3, .v (.int .u64 0)), (4, .v (.int .i64 0))]) (fun s => inA i ⟨bs, e⟩ :: F) () trivial ⟨rfl, rfl, rfl, trivial⟩ (Ent.refl _) ?_
    rintro ⟨⟩ -
    refine rS ?_
    refine r_block ?_
    refine rS ?_
    refine rR (id := 4) ?_
    refine oG (gM (evv rfl)) rfl rfl ?_
    (refine o_call rfl _ (Ent.refl _) next_l rfl ?_; rintro _ _ ⟨rfl, rfl⟩)
    refine oG (gM (evv rfl)) rfl rfl ?_
    rw [hV, hS]
    refine oG (g_extract (evv rfl) (by rfl)) rfl rfl ?_
    refine oG (g_extract (evv rfl) (by rfl)) rfl rfl ?_
    refine oG (gA (evv rfl)) rfl rfl ?_
    refine oG (gA (evv rfl)) rfl rfl ?_
    refine oN ?_
    refine cC ?_
    refine rS ?_
    refine rS ?_
    refine rR (id := 5) ?_
    refine oG (gM (evv rfl)) rfl rfl ?_
    refine oG (g_not (evv rfl)) rfl rfl ?_
    refine oN ?_
    refine cC ?_
    refine r_cond_true rfl ?_
    refine rS ?_
    refine rR (id := 6) ?_
    refine oG (gA (evv rfl)) rfl rfl ?_
    refine oN ?_
    refine cC ?_
    exact r_ret (rs := [.tmp 2]) rfl rfl _ (Ent.refl _) ⟨rfl, rfl⟩
theorem inNum_l {L : List Atom} {i : Nat} {s : InS} {g : Atom → List Atom} [pk : Pick (inA i) L s g] :
    Fn Try.prog 72 [.pointer (some ⟨i, 0, none⟩)] L fun v L' => v = .int .u64 (numR s).1 ∧ L' = g (inA i (numR s).2) := Fn.lift1 (fun F => inNum_c F i s) pk
theorem numGo_le : ∀ {bs : List UInt8} {k n : Nat}, n < 128 ^ k → k ≤ 9 → (numGo k n bs).1 ≤ 18446744073709551615
  | [], k, n, _, _ => by simp [numGo]
  | c :: r, k, n, h, hk => by
    simp only [numGo]
    split
    · simp
    · rename_i hb
      have h1 : c.toNat % 128 * 128 ^ k ≤ 127 * 128 ^ k := Nat.mul_le_mul_right _ (by omega)
      split
      · dsimp only
        by_cases h9 : k = 9
        · subst h9
          have : c.toNat ≤ 1 := by omega
          have : c.toNat % 128 * 128 ^ 9 ≤ 1 * 128 ^ 9 := Nat.mul_le_mul_right _ (by omega)
          omega
        · have : ∀ k : Nat, k ≤ 8 → 128 ^ k ≤ 72057594037927936 := by decide
          have := this k (by omega)
          omega
      · rename_i hc
        by_cases h9 : k = 9
        · omega
        · exact numGo_le (by rw [Nat.pow_succ]; omega) (by omega)
theorem numR_le (s : InS) : (numR s).1 ≤ 18446744073709551615 := by
  unfold numR
  split
  · exact numGo_le (by simp) (by omega)
  · simp
end VK

namespace VK
open Go Go.Proofs
set_option linter.unusedSimpArgs false
set_option linter.unusedVariables false
set_option maxRecDepth 100000
set_option maxHeartbeats 40000000
def unzig (n : Nat) : Int := if n % 2 = 0 then (n / 2 : Nat) else -(n / 2 : Nat) - 1
theorem unzig_bits {n : Nat} (h : n ≤ 18446744073709551615) :
    IntKind.i64.wrap ↑(BitVec.ofInt IntKind.i64.bits (↑n / 2) ^^^ BitVec.ofInt IntKind.i64.bits (IntKind.i64.wrap (0 - IntKind.i64.wrap ↑((↑n : Int).toNat &&& Int.toNat 1)))).toNat = unzig n := by
  have e2 : ((n : Int).toNat &&& Int.toNat 1) = n % 2 := Nat.and_two_pow_sub_one_eq_mod n 1
  have e1 : (BitVec.ofInt IntKind.i64.bits (↑n / 2 : Int)).toNat = n / 2 := by
    show (BitVec.ofInt 64 (↑n / 2 : Int)).toNat = n / 2
    rw [BitVec.toNat_ofInt]; omega
  rw [e2, BitVec.toNat_xor, e1]
  unfold unzig
  by_cases h0 : n % 2 = 0
  · rw [if_pos h0, h0]
    have e3 : (BitVec.ofInt IntKind.i64.bits (IntKind.i64.wrap (0 - IntKind.i64.wrap ((0 : Nat) : Int)))).toNat = 0 := by decide
    rw [e3, Nat.xor_zero]
    exact wrap_in (by simp only [inR]; omega)
  · have h1 : n % 2 = 1 := by omega
    rw [if_neg h0, h1]
    have e3 : (BitVec.ofInt IntKind.i64.bits (IntKind.i64.wrap (0 - IntKind.i64.wrap ((1 : Nat) : Int)))).toNat = 2 ^ 64 - 1 := by decide
    rw [e3, xor_ones _ (by omega)]
    simp [IntKind.wrap, IntKind.bits, IntKind.signed]
    omega
theorem inInt_c (F : List Atom) (i : Nat) (s : InS) : Fn Try.prog 102 [.pointer (some ⟨i, 0, none⟩)] (inA i s :: F) fun v L' => v = .int .i64 (unzig (numR s).1) ∧ L' = inA i (numR s).2 :: F := by
  refine fn_intro Try.func102 rfl Try.ntmps102 rfl (fun W0 => ?_)
  simp only [argE]
  have hn := numR_le s
  refine rS ?_
  refine rR (id := 0) ?_
  refine oG (gA (evv rfl)) rfl rfl ?_
  refine oN ?_
  refine cC ?_
  refine rS ?_
  refine rR (id := 1) ?_
  refine oG (gM (evv rfl)) rfl rfl ?_
  (refine o_call rfl _ (Ent.refl _) inNum_l rfl ?_; rintro _ _ ⟨rfl, rfl⟩)
  refine oG (gA (evv rfl)) rfl rfl ?_
  refine oN ?_
  refine cC ?_
  refine rS ?_
  refine rR (id := 2) ?_
  refine oG (gM (evv rfl)) rfl rfl ?_
  refine oG (g_shrC 2 (evv rfl) (evv rfl) (by rfl) (by decide)) rfl rfl ?_
  refine o_giveN (g_conv TyU.h TyU.h (evv rfl)) (by simp only [inR]; omega) rfl ?_
  refine oG (gM (evv rfl)) rfl rfl ?_
  refine oG (g_bits (evv rfl) (evv rfl) (by rfl) (by omega) (by omega) (by omega) (by omega)) rfl rfl ?_
  refine oG (g_conv TyU.h TyU.h (evv rfl)) rfl rfl ?_
  refine oG (g_neg (evv rfl)) rfl rfl ?_
  refine oG (g_bin (evv rfl) (evv rfl) (by rfl)) rfl rfl ?_
  refine oG (gA (evv rfl)) rfl rfl ?_
  refine oN ?_
  refine cC ?_
  rw [unzig_bits hn]
  exact r_ret (rs := [.tmp 2]) rfl rfl _ (Ent.refl _) ⟨rfl, rfl⟩
theorem inInt_l {L : List Atom} {i : Nat} {s : InS} {g : Atom → List Atom} [pk : Pick (inA i) L s g] :
    Fn Try.prog 102 [.pointer (some ⟨i, 0, none⟩)] L fun v L' => v = .int .i64 (unzig (numR s).1) ∧ L' = g (inA i (numR s).2) := Fn.lift1 (fun F => inInt_c F i s) pk
theorem inEnd_c (F : List Atom) (i : Nat) (s : InS) : Fn Try.prog 74 [.pointer (some ⟨i, 0, none⟩)] (inA i s :: F) fun v L' => v = .bool (decide (s.err = 0 ∧ s.bs.length = 0)) ∧ L' = inA i s :: F := by
  refine Fn.exA ?_
  rintro ⟨⟨v, w, full⟩, hr⟩
  dsimp only at hr
  refine fn_intro Try.func74 rfl Try.ntmps74 rfl (fun W0 => ?_)
  haveI := hr.one (F := F)
  simp only [inX, List.cons_append, List.nil_append, argE]
  refine rS ?_
  refine rR (id := 0) ?_
  refine oG (gA (evv rfl)) rfl rfl ?_
  refine oN ?_
  refine cC ?_
  refine rS ?_
  refine rR (id := 1) ?_
  refine oG (gM (evv rfl)) rfl rfl ?_
  refine oG (g_pnil TyU.h (evv rfl) (evv rfl) (by simp) (by rfl)) rfl rfl ?_
  refine oG (gM (evv rfl)) rfl rfl ?_
  refine o_gyes rfl ?_
  refine oG (gM (evv rfl)) rfl rfl ?_
  refine o_gyes rfl ?_
  refine oG (g_nil (evv rfl)) rfl rfl ?_
  refine o_gyes rfl ?_
  refine oG (g_fld (evv rfl)) rfl rfl ?_
  refine o_gyes rfl ?_
  refine oG (g_load (evv rfl) (by rfl) (by rfl)) rfl rfl ?_
  refine o_gyes rfl ?_
  refine oG (g_bin (evv rfl) (evv rfl) (by rfl)) rfl rfl ?_
  refine oG (g_pick (b := true) (evv rfl) (fun _ => (evv rfl)) (fun h => by cases h)) rfl rfl ?_
  refine oG (gM (evv rfl)) rfl rfl ?_
  refine o_lazy rfl (fun hg => gM (by first | exact evv rfl | exact evg rfl (by rw [hp]; rfl) | exact evg rfl hp | exact evg rfl hg | exact evg rfl (by first | (simp_all; done) | (simp [*]; done) | fail) | fail)) rfl rfl ?_
  refine o_lazy rfl (fun hg => g_nil (by first | exact evv rfl | exact evg rfl (by rw [hp]; rfl) | exact evg rfl hp | exact evg rfl hg | exact evg rfl (by first | (simp_all; done) | (simp [*]; done) | fail) | fail)) rfl rfl ?_
  refine o_lazy rfl (fun hg => g_fld (evg rfl hg)) rfl rfl ?_
  refine o_lazy rfl (fun hg => g_load (evg rfl hg) (by rfl) (by rfl)) rfl rfl ?_
  refine o_lazy rfl (fun hg => g_lenM (by first | exact evv rfl | exact evg rfl (by rw [hp]; rfl) | exact evg rfl hp | exact evg rfl hg | exact evg rfl (by first | (simp_all; done) | (simp [*]; done) | fail) | fail)) rfl rfl ?_
  refine o_lazy rfl (fun hg => g_bin (by first | exact evv rfl | exact evg rfl (by rw [hp]; rfl) | exact evg rfl hp | exact evg rfl hg | exact evg rfl (by first | (simp_all; done) | (simp [*]; done) | fail) | fail) (by first | exact evv rfl | exact evg rfl (by rw [hp]; rfl) | exact evg rfl hp | exact evg rfl hg | exact evg rfl (by first | (simp_all; done) | (simp [*]; done) | fail) | fail) (by rfl)) rfl rfl ?_
  refine oG (g_pick_and (evv rfl) (evv rfl) (fun hp => (by first | exact evv rfl | exact evg rfl (by rw [hp]; rfl) | exact evg rfl hp | exact evg rfl hg | exact evg rfl (by first | (simp_all; done) | (simp [*]; done) | fail) | fail))) rfl rfl ?_
  refine oG (gA (evv rfl)) rfl rfl ?_
  refine oN ?_
  refine cC ?_
  refine r_ret (rs := [.tmp 2]) rfl rfl _ (inA_shut (s := s) hr) ⟨?_, rfl⟩
  simp [tupV, Bool.decide_and]
theorem inEnd_l {L : List Atom} {i : Nat} {s : InS} {g : Atom → List Atom} [pk : Pick (inA i) L s g] :
    Fn Try.prog 74 [.pointer (some ⟨i, 0, none⟩)] L fun v L' => v = .bool (decide (s.err = 0 ∧ s.bs.length = 0)) ∧ L' = g (inA i s) := Fn.lift1 (fun F => inEnd_c F i s) pk
theorem Read_c (F : List Atom) (v : Value) (bs : List UInt8) (hb : bs.length ≤ 140737488355000) [hr : Rd F v (mrow by8 5 bs)] : Fn Try.prog 67 [v] F fun v L' => ∃ i, v = .pointer (some ⟨i, 0, none⟩) ∧ L' = inA i ⟨bs, 0⟩ :: F := by
  refine fn_intro Try.func67 rfl Try.ntmps67 rfl (fun W0 => ?_)
  simp only [argE]
  refine rS ?_
  refine rR (id := 0) ?_
  refine oG (gA (evv rfl)) rfl rfl ?_
  refine oN ?_
  refine cC ?_
  refine rS ?_
  refine rR (id := 1) ?_
  refine oG (gM (evv rfl)) rfl rfl ?_
  refine o_nilM by8 5 ?_
  refine o_appM (evv rfl) (evv rfl) (by rfl) (by rfl) (by rfl) (by (try simp only [bsOf, List.length_append, List.length_cons, List.length_nil, List.length_take, List.length_drop, List.length_map, List.length_range]); omega) rfl (fun _ => ?_)
  refine oG (g_buildC rfl (by rfl)) rfl rfl ?_
  refine o_boxA (evv rfl) rfl (fun _ => ?_)
  refine oG (gA (evv rfl)) rfl rfl ?_
  refine oN ?_
  refine cC ?_
  rename_i u b
  refine r_ret (rs := [.tmp 2]) rfl rfl _ (inA_shut (s := ⟨bs, 0⟩) (Rd.head _ _ _)) ⟨b, rfl, rfl⟩
end VK

namespace VK
open Go Go.Proofs
set_option linter.unusedSimpArgs false
set_option linter.unusedVariables false
set_option maxRecDepth 100000
set_option maxHeartbeats 40000000
def takeR (n : Nat) (s : InS) : List UInt8 × InS := if s.err = 0 then (if s.bs.length < n then ([], ⟨[], 20⟩) else (s.bs.take n, ⟨s.bs.drop n, 0⟩)) else ([], s)
def TakeP (F : List Atom) (i : Nat) (out : List UInt8) (s' : InS) (v : Value) (L' : List Atom) : Prop :=
  ∃ x, L' = inX i s' x ++ F ∧ Rd [sl x.1.2.1 (mrow by8 5 x.1.2.2)] v (mrow by8 5 out)
theorem take_c (F : List Atom) (i : Nat) (s : InS) (n : Nat) (hn : n ≤ 9223372036854775807) : Fn Try.prog 104 [.pointer (some ⟨i, 0, none⟩), .int .i64 n] (inA i s :: F) (TakeP F i (takeR n s).1 (takeR n s).2) := by
  obtain ⟨bs, e⟩ := s
  refine Fn.exA ?_
  rintro ⟨⟨v, w, full⟩, hr⟩
  dsimp only at hr
  refine fn_intro Try.func104 rfl Try.ntmps104 rfl (fun W0 => ?_)
  haveI := hr.one (F := F)
  simp only [inX, List.cons_append, List.nil_append, argE]
  by_cases he : e = 0
  · subst he
    by_cases hl : bs.length < n
    · have e : takeR n ⟨bs, 0⟩ = ([], ⟨[], 20⟩) := by simp [takeR, hl]
      rw [e]
      refine rS ?_
      refine rR (id := 0) ?_
      refine oG (gA (evv rfl)) rfl rfl ?_
      refine oN ?_
      refine cC ?_
      refine rS ?_
      refine rS ?_
      refine rR (id := 1) ?_
      refine oG (gM (evv rfl)) rfl rfl ?_
      refine oG (g_pnil TyU.h (evv rfl) (evv rfl) (by simp) (by rfl)) rfl rfl ?_
      refine oG (gM (evv rfl)) rfl rfl ?_
      refine o_gyes rfl ?_
      refine oG (gM (evv rfl)) rfl rfl ?_
      refine o_gyes rfl ?_
      refine oG (g_nil (evv rfl)) rfl rfl ?_
      refine o_gyes rfl ?_
      refine oG (g_fld (evv rfl)) rfl rfl ?_
      refine o_gyes rfl ?_
      refine oG (g_load (evv rfl) (by rfl) (by rfl)) rfl rfl ?_
      refine o_gyes rfl ?_
      refine oG (g_bin (evv rfl) (evv rfl) (by rfl)) rfl rfl ?_
      refine oG (g_pick (b := false) (evv rfl) (fun h => by cases h) (fun _ => (evv rfl))) rfl rfl ?_
      refine oN ?_
      refine cC ?_
      refine r_cond_false rfl ?_
      refine r_skip ?_
      refine cC ?_
      refine rS ?_
      refine rS ?_
      refine rR (id := 3) ?_
      refine oG (gM (evv rfl)) rfl rfl ?_
      refine oG (gM (evv rfl)) rfl rfl ?_
      refine oG (g_nil (evv rfl)) rfl rfl ?_
      refine oG (g_fld (evv rfl)) rfl rfl ?_
      refine oG (g_load (evv rfl) (by rfl) (by rfl)) rfl rfl ?_
      refine oG (g_lenM (evv rfl)) rfl rfl ?_
      refine oG (g_bin (evv rfl) (evv rfl) (by rfl)) rfl rfl ?_
      refine oN ?_
      refine cC ?_
      refine r_cond rfl (fun hc => ?_) (fun hc => ?_)
      · refine rS ?_
        refine r_ent _ (inA_shut (s := ⟨bs, 0⟩) hr) ?_
        refine rR (id := 4) ?_
        refine oG (gM (evv rfl)) rfl rfl ?_
        (refine o_call rfl _ (Ent.refl _) (fail_l _) rfl ?_; rintro _ _ ⟨rfl, rfl⟩)
        refine oN ?_
        refine cC ?_
        refine rS ?_
        refine rR (id := 5) ?_
        refine oG (gA (evv rfl)) rfl rfl ?_
        refine oN ?_
        refine cC ?_
        refine r_exA ?_
        rintro ⟨⟨v2, w2, f2⟩, hr2⟩
        exact r_ret (rs := [.tmp 4]) rfl rfl _ (Ent.refl _) ⟨⟨(v2, w2, f2), hr2⟩, rfl, Rd.nilM by8 _⟩
      · have := of_decide_eq_false hc
        omega
    · have e : takeR n ⟨bs, 0⟩ = (bs.take n, ⟨bs.drop n, 0⟩) := by simp [takeR, hl]
      rw [e]
      refine rS ?_
      refine rR (id := 0) ?_
      refine oG (gA (evv rfl)) rfl rfl ?_
      refine oN ?_
      refine cC ?_
      refine rS ?_
      refine rS ?_
      refine rR (id := 1) ?_
      refine oG (gM (evv rfl)) rfl rfl ?_
      refine oG (g_pnil TyU.h (evv rfl) (evv rfl) (by simp) (by rfl)) rfl rfl ?_
      refine oG (gM (evv rfl)) rfl rfl ?_
      refine o_gyes rfl ?_
      refine oG (gM (evv rfl)) rfl rfl ?_
      refine o_gyes rfl ?_
      refine oG (g_nil (evv rfl)) rfl rfl ?_
      refine o_gyes rfl ?_
      refine oG (g_fld (evv rfl)) rfl rfl ?_
      refine o_gyes rfl ?_
      refine oG (g_load (evv rfl) (by rfl) (by rfl)) rfl rfl ?_
      refine o_gyes rfl ?_
      refine oG (g_bin (evv rfl) (evv rfl) (by rfl)) rfl rfl ?_
      refine oG (g_pick (b := false) (evv rfl) (fun h => by cases h) (fun _ => (evv rfl))) rfl rfl ?_
      refine oN ?_
      refine cC ?_
      refine r_cond_false rfl ?_
      refine r_skip ?_
      refine cC ?_
      refine rS ?_
      refine rS ?_
      refine rR (id := 3) ?_
      refine oG (gM (evv rfl)) rfl rfl ?_
      refine oG (gM (evv rfl)) rfl rfl ?_
      refine oG (g_nil (evv rfl)) rfl rfl ?_
      refine oG (g_fld (evv rfl)) rfl rfl ?_
      refine oG (g_load (evv rfl) (by rfl) (by rfl)) rfl rfl ?_
      refine oG (g_lenM (evv rfl)) rfl rfl ?_
      refine oG (g_bin (evv rfl) (evv rfl) (by rfl)) rfl rfl ?_
      refine oN ?_
      refine cC ?_
      refine r_cond rfl (fun hc => ?_) (fun hc => ?_)
      · have := of_decide_eq_true hc
        omega
      · refine r_skip ?_
        refine cC ?_
        refine rS ?_
        refine rR (id := 6) ?_
        refine oG (gM (evv rfl)) rfl rfl ?_
        refine oG (g_nil (evv rfl)) rfl rfl ?_
        refine oG (g_fld (evv rfl)) rfl rfl ?_
        refine oG (g_load (evv rfl) (by rfl) (by rfl)) rfl rfl ?_
        refine oG (gM (evv rfl)) rfl rfl ?_
        refine oG (g_subM (evv rfl) _ _ bnd_none (bnd_some (evv rfl) rfl) (by rfl) (by omega) (by first | omega | (simp only [List.length_append, List.length_cons, List.length_nil, List.length_set, List.length_map]; omega))) rfl rfl ?_
        refine oG (gA (evv rfl)) rfl rfl ?_
        refine oN ?_
        refine cC ?_
        refine rS ?_
        refine rR (id := 7) ?_
        refine oG (gM (evv rfl)) rfl rfl ?_
        refine oG (gM (evv rfl)) rfl rfl ?_
        refine oG (g_nil (evv rfl)) rfl rfl ?_
        refine oG (g_fld (evv rfl)) rfl rfl ?_
        refine oG (g_load (evv rfl) (by rfl) (by rfl)) rfl rfl ?_
        refine oG (gM (evv rfl)) rfl rfl ?_
        refine oG (g_subM (evv rfl) _ _ (bnd_some (evv rfl) rfl) bnd_none (by rfl) (by omega) (by first | omega | (simp only [List.length_append, List.length_cons, List.length_nil, List.length_set, List.length_map]; omega))) rfl rfl ?_
        refine oG (g_nil (evv rfl)) rfl rfl ?_
        refine oG (g_fld (evv rfl)) rfl rfl ?_
        refine o_store1 (evv rfl) (evv rfl) (by rfl) (by rfl) (by rfl) ?_
        refine oN ?_
        refine cC ?_
        refine rS ?_
        refine rR (id := 8) ?_
        refine oG (gM (evv rfl)) rfl rfl ?_
        refine oG (gA (evv rfl)) rfl rfl ?_
        refine oN ?_
        refine cC ?_
        refine r_ret (rs := [.tmp 4]) rfl rfl _ (Ent.refl _) ⟨⟨(_, w, full), (Rd.subM (rd := hr)).as ?_⟩, rfl, (Rd.subM (rd := hr)).as (by simp)⟩
        rw [List.take_of_length_le (by simp)]
  · have he' : decide (e = 0) = false := decide_eq_false he
    have e1 : takeR n ⟨bs, e⟩ = ([], ⟨bs, e⟩) := by simp [takeR, he]
    rw [e1]
    refine rS ?_
    refine rR (id := 0) ?_
    refine oG (gA (evv rfl)) rfl rfl ?_
    refine oN ?_
    refine cC ?_
    refine rS ?_
    refine rS ?_
    refine rR (id := 1) ?_
    refine oG (gM (evv rfl)) rfl rfl ?_
    refine oG (g_pnil TyU.h (evv rfl) (evv rfl) (by simp) (by rfl)) rfl rfl ?_
    refine oG (gM (evv rfl)) rfl rfl ?_
    refine o_gyes rfl ?_
    refine oG (gM (evv rfl)) rfl rfl ?_
    refine o_gyes rfl ?_
    refine oG (g_nil (evv rfl)) rfl rfl ?_
    refine o_gyes rfl ?_
    refine oG (g_fld (evv rfl)) rfl rfl ?_
    refine o_gyes rfl ?_
    refine oG (g_load (evv rfl) (by rfl) (by rfl)) rfl rfl ?_
    refine o_gyes rfl ?_
    refine oG (g_bin (evv rfl) (evv rfl) (by rfl)) rfl rfl ?_
    refine oG (g_pick (b := false) (evv rfl) (fun h => by cases h) (fun _ => (evv rfl))) rfl rfl ?_
    refine oN ?_
    refine cC ?_
    refine r_cond rfl (fun hc => ?_) (fun hc => ?_)
    · refine rS ?_
      refine rR (id := 2) ?_
      refine oG (gA (evv rfl)) rfl rfl ?_
      refine oN ?_
      refine cC ?_
      exact r_ret (rs := [.tmp 4]) rfl rfl _ (Ent.refl _) ⟨⟨(v, w, full), hr⟩, rfl, Rd.nilM by8 _⟩
    · simp [he'] at hc
theorem take_z (F : List Atom) (i : Nat) (s : InS) (z : Int) (hn : 0 ≤ z ∧ z ≤ 9223372036854775807) : Fn Try.prog 104 [.pointer (some ⟨i, 0, none⟩), .int .i64 z] (inA i s :: F) (TakeP F i (takeR z.toNat s).1 (takeR z.toNat s).2) := by
  have h := take_c F i s z.toNat (by omega)
  rwa [Int.toNat_of_nonneg hn.1] at h
def textR (most : Int) (s : InS) : List UInt8 × InS := if (numR s).2.err = 0 then (if max most 0 < (numR s).1 then ([], ⟨[], 2⟩) else takeR (numR s).1 (numR s).2) else ([], (numR s).2)
theorem inText_c (F : List Atom) (i : Nat) (s : InS) (most : Int) (hm : -9223372036854775808 ≤ most ∧ most ≤ 9223372036854775807) :
    Fn Try.prog 94 [.pointer (some ⟨i, 0, none⟩), .int .i64 most] (inA i s :: F) fun v L' => v = str (textR most s).1 ∧ L' = inA i (textR most s).2 :: F := by
  refine fn_intro Try.func94 rfl Try.ntmps94 rfl (fun W0 => ?_)
  simp only [argE]
  have hn := numR_le s
  refine rS ?_
  refine rR (id := 0) ?_
  refine oG (gA (evv rfl)) rfl rfl ?_
  refine oN ?_
  refine cC ?_
  refine rS ?_
  refine rR (id := 1) ?_
  refine oG (gM (evv rfl)) rfl rfl ?_
  (refine o_call rfl _ (Ent.refl _) inNum_l rfl ?_; rintro _ _ ⟨rfl, rfl⟩)
  refine oG (gA (evv rfl)) rfl rfl ?_
  refine oN ?_
  refine cC ?_
  refine rS ?_
  refine rS ?_
  rw [textR]
  generalize (numR s).1 = n at hn ⊢
  generalize (numR s).2 = s1
  obtain ⟨bs, e⟩ := s1
  refine r_exA ?_
  rintro ⟨⟨v, w, full⟩, hr⟩
  dsimp only at hr
  haveI := hr.one (F := F)
  simp only [inX, List.cons_append, List.nil_append]
  by_cases he : e = 0
  · subst he
    rw [if_pos rfl]
    refine rR (id := 2) ?_
    refine oG (gM (evv rfl)) rfl rfl ?_
    refine oG (g_pnil TyU.h (evv rfl) (evv rfl) (by simp) (by rfl)) rfl rfl ?_
    refine oG (gM (evv rfl)) rfl rfl ?_
    refine o_gyes rfl ?_
    refine oG (gM (evv rfl)) rfl rfl ?_
    refine o_gyes rfl ?_
    refine oG (g_nil (evv rfl)) rfl rfl ?_
    refine o_gyes rfl ?_
    refine oG (g_fld (evv rfl)) rfl rfl ?_
    refine o_gyes rfl ?_
    refine oG (g_load (evv rfl) (by rfl) (by rfl)) rfl rfl ?_
    refine o_gyes rfl ?_
    refine oG (g_bin (evv rfl) (evv rfl) (by rfl)) rfl rfl ?_
    refine oG (g_pick (b := false) (evv rfl) (fun h => by cases h) (fun _ => (evv rfl))) rfl rfl ?_
    refine oN ?_
    refine cC ?_
    refine r_cond_false rfl ?_
    refine r_skip ?_
    refine cC ?_
    refine rS ?_
    refine rS ?_
    refine rR (id := 4) ?_
    refine oG (gM (evv rfl)) rfl rfl ?_
    refine oG (gM (evv rfl)) rfl rfl ?_
    refine oG (g_max2 (evv rfl) (evv rfl)) rfl rfl ?_
    refine o_giveN (g_conv TyU.h TyU.h (evv rfl)) (by simp only [inR]; omega) rfl ?_
    refine oG (g_bin (evv rfl) (evv rfl) (by rfl)) rfl rfl ?_
    refine oN ?_
    refine cC ?_
    refine r_cond rfl (fun hc => ?_) (fun hc => ?_)
    · have hc := of_decide_eq_true hc
      rw [if_pos hc]
      refine rS ?_
      refine r_ent _ (inA_shut (s := ⟨bs, 0⟩) hr) ?_
      refine rR (id := 5) ?_
      refine oG (gM (evv rfl)) rfl rfl ?_
      (refine o_call rfl _ (Ent.refl _) (fail_l _) rfl ?_; rintro _ _ ⟨rfl, rfl⟩)
      refine oN ?_
      refine cC ?_
      refine rS ?_
      refine rR (id := 6) ?_
      refine oG (gA (evv rfl)) rfl rfl ?_
      refine oN ?_
      refine cC ?_
      exact r_ret (rs := [.tmp 4]) rfl rfl _ (Ent.refl _) ⟨rfl, rfl⟩
    · have hc := of_decide_eq_false hc
      rw [if_neg hc]
      refine r_skip ?_
      refine cC ?_
      refine rS ?_
      refine r_ent _ (inA_shut (s := ⟨bs, 0⟩) hr) ?_
      refine rR (id := 7) ?_
      refine oG (gM (evv rfl)) rfl rfl ?_
      refine oG (gM (evv rfl)) rfl rfl ?_
      refine o_giveN (g_conv TyU.h TyU.h (evv rfl)) (by simp only [inR]; omega) rfl ?_
      (refine o_call rfl _ (Ent.refl _) (take_z _ _ _ _ (by omega)) rfl ?_; rintro _ _ ⟨⟨⟨vt, wt, ft⟩, hrt⟩, rfl, hvt⟩; simp only [inX, List.cons_append, List.nil_append]; haveI hvt1 := fun F => Rd.one (F := F) hvt)
      refine oG (g_b2sM (evv rfl)) rfl rfl ?_
      refine oG (gA (evv rfl)) rfl rfl ?_
      refine oN ?_
      refine cC ?_
      exact r_ret (rs := [.tmp 4]) rfl rfl _ (inA_shut hrt) ⟨rfl, rfl⟩
  · have he' : decide (e = 0) = false := decide_eq_false he
    rw [if_neg he]
    refine rR (id := 2) ?_
    refine oG (gM (evv rfl)) rfl rfl ?_
    refine oG (g_pnil TyU.h (evv rfl) (evv rfl) (by simp) (by rfl)) rfl rfl ?_
    refine oG (gM (evv rfl)) rfl rfl ?_
    refine o_gyes rfl ?_
    refine oG (gM (evv rfl)) rfl rfl ?_
    refine o_gyes rfl ?_
    refine oG (g_nil (evv rfl)) rfl rfl ?_
    refine o_gyes rfl ?_
    refine oG (g_fld (evv rfl)) rfl rfl ?_
    refine o_gyes rfl ?_
    refine oG (g_load (evv rfl) (by rfl) (by rfl)) rfl rfl ?_
    refine o_gyes rfl ?_
    refine oG (g_bin (evv rfl) (evv rfl) (by rfl)) rfl rfl ?_
    refine oG (g_pick (b := false) (evv rfl) (fun h => by cases h) (fun _ => (evv rfl))) rfl rfl ?_
    refine oN ?_
    refine cC ?_
    refine r_cond rfl (fun hc => ?_) (fun hc => ?_)
    · refine rS ?_
      refine rR (id := 3) ?_
      refine oG (gA (evv rfl)) rfl rfl ?_
      refine oN ?_
      refine cC ?_
      exact r_ret (rs := [.tmp 4]) rfl rfl _ (inA_shut (s := ⟨bs, e⟩) hr) ⟨rfl, rfl⟩
    · simp [he'] at hc
theorem inText_l {L : List Atom} {i : Nat} {s : InS} {g : Atom → List Atom} [pk : Pick (inA i) L s g] (most : Int) (hm : -9223372036854775808 ≤ most ∧ most ≤ 9223372036854775807) :
    Fn Try.prog 94 [.pointer (some ⟨i, 0, none⟩), .int .i64 most] L fun v L' => v = str (textR most s).1 ∧ L' = g (inA i (textR most s).2) := Fn.lift1 (fun F => inText_c F i s most hm) pk
end VK

namespace VK
open Go Go.Proofs
set_option linter.unusedSimpArgs false
set_option linter.unusedVariables false
set_option maxRecDepth 100000
set_option maxHeartbeats 40000000
theorem numGo_num : ∀ (m k n : Nat) (r : List UInt8), k ≤ 9 → n < 128 ^ k → n + m * 128 ^ k ≤ 18446744073709551615 → (0 < k → 0 < m) → numGo k n (num m ++ r) = (n + m * 128 ^ k, ⟨r, 0⟩)
  | m, k, n, r, hk, hn, hm, h0 => by
    by_cases hb : 127 < m
    · rw [num_big hb, List.cons_append]
      have hc : (UInt8.ofNat (m % 128 + 128)).toNat = m % 128 + 128 := by simp; omega
      have hk8 : k ≤ 8 := by
        by_cases h9 : k = 9
        · subst h9; omega
        · omega
      simp only [numGo, hc]
      rw [if_neg (by omega), if_neg (by omega)]
      have e1 : (m % 128 + 128) % 128 = m % 128 := by omega
      have e2 : 128 ^ (k + 1) = 128 * 128 ^ k := by rw [Nat.pow_succ, Nat.mul_comm]
      have e3 : m * 128 ^ k = m % 128 * 128 ^ k + m / 128 * 128 ^ (k + 1) := by
        rw [e2, ← Nat.mul_assoc, ← Nat.add_mul]; congr 1; omega
      have hlt : m % 128 * 128 ^ k ≤ 127 * 128 ^ k := Nat.mul_le_mul_right _ (by omega)
      rw [e1, numGo_num (m / 128) (k + 1) _ r (by omega) (by omega) (by omega) (fun _ => by omega)]
      rw [e3]; congr 1; omega
    · rw [num_small hb, List.cons_append, List.nil_append]
      have hc : (UInt8.ofNat m).toNat = m := by simp; omega
      simp only [numGo, hc]
      rw [if_neg (by
        rintro (⟨rfl, h⟩ | ⟨h, h'⟩)
        · have : 2 * 128 ^ 9 ≤ m * 128 ^ 9 := Nat.mul_le_mul_right _ (by omega)
          omega
        · have := h0 h; omega), if_pos (by omega)]
      rw [Nat.mod_eq_of_lt (by omega)]
  termination_by m => m
  decreasing_by omega
theorem numR_num {m : Nat} (r : List UInt8) (h : m ≤ 18446744073709551615) : numR ⟨num m ++ r, 0⟩ = (m, ⟨r, 0⟩) := by
  simp only [numR, if_true]
  rw [numGo_num m 0 0 r (by omega) (by simp) (by simpa using h) (by omega)]
  simp
theorem unzig_zig {n : Int} : unzig (zig n) = n := by unfold unzig zig; split <;> split <;> omega
theorem zig_unzig {n : Nat} : zig (unzig n) = n := by unfold unzig zig; split <;> split <;> omega
theorem textR_back {s r : List UInt8} {most : Int} (h : s.length ≤ 1048576) (hm : (s.length : Int) ≤ max most 0) : textR most ⟨textB s ++ r, 0⟩ = (s, ⟨r, 0⟩) := by
  have h1 := numR_num (m := s.length) (s ++ r) (by omega)
  rw [textR, textB, List.append_assoc, h1]
  rw [if_pos rfl, if_neg (by omega)]
  have : takeR s.length ⟨s ++ r, 0⟩ = (s, ⟨r, 0⟩) := by simp [takeR]
  exact this
theorem numGo_canon : ∀ (b : List UInt8) (k n m : Nat) (r : List UInt8), numGo k n b = (m, ⟨r, 0⟩) → ∃ q, b = num q ++ r ∧ m = n + q * 128 ^ k ∧ (0 < k → 0 < q)
  | [], k, n, m, r, h => by simp [numGo] at h
  | c :: b, k, n, m, r, h => by
    have hc8 := c.toNat_lt
    simp only [numGo] at h
    split at h
    · simp at h
    · rename_i hb
      split at h
      · rename_i hc
        simp only [Prod.mk.injEq, InS.mk.injEq, and_true] at h
        obtain ⟨rfl, rfl⟩ := h
        refine ⟨c.toNat, ?_, by rw [Nat.mod_eq_of_lt hc], fun hk => by omega⟩
        rw [num_small (by omega)]
        simp
      · rename_i hc
        obtain ⟨q, e1, e2, e3⟩ := numGo_canon b (k + 1) _ m r h
        have hq := e3 (by omega)
        refine ⟨c.toNat % 128 + 128 * q, ?_, ?_, fun _ => by omega⟩
        · rw [num_big (by omega), show (c.toNat % 128 + 128 * q) / 128 = q by omega, show (c.toNat % 128 + 128 * q) % 128 + 128 = c.toNat by omega, e1]
          simp
        · rw [e2, Nat.pow_succ, Nat.add_mul, Nat.add_assoc]
          congr 2
          rw [Nat.mul_comm 128 q, Nat.mul_assoc, Nat.mul_comm 128]
theorem num_canon {s : InS} {m : Nat} {r : List UInt8} (h : numR s = (m, ⟨r, 0⟩)) : s = ⟨num m ++ r, 0⟩ := by
  obtain ⟨b, e⟩ := s
  unfold numR at h
  split at h
  · rename_i he
    have he : e = 0 := he
    subst he
    obtain ⟨q, e1, e2, _⟩ := numGo_canon b 0 0 m r h
    have : m = q := by simpa using e2
    subst this
    rw [e1]
  · rename_i he
    simp only [Prod.mk.injEq, InS.mk.injEq] at h
    exact absurd h.2.2 he
theorem take_canon {s : InS} {n : Nat} {t r : List UInt8} (h : takeR n s = (t, ⟨r, 0⟩)) : s = ⟨t ++ r, 0⟩ ∧ t.length = n := by
  obtain ⟨b, e⟩ := s
  unfold takeR at h
  split at h
  · rename_i he
    have he : e = 0 := he
    subst he
    split at h
    · simp at h
    · rename_i hl
      have hl : ¬ b.length < n := hl
      simp only [Prod.mk.injEq, InS.mk.injEq, and_true] at h
      obtain ⟨rfl, rfl⟩ := h
      exact ⟨by rw [List.take_append_drop], by rw [List.length_take]; omega⟩
  · rename_i he
    simp only [Prod.mk.injEq, InS.mk.injEq] at h
    exact absurd h.2.2 he
theorem text_canon {s : InS} {most : Int} {t r : List UInt8} (h : textR most s = (t, ⟨r, 0⟩)) : s = ⟨textB t ++ r, 0⟩ ∧ (t.length : Int) ≤ max most 0 := by
  unfold textR at h
  split at h
  · rename_i he
    split at h
    · simp at h
    · rename_i hl
      obtain ⟨e1, e2⟩ := take_canon h
      have hn : numR s = ((numR s).1, ⟨t ++ r, 0⟩) := by rw [← e1]
      have := num_canon hn
      rw [this, ← e2, textB, List.append_assoc]
      exact ⟨rfl, by omega⟩
  · rename_i he
    simp only [Prod.mk.injEq] at h
    rw [h.2] at he
    exact absurd rfl he
end VK

namespace VK
open Go Go.Proofs
set_option linter.unusedSimpArgs false
set_option linter.unusedVariables false
set_option maxRecDepth 100000
set_option maxHeartbeats 40000000
abbrev rC (u : Value) (at_ : Nat) (err : Int) : Blk := ⟨[u, .int .i64 at_, .int .i64 err], 137⟩
theorem rbad_g {g : Atom → List Atom} {r : Nat} {u : Value} {B : List UInt8} [hp : ∀ c, Pick (blk r) (g (blk r c)) c g] [hr : ∀ c, Rd (g (blk r c)) u (mrow by8 5 B)] (a : Nat) (e e' : Int) :
    Fn Try.prog 99 [.pointer (some ⟨r, 0, none⟩), .int .i64 e'] (g (blk r (rC u a e))) fun v L' => v = .tuple #[] ∧ L' = g (blk r (rC u B.length e')) := by
  refine fn_intro Try.func99 rfl Try.ntmps99 rfl (fun W0 => ?_)
  simp only [argE, rC]
  refine rS ?_
  refine rR (id := 0) ?_
  refine oG (gM (evv rfl)) rfl rfl ?_
  refine oG (gM (evv rfl)) rfl rfl ?_
  refine oG (g_nil (evv rfl)) rfl rfl ?_
  refine oG (g_fld (evv rfl)) rfl rfl ?_
  refine o_store1 (evv rfl) (evv rfl) (by rfl) (by rfl) (by rfl) ?_
  refine oN ?_
  refine cC ?_
  refine rR (id := 1) ?_
  refine oG (gM (evv rfl)) rfl rfl ?_
  refine oG (gM (evv rfl)) rfl rfl ?_
  refine oG (g_nil (evv rfl)) rfl rfl ?_
  refine oG (g_fld (evv rfl)) rfl rfl ?_
  refine oG (g_load (evv rfl) (by rfl) (by rfl)) rfl rfl ?_
  refine oG (g_lenM (evv rfl)) rfl rfl ?_
  refine oG (g_nil (evv rfl)) rfl rfl ?_
  refine oG (g_fld (evv rfl)) rfl rfl ?_
  refine o_store1 (evv rfl) (evv rfl) (by rfl) (by rfl) (by rfl) ?_
  refine oN ?_
  exact c_end (rs := []) rfl rfl _ (Ent.refl _) ⟨rfl, rfl⟩
theorem rLeft_g {g : Atom → List Atom} {r : Nat} {u : Value} {B : List UInt8} [hp : ∀ c, Pick (blk r) (g (blk r c)) c g] [hr : ∀ c, Rd (g (blk r c)) u (mrow by8 5 B)] (a : Nat) (ha : a ≤ B.length) (hB : B.length ≤ 140737488355000) (e : Int) :
    Fn Try.prog 84 [.pointer (some ⟨r, 0, none⟩)] (g (blk r (rC u a e))) fun v L' => v = .int .i64 (B.drop a).length ∧ L' = g (blk r (rC u a e)) := by
  refine fn_intro Try.func84 rfl Try.ntmps84 rfl (fun W0 => ?_)
  simp only [argE, rC]
  refine rS ?_
  refine rR (id := 0) ?_
  refine oG (gA (evv rfl)) rfl rfl ?_
  refine oN ?_
  refine cC ?_
  refine rS ?_
  refine r_quiet (id := 1) Mixed.h (by kernel_rfl) ?_
  refine q_give (gM (evv rfl)) rfl rfl ?_
  refine q_give (g_nil (evv rfl)) rfl rfl ?_
  refine q_give (g_fld (evv rfl)) rfl rfl ?_
  refine q_give (g_load (evv rfl) (by rfl) (by rfl)) rfl rfl ?_
  refine q_give (g_lenM (evv rfl)) rfl rfl ?_
  refine q_give (gM (evv rfl)) rfl rfl ?_
  refine q_give (g_nil (evv rfl)) rfl rfl ?_
  refine q_give (g_fld (evv rfl)) rfl rfl ?_
  refine q_give (g_load (evv rfl) (by rfl) (by rfl)) rfl rfl ?_
  refine q_giveN (g_bin (evv rfl) (evv rfl) (by rfl)) (by simp only [inR]; omega) rfl ?_
  refine q_give (gA (evv rfl)) rfl rfl ?_
  refine q_nil ?_
  refine cC ?_
  refine r_ret (rs := [.tmp 2]) rfl rfl _ (Ent.refl _) ⟨?_, rfl⟩
  show Value.int _ _ = Value.int _ _
  congr 1
  simp; omega
theorem numStep2 {n k c : Nat} (hn : n < 128 ^ k) (hk : k ≤ 9) (hc : c < 256) (h9 : k = 9 → c ≤ 1) :
    IntKind.u64.wrap ↑(BitVec.ofInt IntKind.u64.bits ↑n ||| BitVec.ofInt IntKind.u64.bits ((c : Int) % 128 * 2 ^ min (7 * (k : Int)).toNat IntKind.u64.bits % 18446744073709551616)).toNat = ((n + c % 128 * 128 ^ k : Nat) : Int) := by
  have h := numStep hn hk hc h9
  have e2 : ((c : Int).toNat &&& Int.toNat 127) = c % 128 := Nat.and_two_pow_sub_one_eq_mod c 7
  have e : (((c : Int).toNat &&& Int.toNat 127 : Nat) : Int) % 18446744073709551616 = (c : Int) % 128 := by rw [e2]; omega
  rw [e] at h
  exact h
theorem rNum_g {g : Atom → List Atom} {r : Nat} {u : Value} {B : List UInt8} [hp : ∀ c, Pick (blk r) (g (blk r c)) c g] [hr : ∀ c, Rd (g (blk r c)) u (mrow by8 5 B)] (a : Nat) (ha : a ≤ B.length) (hB : B.length ≤ 140737488355000) (e : Int) :
    Fn Try.prog 81 [.pointer (some ⟨r, 0, none⟩)] (g (blk r (rC u a e))) fun v L' => ∃ a' e', a' ≤ B.length ∧ v = .int .u64 (numR ⟨B.drop a, e⟩).1 ∧ (numR ⟨B.drop a, e⟩).2 = ⟨B.drop a', e'⟩ ∧ L' = g (blk r (rC u a' e')) := by
  refine fn_intro Try.func81 rfl Try.ntmps81 rfl (fun W0 => ?_)
  simp only [argE]
  by_cases he : e = 0
  · subst he
    have hR0 : numR ⟨B.drop a, 0⟩ = numGo 0 0 (B.drop a) := by simp only [numR, if_true]
    rw [hR0]
    refine rS ?_
    refine rR (id := 0) ?_
    refine oG (gA (evv rfl)) rfl rfl ?_
    refine oN ?_
    refine cC ?_
    refine rS ?_
    refine rS ?_
    refine rR (id := 1) ?_
    refine oG (gM (evv rfl)) rfl rfl ?_
    refine oG (g_nil (evv rfl)) rfl rfl ?_
    refine oG (g_fld (evv rfl)) rfl rfl ?_
    refine oG (g_load (evv rfl) (by rfl) (by rfl)) rfl rfl ?_
    refine oG (g_bin (evv rfl) (evv rfl) (by rfl)) rfl rfl ?_
    refine oN ?_
    refine cC ?_
    refine r_cond_false rfl ?_
    refine r_skip ?_
    refine cC ?_
    refine rS ?_
    refine rR (id := 3) ?_
    refine oG (gA (evv rfl)) rfl rfl ?_
    refine oN ?_
    refine cC ?_
    refine rS ?_
    refine rS ?_
    refine rR (id := 4) ?_
    refine oG (gA (evv rfl)) rfl rfl ?_
    refine oN ?_
    refine cC ?_
    refine r_block ?_
    refine r_loop (σ := Nat × Nat × Nat) (fun s => s.1 ≤ 9 ∧ s.2.1 < 128 ^ s.1 ∧ s.2.2 ≤ B.length ∧ numGo s.1 s.2.1 (B.drop s.2.2) = numGo 0 0 (B.drop a)) (fun s => 10 - s.1) (fun s => [(0, .v (.pointer (some ⟨r, 0, none⟩))), (3, .v (.int .u64 s.2.1)), (4, .v (.int .i64 s.1))]) (fun s => g (blk r (rC u s.2.2 0))) (0, 0, a) ⟨by omega, by simp, ha, rfl⟩ ⟨rfl, rfl, rfl, trivial⟩ (Ent.refl _) ?_
    rintro ⟨k, n, b⟩ ⟨h1, h2, h3, h4⟩
    dsimp only at h1 h2 h3 h4 ⊢
    rw [← h4]
    refine rS ?_
    refine rS ?_
    refine rR (id := 5) ?_
    refine oG (gM (evv rfl)) rfl rfl ?_
    refine oG (g_bin (evv rfl) (evv rfl) (by rfl)) rfl rfl ?_
    refine oN ?_
    refine cC ?_
    refine r_cond rfl (fun hc => ?_) (fun hc => ?_)
    · clear hc
      refine r_skip ?_
      refine cC ?_
      refine rS ?_
      refine r_block ?_
      refine rS ?_
      refine rS ?_
      refine r_quiet (id := 7) Mixed.h (by kernel_rfl) ?_
      refine q_give (gM (evv rfl)) rfl rfl ?_
      refine q_give (g_nil (evv rfl)) rfl rfl ?_
      refine q_give (g_fld (evv rfl)) rfl rfl ?_
      refine q_give (g_load (evv rfl) (by rfl) (by rfl)) rfl rfl ?_
      refine q_give (gM (evv rfl)) rfl rfl ?_
      refine q_give (g_nil (evv rfl)) rfl rfl ?_
      refine q_give (g_fld (evv rfl)) rfl rfl ?_
      refine q_give (g_load (evv rfl) (by rfl) (by rfl)) rfl rfl ?_
      refine q_give (g_lenM (evv rfl)) rfl rfl ?_
      refine q_give (g_bin (evv rfl) (evv rfl) (by rfl)) rfl rfl ?_
      refine q_nil ?_
      refine cC ?_
      refine r_cond rfl (fun hc => ?_) (fun hc => ?_)
      · have hc := of_decide_eq_true hc
        refine rS ?_
        refine rR (id := 8) ?_
        refine oG (gM (evv rfl)) rfl rfl ?_
        (refine o_call rfl _ (Ent.refl _) (Fn.atPick (rbad_g _ _ _)) rfl ?_; rintro _ _ ⟨rfl, rfl⟩)
        refine oN ?_
        refine cC ?_
        refine rS ?_
        refine rR (id := 9) ?_
        refine oG (gA (evv rfl)) rfl rfl ?_
        refine oN ?_
        refine cC ?_
        refine r_ret (rs := [.tmp 2]) rfl rfl _ (Ent.refl _) ⟨B.length, 20, Nat.le_refl _, ?_, ?_, rfl⟩
        · rw [List.drop_of_length_le (by omega)]; rfl
        · rw [List.drop_of_length_le (by omega), List.drop_of_length_le (Nat.le_refl _)]; rfl
      · have hc := of_decide_eq_false hc
        have hb : b < B.length := by omega
        have hget : B.getD b default = B[b] := by simp [hb]
        rw [List.drop_eq_getElem_cons hb] at h4 ⊢
        have hc256 : B[b].toNat < 256 := B[b].toNat_lt
        refine r_skip ?_
        refine cC ?_
        refine rS ?_
        refine r_quiet (id := 10) Mixed.h (by kernel_rfl) ?_
        refine q_give (gM (evv rfl)) rfl rfl ?_
        refine q_give (g_nil (evv rfl)) rfl rfl ?_
        refine q_give (g_fld (evv rfl)) rfl rfl ?_
        refine q_give (g_load (evv rfl) (by rfl) (by rfl)) rfl rfl ?_
        refine q_give (gM (evv rfl)) rfl rfl ?_
        refine q_give (g_nil (evv rfl)) rfl rfl ?_
        refine q_give (g_fld (evv rfl)) rfl rfl ?_
        refine q_give (g_load (evv rfl) (by rfl) (by rfl)) rfl rfl ?_
        refine q_give (g_idxMN (evv rfl) (evv rfl) (by rfl) (by first | omega | (have := of_decide_eq_true hg; omega) | (simp at hg; omega) | (simp only [List.length_set, List.length_append, List.length_cons, List.length_nil, List.length_map, List.length_take, List.length_drop, List.length_replicate]; omega))) rfl rfl ?_
        refine q_give (g_loadM (evv rfl) (by rfl) (by first | omega | (have := of_decide_eq_true hg; omega) | (simp at hg; omega) | (simp only [List.length_set, List.length_append, List.length_cons, List.length_nil, List.length_map, List.length_take, List.length_drop, List.length_replicate]; omega))) rfl rfl ?_
        refine q_give (gA (evv rfl)) rfl rfl ?_
        refine q_nil ?_
        refine cC ?_
        refine rS ?_
        rw [hget]
        generalize B[b] = c at h4 hget hc256 ⊢
        refine rR (id := 11) ?_
        refine oG (gM (evv rfl)) rfl rfl ?_
        refine oG (g_nil (evv rfl)) rfl rfl ?_
        refine oG (g_fld (evv rfl)) rfl rfl ?_
        refine oG (g_load (evv rfl) (by rfl) (by rfl)) rfl rfl ?_
        refine o_giveN (g_bin (evv rfl) (evv rfl) (by rfl)) (by simp only [inR]; omega) rfl ?_
        refine oG (g_nil (evv rfl)) rfl rfl ?_
        refine oG (g_fld (evv rfl)) rfl rfl ?_
        refine o_store1 (evv rfl) (evv rfl) (by rfl) (by rfl) (by rfl) ?_
        refine oN ?_
        refine cC ?_
        refine rS ?_
        refine rS ?_
        refine rR (id := 12) ?_
        refine oG (gM (evv rfl)) rfl rfl ?_
        refine oG (g_bin (evv rfl) (evv rfl) (by rfl)) rfl rfl ?_
        refine oG (gM (evv rfl)) rfl rfl ?_
        refine o_lazy rfl (fun hg => gM (by first | exact evv rfl | exact evg rfl (by rw [hp]; rfl) | exact evg rfl hp | exact evg rfl hg | exact evg rfl (by first | (simp_all; done) | (simp [*]; done) | fail) | fail)) rfl rfl ?_
        refine o_lazy rfl (fun hg => g_bin (by first | exact evv rfl | exact evg rfl (by rw [hp]; rfl) | exact evg rfl hp | exact evg rfl hg | exact evg rfl (by first | (simp_all; done) | (simp [*]; done) | fail) | fail) (by first | exact evv rfl | exact evg rfl (by rw [hp]; rfl) | exact evg rfl hp | exact evg rfl hg | exact evg rfl (by first | (simp_all; done) | (simp [*]; done) | fail) | fail) (by rfl)) rfl rfl ?_
        refine oG (g_pick_and (evv rfl) (evv rfl) (fun hp => (by first | exact evv rfl | exact evg rfl (by rw [hp]; rfl) | exact evg rfl hp | exact evg rfl hg | exact evg rfl (by first | (simp_all; done) | (simp [*]; done) | fail) | fail))) rfl rfl ?_
        refine oG (gM (evv rfl)) rfl rfl ?_
        refine o_lazy rfl (fun hg => gM (by first | exact evv rfl | exact evg rfl (by rw [hp]; rfl) | exact evg rfl hp | exact evg rfl hg | exact evg rfl (by first | (simp_all; done) | (simp [*]; done) | fail) | fail)) rfl rfl ?_
        refine o_lazy rfl (fun hg => g_bin (by first | exact evv rfl | exact evg rfl (by rw [hp]; rfl) | exact evg rfl hp | exact evg rfl hg | exact evg rfl (by first | (simp_all; done) | (simp [*]; done) | fail) | fail) (by first | exact evv rfl | exact evg rfl (by rw [hp]; rfl) | exact evg rfl hp | exact evg rfl hg | exact evg rfl (by first | (simp_all; done) | (simp [*]; done) | fail) | fail) (by rfl)) rfl rfl ?_
        refine o_lazy rfl (fun hg => gM (by first | exact evv rfl | exact evg rfl (by rw [hp]; rfl) | exact evg rfl hp | exact evg rfl hg | exact evg rfl (by first | (simp_all; done) | (simp [*]; done) | fail) | fail)) rfl rfl ?_
        refine o_lazy rfl (fun hg => gM (by first | exact evv rfl | exact evg rfl (by rw [hp]; rfl) | exact evg rfl hp | exact evg rfl hg | exact evg rfl (by first | (simp_all; done) | (simp [*]; done) | fail) | fail)) rfl rfl ?_
        refine o_lazy rfl (fun hg => g_bin (by first | exact evv rfl | exact evg rfl (by rw [hp]; rfl) | exact evg rfl hp | exact evg rfl hg | exact evg rfl (by first | (simp_all; done) | (simp [*]; done) | fail) | fail) (by first | exact evv rfl | exact evg rfl (by rw [hp]; rfl) | exact evg rfl hp | exact evg rfl hg | exact evg rfl (by first | (simp_all; done) | (simp [*]; done) | fail) | fail) (by rfl)) rfl rfl ?_
        refine o_lazy rfl (fun hg => g_pick_and (by first | exact evv rfl | exact evg rfl (by rw [hp]; rfl) | exact evg rfl hp | exact evg rfl hg | exact evg rfl (by first | (simp_all; done) | (simp [*]; done) | fail) | fail) (by first | exact evv rfl | exact evg rfl (by rw [hp]; rfl) | exact evg rfl hp | exact evg rfl hg | exact evg rfl (by first | (simp_all; done) | (simp [*]; done) | fail) | fail) (fun hp => (by first | exact evv rfl | exact evg rfl (by rw [hp]; rfl) | exact evg rfl hp | exact evg rfl hg | exact evg rfl (by first | (simp_all; done) | (simp [*]; done) | fail) | fail))) rfl rfl ?_
        refine oG (g_pick_or (evv rfl) (evv rfl) (fun hp => (by first | exact evv rfl | exact evg rfl (by rw [hp]; rfl) | exact evg rfl hp | exact evg rfl hg | exact evg rfl (by first | (simp_all; done) | (simp [*]; done) | fail) | fail))) rfl rfl ?_
        refine oN ?_
        refine cC ?_
        refine r_cond rfl (fun hd => ?_) (fun hd => ?_)
        · have hb1 : k = 9 ∧ 1 < c.toNat ∨ 0 < k ∧ c.toNat = 0 := by simp only [Bool.or_eq_true, Bool.and_eq_true, decide_eq_true_eq] at hd; omega
          have hg1 : numGo k n (c :: B.drop (b + 1)) = (0, ⟨[], 21⟩) := by simp only [numGo, if_pos hb1]
          rw [hg1]
          refine rS ?_
          refine rR (id := 13) ?_
          refine oG (gM (evv rfl)) rfl rfl ?_
          (refine o_call rfl _ (Ent.refl _) (Fn.atPick (rbad_g _ _ _)) rfl ?_; rintro _ _ ⟨rfl, rfl⟩)
          refine oN ?_
          refine cC ?_
          refine rS ?_
          refine rR (id := 14) ?_
          refine oG (gA (evv rfl)) rfl rfl ?_
          refine oN ?_
          refine cC ?_
          exact r_ret (rs := [.tmp 2]) rfl rfl _ (Ent.refl _) ⟨B.length, 21, Nat.le_refl _, rfl, by rw [List.drop_of_length_le (Nat.le_refl _)], rfl⟩
        · have hb1 : ¬ (k = 9 ∧ 1 < c.toNat ∨ 0 < k ∧ c.toNat = 0) := by simp only [Bool.or_eq_false_iff, Bool.and_eq_false_iff, decide_eq_false_iff_not] at hd; omega
          clear hd
          have hg1 : numGo k n (c :: B.drop (b + 1)) = if c.toNat < 128 then (n + c.toNat % 128 * 128 ^ k, ⟨B.drop (b + 1), 0⟩) else numGo (k + 1) (n + c.toNat % 128 * 128 ^ k) (B.drop (b + 1)) := by simp only [numGo, if_neg hb1]
          refine r_skip ?_
          refine cC ?_
          refine rS ?_
          refine rR (id := 15) ?_
          refine oG (gM (evv rfl)) rfl rfl ?_
          refine oG (gM (evv rfl)) rfl rfl ?_
          refine oG (g_remP (evv rfl) (evv rfl) (by omega) (by omega)) rfl rfl ?_
          refine o_giveN (g_conv TyU.h TyU.h (evv rfl)) (by simp only [inR]; omega) rfl ?_
          refine oG (gM (evv rfl)) rfl rfl ?_
          refine o_giveN (g_bin (evv rfl) (evv rfl) (by rfl)) (by simp only [inR]; omega) rfl ?_
          refine o_giveN (g_conv TyU.h TyU.h (evv rfl)) (by simp only [inR]; omega) rfl ?_
          refine o_giveU (g_shift (evv rfl) (evv rfl) (by rfl) (by omega)) (by rfl) rfl ?_
          refine oG (g_bin (evv rfl) (evv rfl) (by rfl)) rfl rfl ?_
          refine oG (gA (evv rfl)) rfl rfl ?_
          refine oN ?_
          refine cC ?_
          refine rS ?_
          refine rR (id := 16) ?_
          refine oG (gM (evv rfl)) rfl rfl ?_
          refine oG (g_bin (evv rfl) (evv rfl) (by rfl)) rfl rfl ?_
          refine oN ?_
          refine cC ?_
          rw [numStep2 h2 h1 hc256 (by omega)]
          have hN : n + c.toNat % 128 * 128 ^ k < 128 ^ (k + 1) := by rw [Nat.pow_succ]; have : c.toNat % 128 * 128 ^ k ≤ 127 * 128 ^ k := Nat.mul_le_mul_right _ (by omega); omega
          refine r_cond rfl (fun hd => ?_) (fun hd => ?_)
          · have hd := of_decide_eq_true hd
            rw [hg1, if_pos (by omega)]
            refine rS ?_
            refine rR (id := 17) ?_
            refine oG (gM (evv rfl)) rfl rfl ?_
            refine oG (gA (evv rfl)) rfl rfl ?_
            refine oN ?_
            refine cC ?_
            exact r_ret (rs := [.tmp 2]) rfl rfl _ (Ent.refl _) ⟨b + 1, 0, by omega, rfl, rfl, rfl⟩
          · have hd := of_decide_eq_false hd
            refine r_skip ?_
            refine c_blk ?_
            refine cC ?_
            refine rR (id := 6) ?_
            refine oG (gM (evv rfl)) rfl rfl ?_
            refine o_giveN (g_bin (evv rfl) (evv rfl) (by rfl)) (by simp only [inR]; omega) rfl ?_
            refine oG (gA (evv rfl)) rfl rfl ?_
            refine oN ?_
            refine c_loop (k + 1, n + c.toNat % 128 * 128 ^ k, b + 1) ⟨?_, hN, by dsimp only; omega, ?_⟩ (by dsimp only; omega) ⟨rfl, rfl, rfl, trivial⟩ (Ent.refl _)
            · dsimp only; by_cases h9 : k = 9
              · exfalso; omega
              · omega
            · dsimp only; rw [hg1, if_neg (by omega)]
    · have := of_decide_eq_false hc
      omega
  · have hR : numR ⟨B.drop a, e⟩ = (0, ⟨B.drop a, e⟩) := by simp only [numR, if_neg he]
    rw [hR]
    simp only [rC]
    refine rS ?_
    refine rR (id := 0) ?_
    refine oG (gA (evv rfl)) rfl rfl ?_
    refine oN ?_
    refine cC ?_
    refine rS ?_
    refine rS ?_
    refine rR (id := 1) ?_
    refine oG (gM (evv rfl)) rfl rfl ?_
    refine oG (g_nil (evv rfl)) rfl rfl ?_
    refine oG (g_fld (evv rfl)) rfl rfl ?_
    refine oG (g_load (evv rfl) (by rfl) (by rfl)) rfl rfl ?_
    refine oG (g_bin (evv rfl) (evv rfl) (by rfl)) rfl rfl ?_
    refine oN ?_
    refine cC ?_
    refine r_cond rfl (fun hc => ?_) (fun hc => ?_)
    · refine rS ?_
      refine rR (id := 2) ?_
      refine oG (gA (evv rfl)) rfl rfl ?_
      refine oN ?_
      refine cC ?_
      exact r_ret (rs := [.tmp 2]) rfl rfl _ (Ent.refl _) ⟨a, e, ha, rfl, rfl, rfl⟩
    · simp [he] at hc
theorem rIntN_g {g : Atom → List Atom} {r : Nat} {u : Value} {B : List UInt8} [hp : ∀ c, Pick (blk r) (g (blk r c)) c g] [hr : ∀ c, Rd (g (blk r c)) u (mrow by8 5 B)] (a : Nat) (ha : a ≤ B.length) (hB : B.length ≤ 140737488355000) (e : Int) :
    Fn Try.prog 100 [.pointer (some ⟨r, 0, none⟩)] (g (blk r (rC u a e))) fun v L' => ∃ a' e', a' ≤ B.length ∧ v = .int .i64 (unzig (numR ⟨B.drop a, e⟩).1) ∧ (numR ⟨B.drop a, e⟩).2 = ⟨B.drop a', e'⟩ ∧ L' = g (blk r (rC u a' e')) := by
  refine fn_intro Try.func100 rfl Try.ntmps100 rfl (fun W0 => ?_)
  simp only [argE]
  have hn := numR_le ⟨B.drop a, e⟩
  refine rS ?_
  refine rR (id := 0) ?_
  refine oG (gA (evv rfl)) rfl rfl ?_
  refine oN ?_
  refine cC ?_
  refine rS ?_
  refine rR (id := 1) ?_
  refine oG (gM (evv rfl)) rfl rfl ?_
  (refine o_call rfl _ (Ent.refl _) (Fn.atPick (rNum_g _ (by assumption) (by assumption) _)) rfl ?_; rintro _ _ ⟨ra, re, hra, rfl, hrs, rfl⟩)
  refine oG (gA (evv rfl)) rfl rfl ?_
  refine oN ?_
  refine cC ?_
  refine rS ?_
  refine rS ?_
  refine rR (id := 2) ?_
  refine oG (gM (evv rfl)) rfl rfl ?_
  refine oG (g_remP (evv rfl) (evv rfl) (by omega) (by omega)) rfl rfl ?_
  refine oG (g_bin (evv rfl) (evv rfl) (by rfl)) rfl rfl ?_
  refine oN ?_
  refine cC ?_
  refine r_cond rfl (fun hc => ?_) (fun hc => ?_)
  · have hc := of_decide_eq_true hc
    refine rS ?_
    refine rR (id := 3) ?_
    refine oG (gM (evv rfl)) rfl rfl ?_
    refine o_giveN (g_quoP (evv rfl) (evv rfl) (by omega) (by omega)) (by simp only [inR]; omega) rfl ?_
    refine o_giveN (g_conv TyU.h TyU.h (evv rfl)) (by simp only [inR]; omega) rfl ?_
    refine oG (gA (evv rfl)) rfl rfl ?_
    refine oN ?_
    refine cC ?_
    refine r_ret (rs := [.tmp 2]) rfl rfl _ (Ent.refl _) ⟨ra, re, hra, ?_, hrs, rfl⟩
    show Value.int _ _ = Value.int _ _
    congr 1
    unfold unzig; rw [if_pos (by omega)]; omega
  · have hc := of_decide_eq_false hc
    refine r_skip ?_
    refine cC ?_
    refine rS ?_
    refine rR (id := 4) ?_
    refine oG (gM (evv rfl)) rfl rfl ?_
    refine o_giveN (g_quoP (evv rfl) (evv rfl) (by omega) (by omega)) (by simp only [inR]; omega) rfl ?_
    refine o_giveN (g_conv TyU.h TyU.h (evv rfl)) (by simp only [inR]; omega) rfl ?_
    refine o_giveN (g_neg (evv rfl)) (by simp only [inR]; omega) rfl ?_
    refine o_giveN (g_bin (evv rfl) (evv rfl) (by rfl)) (by simp only [inR]; omega) rfl ?_
    refine oG (gA (evv rfl)) rfl rfl ?_
    refine oN ?_
    refine cC ?_
    refine r_ret (rs := [.tmp 2]) rfl rfl _ (Ent.refl _) ⟨ra, re, hra, ?_, hrs, rfl⟩
    show Value.int _ _ = Value.int _ _
    congr 1
    unfold unzig; rw [if_neg (by omega)]; omega
theorem takeR_cut' {n : Nat} {p : List UInt8} (h : p.length < n) : takeR n ⟨p, 0⟩ = ([], ⟨[], 20⟩) := by simp [takeR, h]
theorem rText_g {g : Atom → List Atom} {r : Nat} {u : Value} {B : List UInt8} [hp : ∀ c, Pick (blk r) (g (blk r c)) c g] [hr : ∀ c, Rd (g (blk r c)) u (mrow by8 5 B)] (a : Nat) (ha : a ≤ B.length) (hB : B.length ≤ 140737488355000) (e : Int) (most : Int) (hm : -9223372036854775808 ≤ most ∧ most ≤ 9223372036854775807) :
    Fn Try.prog 83 [.pointer (some ⟨r, 0, none⟩), .int .i64 most] (g (blk r (rC u a e))) fun v L' => ∃ a' e', a' ≤ B.length ∧ v = str (textR most ⟨B.drop a, e⟩).1 ∧ (textR most ⟨B.drop a, e⟩).2 = ⟨B.drop a', e'⟩ ∧ L' = g (blk r (rC u a' e')) := by
  refine fn_intro Try.func83 rfl Try.ntmps83 rfl (fun W0 => ?_)
  simp only [argE]
  have hn := numR_le ⟨B.drop a, e⟩
  refine rS ?_
  refine rR (id := 0) ?_
  refine oG (gA (evv rfl)) rfl rfl ?_
  refine oN ?_
  refine cC ?_
  refine rS ?_
  refine rR (id := 1) ?_
  refine oG (gM (evv rfl)) rfl rfl ?_
  (refine o_call rfl _ (Ent.refl _) (Fn.atPick (rNum_g _ (by assumption) (by assumption) _)) rfl ?_; rintro _ _ ⟨ra, re, hra, rfl, hrs, rfl⟩)
  refine oG (gA (evv rfl)) rfl rfl ?_
  refine oN ?_
  refine cC ?_
  refine rS ?_
  refine rS ?_
  rw [textR, hrs]
  generalize (numR ⟨B.drop a, e⟩).1 = n at hn ⊢
  refine rR (id := 2) ?_
  refine oG (gM (evv rfl)) rfl rfl ?_
  refine oG (g_nil (evv rfl)) rfl rfl ?_
  refine oG (g_fld (evv rfl)) rfl rfl ?_
  refine oG (g_load (evv rfl) (by rfl) (by rfl)) rfl rfl ?_
  refine oG (g_bin (evv rfl) (evv rfl) (by rfl)) rfl rfl ?_
  refine oN ?_
  refine cC ?_
  refine r_cond rfl (fun hc => ?_) (fun hc => ?_)
  · have he : re ≠ 0 := by simpa using hc
    rw [if_neg he]
    refine rS ?_
    refine rR (id := 3) ?_
    refine oG (gA (evv rfl)) rfl rfl ?_
    refine oN ?_
    refine cC ?_
    exact r_ret (rs := [.tmp 4]) rfl rfl _ (Ent.refl _) ⟨ra, re, hra, rfl, rfl, rfl⟩
  · have he : re = 0 := by simpa using hc
    subst he
    rw [if_pos rfl]
    refine r_skip ?_
    refine cC ?_
    refine rS ?_
    refine rS ?_
    refine rR (id := 4) ?_
    refine oG (gM (evv rfl)) rfl rfl ?_
    refine oG (g_bin (evv rfl) (evv rfl) (by rfl)) rfl rfl ?_
    refine oG (gM (evv rfl)) rfl rfl ?_
    refine o_lazy rfl (fun hg => gM (by first | exact evv rfl | exact evg rfl (by rw [hp]; rfl) | exact evg rfl hp | exact evg rfl hg | exact evg rfl (by first | (simp_all; done) | (simp [*]; done) | fail) | fail)) rfl rfl ?_
    refine o_lazy rfl (fun hg => g_bin (by first | exact evv rfl | exact evg rfl (by rw [hp]; rfl) | exact evg rfl hp | exact evg rfl hg | exact evg rfl (by first | (simp_all; done) | (simp [*]; done) | fail) | fail) (by first | exact evv rfl | exact evg rfl (by rw [hp]; rfl) | exact evg rfl hp | exact evg rfl hg | exact evg rfl (by first | (simp_all; done) | (simp [*]; done) | fail) | fail) (by rfl)) rfl rfl ?_
    refine oG (g_pick_and (evv rfl) (evv rfl) (fun hp => (by first | exact evv rfl | exact evg rfl (by rw [hp]; rfl) | exact evg rfl hp | exact evg rfl hg | exact evg rfl (by first | (simp_all; done) | (simp [*]; done) | fail) | fail))) rfl rfl ?_
    refine oG (gM (evv rfl)) rfl rfl ?_
    refine o_lazy rfl (fun hg => gM (by first | exact evv rfl | exact evg rfl (by rw [hp]; rfl) | exact evg rfl hp | exact evg rfl hg | exact evg rfl (by first | (simp_all; done) | (simp [*]; done) | fail) | fail)) rfl rfl ?_
    refine o_lazy rfl (fun hg => g_bin (by first | exact evv rfl | exact evg rfl (by rw [hp]; rfl) | exact evg rfl hp | exact evg rfl hg | exact evg rfl (by first | (simp_all; done) | (simp [*]; done) | fail) | fail) (by first | exact evv rfl | exact evg rfl (by rw [hp]; rfl) | exact evg rfl hp | exact evg rfl hg | exact evg rfl (by first | (simp_all; done) | (simp [*]; done) | fail) | fail) (by rfl)) rfl rfl ?_
    refine o_lazy rfl (fun hg => gM (by first | exact evv rfl | exact evg rfl (by rw [hp]; rfl) | exact evg rfl hp | exact evg rfl hg | exact evg rfl (by first | (simp_all; done) | (simp [*]; done) | fail) | fail)) rfl rfl ?_
    refine o_lazy rfl (fun hg => gM (by first | exact evv rfl | exact evg rfl (by rw [hp]; rfl) | exact evg rfl hp | exact evg rfl hg | exact evg rfl (by first | (simp_all; done) | (simp [*]; done) | fail) | fail)) rfl rfl ?_
    refine o_lazy rfl (fun hg => gM (by first | exact evv rfl | exact evg rfl (by rw [hp]; rfl) | exact evg rfl hp | exact evg rfl hg | exact evg rfl (by first | (simp_all; done) | (simp [*]; done) | fail) | fail)) rfl rfl ?_
    refine o_lazy rfl (fun hg => g_conv TyU.h TyU.h (by first | exact evv rfl | exact evg rfl (by rw [hp]; rfl) | exact evg rfl hp | exact evg rfl hg | exact evg rfl (by first | (simp_all; done) | (simp [*]; done) | fail) | fail)) rfl rfl ?_
    refine o_lazy rfl (fun hg => g_bin (by first | exact evv rfl | exact evg rfl (by rw [hp]; rfl) | exact evg rfl hp | exact evg rfl hg | exact evg rfl (by first | (simp_all; done) | (simp [*]; done) | fail) | fail) (by first | exact evv rfl | exact evg rfl (by rw [hp]; rfl) | exact evg rfl hp | exact evg rfl hg | exact evg rfl (by first | (simp_all; done) | (simp [*]; done) | fail) | fail) (by rfl)) rfl rfl ?_
    refine o_lazy rfl (fun hg => g_pick_and (by first | exact evv rfl | exact evg rfl (by rw [hp]; rfl) | exact evg rfl hp | exact evg rfl hg | exact evg rfl (by first | (simp_all; done) | (simp [*]; done) | fail) | fail) (by first | exact evv rfl | exact evg rfl (by rw [hp]; rfl) | exact evg rfl hp | exact evg rfl hg | exact evg rfl (by first | (simp_all; done) | (simp [*]; done) | fail) | fail) (fun hp => (by first | exact evv rfl | exact evg rfl (by rw [hp]; rfl) | exact evg rfl hp | exact evg rfl hg | exact evg rfl (by first | (simp_all; done) | (simp [*]; done) | fail) | fail))) rfl rfl ?_
    refine oG (g_pick_or (evv rfl) (evv rfl) (fun hp => (by first | exact evv rfl | exact evg rfl (by rw [hp]; rfl) | exact evg rfl hp | exact evg rfl hg | exact evg rfl (by first | (simp_all; done) | (simp [*]; done) | fail) | fail))) rfl rfl ?_
    refine oN ?_
    refine cC ?_
    have hW : 0 ≤ most → IntKind.u64.wrap most = most := fun h => wrap_in (by simp only [inR]; omega)
    refine r_cond rfl (fun hc => ?_) (fun hc => ?_)
    · have hM : max most 0 < (n : Int) := by
        simp only [Bool.or_eq_true, Bool.and_eq_true, decide_eq_true_eq] at hc
        rcases hc with hc | hc
        · omega
        · have := hW hc.1; omega
      rw [if_pos hM]
      refine rS ?_
      refine rR (id := 5) ?_
      refine oG (gM (evv rfl)) rfl rfl ?_
      (refine o_call rfl _ (Ent.refl _) (Fn.atPick (rbad_g _ _ _)) rfl ?_; rintro _ _ ⟨rfl, rfl⟩)
      refine oN ?_
      refine cC ?_
      refine rS ?_
      refine rR (id := 6) ?_
      refine oG (gA (evv rfl)) rfl rfl ?_
      refine oN ?_
      refine cC ?_
      exact r_ret (rs := [.tmp 4]) rfl rfl _ (Ent.refl _) ⟨B.length, 2, Nat.le_refl _, rfl, by rw [List.drop_of_length_le (Nat.le_refl _)], rfl⟩
    · have hM : ¬ max most 0 < (n : Int) := by
        simp only [Bool.or_eq_false_iff, Bool.and_eq_false_iff, decide_eq_false_iff_not] at hc
        by_cases h0 : 0 ≤ most
        · have := hW h0; omega
        · omega
      rw [if_neg hM]
      clear hc
      have hn63 : n ≤ 9223372036854775807 := by omega
      refine r_skip ?_
      refine cC ?_
      refine rS ?_
      refine rS ?_
      refine rR (id := 7) ?_
      refine oG (gM (evv rfl)) rfl rfl ?_
      refine oG (gM (evv rfl)) rfl rfl ?_
      (refine o_call rfl _ (Ent.refl _) (Fn.atPick (rLeft_g _ (by assumption) (by assumption) _)) rfl ?_; rintro _ _ ⟨rfl, rfl⟩)
      refine o_giveU (g_conv TyU.h TyU.h (evv rfl)) (by rfl) rfl ?_
      refine oG (g_bin (evv rfl) (evv rfl) (by rfl)) rfl rfl ?_
      refine oN ?_
      refine cC ?_
      have hdl : (B.drop ra).length = B.length - ra := by simp
      refine r_cond rfl (fun hc => ?_) (fun hc => ?_)
      · have hc := of_decide_eq_true hc
        rw [takeR_cut' (by omega)]
        refine rS ?_
        refine rR (id := 8) ?_
        refine oG (gM (evv rfl)) rfl rfl ?_
        (refine o_call rfl _ (Ent.refl _) (Fn.atPick (rbad_g _ _ _)) rfl ?_; rintro _ _ ⟨rfl, rfl⟩)
        refine oN ?_
        refine cC ?_
        refine rS ?_
        refine rR (id := 9) ?_
        refine oG (gA (evv rfl)) rfl rfl ?_
        refine oN ?_
        refine cC ?_
        exact r_ret (rs := [.tmp 4]) rfl rfl _ (Ent.refl _) ⟨B.length, 20, Nat.le_refl _, rfl, by rw [List.drop_of_length_le (Nat.le_refl _)], rfl⟩
      · have hc := of_decide_eq_false hc
        refine r_skip ?_
        refine cC ?_
        refine rS ?_
        refine r_quiet (id := 10) Mixed.h (by kernel_rfl) ?_
        refine q_give (gM (evv rfl)) rfl rfl ?_
        refine q_give (g_nil (evv rfl)) rfl rfl ?_
        refine q_give (g_fld (evv rfl)) rfl rfl ?_
        refine q_give (g_load (evv rfl) (by rfl) (by rfl)) rfl rfl ?_
        refine q_give (gM (evv rfl)) rfl rfl ?_
        refine q_give (g_nil (evv rfl)) rfl rfl ?_
        refine q_give (g_fld (evv rfl)) rfl rfl ?_
        refine q_give (g_load (evv rfl) (by rfl) (by rfl)) rfl rfl ?_
        refine q_give (gM (evv rfl)) rfl rfl ?_
        refine q_give (g_nil (evv rfl)) rfl rfl ?_
        refine q_give (g_fld (evv rfl)) rfl rfl ?_
        refine q_give (g_load (evv rfl) (by rfl) (by rfl)) rfl rfl ?_
        refine q_give (gM (evv rfl)) rfl rfl ?_
        refine q_giveN (g_conv TyU.h TyU.h (evv rfl)) (by simp only [inR]; omega) rfl ?_
        refine q_giveN (g_bin (evv rfl) (evv rfl) (by rfl)) (by simp only [inR]; omega) rfl ?_
        refine q_give (g_subM (evv rfl) _ _ (bnd_some (evv rfl) rfl) (bnd_some (evv rfl) rfl) (by rfl) (by omega) (by first | omega | (simp only [List.length_append, List.length_cons, List.length_nil, List.length_set, List.length_map]; omega))) rfl rfl ?_
        refine q_give (g_b2sM (evv rfl)) rfl rfl ?_
        refine q_give (gA (evv rfl)) rfl rfl ?_
        refine q_nil ?_
        refine cC ?_
        refine rS ?_
        refine rR (id := 11) ?_
        refine oG (gM (evv rfl)) rfl rfl ?_
        refine oG (g_nil (evv rfl)) rfl rfl ?_
        refine oG (g_fld (evv rfl)) rfl rfl ?_
        refine oG (g_load (evv rfl) (by rfl) (by rfl)) rfl rfl ?_
        refine oG (gM (evv rfl)) rfl rfl ?_
        refine o_giveN (g_conv TyU.h TyU.h (evv rfl)) (by simp only [inR]; omega) rfl ?_
        refine o_giveN (g_bin (evv rfl) (evv rfl) (by rfl)) (by simp only [inR]; omega) rfl ?_
        refine oG (g_nil (evv rfl)) rfl rfl ?_
        refine oG (g_fld (evv rfl)) rfl rfl ?_
        refine o_store1 (evv rfl) (evv rfl) (by rfl) (by rfl) (by rfl) ?_
        refine oN ?_
        refine cC ?_
        refine rS ?_
        refine rR (id := 12) ?_
        refine oG (gM (evv rfl)) rfl rfl ?_
        refine oG (gA (evv rfl)) rfl rfl ?_
        refine oN ?_
        refine cC ?_
        have hlt : ¬ (B.drop ra).length < n := by omega
        have hT : takeR n ⟨B.drop ra, 0⟩ = ((B.drop ra).take n, ⟨(B.drop ra).drop n, 0⟩) := by simp only [takeR, if_true, if_neg hlt]
        rw [hT]
        refine r_ret (rs := [.tmp 4]) rfl rfl _ (Ent.refl _) ⟨ra + n, 0, by omega, ?_, by rw [List.drop_drop], rfl⟩
        rw [show ra + n - ra = n by omega]; rfl
end VK

namespace VK
open Go Go.Proofs
set_option linter.unusedSimpArgs false
set_option linter.unusedVariables false
set_option maxRecDepth 100000
set_option maxHeartbeats 40000000
theorem g_max3 {c : Cx} {E : Env} {L : List Atom} {d : Option Nat} {ty : TypeId} {pos : String} {aft : Array Edge} {gd : Option (Nat × Bool)} {ts : Array TypeId} {x y z : Operand} {kd : IntKind} {m n k : Int} (hx : Evs c E x (.int kd m)) (hy : Evs c E y (.int kd n)) (hz : Evs c E z (.int kd k)) :
    Gives c E L ⟨d, .call { callee := .builtin .max, args := #[x, y, z], argTypes := ts }, ty, pos, aft, gd⟩ (.int kd (max (max m n) k)) := by
  unfold Gives Evs at *
  intro a w he _
  have e1 : ∀ m n : Int, (if n > m then n else m) = max m n := fun m n => by split <;> omega
  simp [execOp, resolve, invoke, builtin, hx a he, hy a he, hz a he, Builtin.max_, Builtin.max2, e1]
theorem newOutA {F : List Atom} (o : Nat) : Ent (blk o ⟨[.slice none 0 0], 88⟩ :: F) (outA o [] :: F) :=
  (Ent.cons (Ent.nilM by8 5)).trans (Ent.shut (X := fun v : Value => [blk o ⟨[v], 88⟩, sl v (mrow by8 5 [])]) _)
def encOp (o : OpS) : List UInt8 := intB o.kind ++ textB o.path ++ textB o.to_ ++ textB o.data ++ intB o.at_ ++ intB o.size
def longOp (o : OpS) : Prop := 1100 < o.path.length ∨ 1100 < o.to_.length ∨ 1100 < o.data.length
instance (o : OpS) : Decidable (longOp o) := by unfold longOp; infer_instance
def opR (s : InS) : OpS × InS :=
  let a := numR s
  let b := textR 1100 a.2
  let c := textR 1100 b.2
  let d := textR 1100 c.2
  let e := numR d.2
  let f := numR e.2
  (⟨unzig a.1, b.1, c.1, d.1, unzig e.1, unzig f.1⟩, f.2)
def decOp (b : List UInt8) : Option OpS := if (opR ⟨b, 0⟩).2.err = 0 ∧ (opR ⟨b, 0⟩).2.bs.length = 0 then some (opR ⟨b, 0⟩).1 else none
theorem opR_back {o : OpS} (ho : o.ok) (hl : ¬ longOp o) (r : List UInt8) : opR ⟨encOp o ++ r, 0⟩ = (o, ⟨r, 0⟩) := by
  obtain ⟨kind, path, to_, data, at_, size⟩ := o
  simp only [OpS.ok, inR] at ho
  simp only [longOp, not_or] at hl
  obtain ⟨h1, h2, h3, h4, h5, h6⟩ := ho
  obtain ⟨l1, l2, l3⟩ := hl
  have hz1 := zig_le kind h1.1 h1.2
  have hz5 := zig_le at_ h5.1 h5.2
  have hz6 := zig_le size h6.1 h6.2
  have e1 := numR_num (m := zig kind) (textB path ++ (textB to_ ++ (textB data ++ (num (zig at_) ++ (num (zig size) ++ r))))) hz1
  have e2 := textR_back (s := path) (r := textB to_ ++ (textB data ++ (num (zig at_) ++ (num (zig size) ++ r)))) (most := 1100) (by omega) (by omega)
  have e3 := textR_back (s := to_) (r := textB data ++ (num (zig at_) ++ (num (zig size) ++ r))) (most := 1100) (by omega) (by omega)
  have e4 := textR_back (s := data) (r := num (zig at_) ++ (num (zig size) ++ r)) (most := 1100) (by omega) (by omega)
  have e5 := numR_num (m := zig at_) (num (zig size) ++ r) hz5
  have e6 := numR_num (m := zig size) r hz6
  have e0 : encOp ⟨kind, path, to_, data, at_, size⟩ ++ r = num (zig kind) ++ (textB path ++ (textB to_ ++ (textB data ++ (num (zig at_) ++ (num (zig size) ++ r))))) := by simp [encOp, intB]
  rw [e0]
  simp only [opR, e1, e2, e3, e4, e5, e6, unzig_zig]
theorem opR_canon {s : InS} {o : OpS} {r : List UInt8} (h : opR s = (o, ⟨r, 0⟩)) : s = ⟨encOp o ++ r, 0⟩ ∧ ¬ longOp o := by
  simp only [opR, Prod.mk.injEq] at h
  obtain ⟨rfl, h⟩ := h
  have h6 := num_canon (s := (numR (textR 1100 (textR 1100 (textR 1100 (numR s).2).2).2).2).2) (m := _) (r := r) (Prod.ext rfl h)
  have h5 := num_canon (s := (textR 1100 (textR 1100 (textR 1100 (numR s).2).2).2).2) (m := _) (r := _) (Prod.ext rfl h6)
  have h4 := text_canon (s := (textR 1100 (textR 1100 (numR s).2).2).2) (Prod.ext rfl h5)
  have h3 := text_canon (s := (textR 1100 (numR s).2).2) (Prod.ext rfl h4.1)
  have h2 := text_canon (s := (numR s).2) (Prod.ext rfl h3.1)
  have h1 := num_canon (s := s) (Prod.ext rfl h2.1)
  refine ⟨h1.trans ?_, ?_⟩
  · simp [encOp, intB, zig_unzig]
  · simp only [longOp, not_or]
    have l2 : ((textR 1100 (numR s).2).1.length : Int) ≤ max 1100 0 := h2.2
    have l3 : ((textR 1100 (textR 1100 (numR s).2).2).1.length : Int) ≤ max 1100 0 := h3.2
    have l4 : ((textR 1100 (textR 1100 (textR 1100 (numR s).2).2).2).1.length : Int) ≤ max 1100 0 := h4.2
    omega
theorem dec_enc {o : OpS} (ho : o.ok) (hl : ¬ longOp o) : decOp (encOp o) = some o := by
  have := opR_back ho hl []
  rw [List.append_nil] at this
  unfold decOp
  rw [this, if_pos ⟨rfl, rfl⟩]
theorem dec_canon {b : List UInt8} {o : OpS} (h : decOp b = some o) : b = encOp o ∧ ¬ longOp o := by
  unfold decOp at h
  split at h
  · rename_i hc
    cases h
    have : opR ⟨b, 0⟩ = ((opR ⟨b, 0⟩).1, ⟨[], 0⟩) := by
      refine Prod.ext rfl ?_
      have h2 := List.eq_nil_of_length_eq_zero hc.2
      have h1 := hc.1
      generalize (opR ⟨b, 0⟩).2 = s at *
      cases s
      simp only at h1 h2
      rw [h1, h2]
    obtain ⟨e, hl⟩ := opR_canon this
    rw [List.append_nil] at e
    exact ⟨congrArg InS.bs e, hl⟩
  · cases h
theorem unzig_in {n : Nat} (h : n ≤ 18446744073709551615) : inR .i64 (unzig n) := by
  simp only [inR]; unfold unzig; split <;> omega
theorem dec_ok {b : List UInt8} {o : OpS} (h : decOp b = some o) : o.ok := by
  have hl := (dec_canon h).2
  simp only [longOp, not_or] at hl
  unfold decOp at h
  split at h
  · cases h
    refine ⟨unzig_in (numR_le _), ?_, ?_, ?_, unzig_in (numR_le _), unzig_in (numR_le _)⟩
    all_goals (rw [show maxLen = 9223372036854775807 from rfl]; omega)
  · cases h
theorem textB_len {s : List UInt8} (h : s.length ≤ 1048576) : (textB s).length ≤ 10 + s.length := by
  have := num_le s.length (by omega)
  simp only [textB, List.length_append]; omega
theorem intB_len {n : Int} (h : inR .i64 n) : (intB n).length ≤ 10 := by
  simp only [inR] at h
  exact num_le (zig n) (zig_le _ h.1 h.2)
theorem OpEnc_c (L : List Atom) (o : OpS) (ho : o.ok) : Fn Try.prog 51 [agg (opSC o)] L fun w L' => ∃ v, w = .tuple #[v, .int .i64 (if longOp o then 2 else 0)] ∧ L' = sl v (mrow by8 5 (if longOp o then [] else encOp o)) :: L := by
  obtain ⟨h1, h2, h3, h4, h5, h6⟩ := ho
  have b1 := intB_len h1
  have b5 := intB_len h5
  have b6 := intB_len h6
  simp only [inR] at h1 h5 h6
  refine fn_intro Try.func51 rfl Try.ntmps51 rfl (fun W0 => ?_)
  simp only [argE]
  refine rS ?_
  refine rR (id := 0) ?_
  refine o_boxA (evv rfl) rfl (fun _ => ?_)
  refine oG (gA (evv rfl)) rfl rfl ?_
  refine oG (gA (evv rfl)) rfl rfl ?_
  refine oN ?_
  refine cC ?_
  refine rS ?_
  refine rS ?_
  refine rR (id := 1) ?_
  refine oG (g_fld (evv rfl)) rfl rfl ?_
  refine oG (g_load (evv rfl) (by rfl) (by rfl)) rfl rfl ?_
  refine oG (g_lenS TyU.h (evv rfl)) rfl rfl ?_
  refine oG (g_fld (evv rfl)) rfl rfl ?_
  refine oG (g_load (evv rfl) (by rfl) (by rfl)) rfl rfl ?_
  refine oG (g_lenS TyU.h (evv rfl)) rfl rfl ?_
  refine oG (g_fld (evv rfl)) rfl rfl ?_
  refine oG (g_load (evv rfl) (by rfl) (by rfl)) rfl rfl ?_
  refine oG (g_lenS TyU.h (evv rfl)) rfl rfl ?_
  refine oG (g_max3 (evv rfl) (evv rfl) (evv rfl)) rfl rfl ?_
  refine oG (g_bin (evv rfl) (evv rfl) (by rfl)) rfl rfl ?_
  refine oN ?_
  refine cC ?_
  rename_i q
  refine r_cond rfl (fun hl => ?_) (fun hl => ?_) <;> (try simp only [decide_eq_true_eq, decide_eq_false_iff_not, Bool.and_eq_true, Bool.or_eq_true, Bool.not_eq_true', Bool.and_eq_false_iff, Bool.or_eq_false_iff, Bool.not_eq_false', Bool.not_eq_true, Bool.not_eq_false, Bool.true_eq_false, Bool.false_eq_true, Int.not_lt, Int.not_le, not_and, not_or, ne_eq] at hl)
  · have hlo : longOp o := by simp only [longOp]; omega
    rw [if_pos hlo, if_pos hlo]
    refine rS ?_
    refine rR (id := 2) ?_
    refine oG (gA (evv rfl)) rfl rfl ?_
    refine oG (gA (evv rfl)) rfl rfl ?_
    refine oN ?_
    refine cC ?_
    first | refine r_ret (rs := [.tmp 2, .tmp 3]) rfl rfl _ (((Lay.ent (L' := L)).trans (Ent.nilM by8 5))) ?_ | refine c_end (rs := [.tmp 2, .tmp 3]) rfl rfl _ (((Lay.ent (L' := L)).trans (Ent.nilM by8 5))) ?_
    exact ⟨_, rfl, rfl⟩
  · have hlo : ¬ longOp o := by simp only [longOp, not_or]; omega
    rw [if_neg hlo, if_neg hlo]
    have t2 := textB_len (s := o.path) (by omega)
    have t3 := textB_len (s := o.to_) (by omega)
    have t4 := textB_len (s := o.data) (by omega)
    refine r_skip ?_
    refine cC ?_
    refine rS ?_
    refine rR (id := 3) ?_
    refine o_alloc rfl rfl (fun _ => ?_)
    refine oN ?_
    refine cC ?_
    refine rS ?_
    rename_i out
    refine r_ent _ (newOutA out) ?_
    refine rR (id := 4) ?_
    refine oG (g_fld (evv rfl)) rfl rfl ?_
    refine oG (g_load (evv rfl) (by rfl) (by rfl)) rfl rfl ?_
    (refine o_call rfl _ (Ent.refl _) (Int_l _ (by omega) (by (try simp only [bsOf, List.length_append, List.length_cons, List.length_nil]); omega)) rfl ?_; rintro _ _ ⟨rfl, rfl⟩)
    refine oN ?_
    refine cC ?_
    refine rS ?_
    refine rR (id := 5) ?_
    refine oG (g_fld (evv rfl)) rfl rfl ?_
    refine oG (g_load (evv rfl) (by rfl) (by rfl)) rfl rfl ?_
    (refine o_call rfl _ (Ent.refl _) (Text_l (by (try simp only [bsOf, List.length_append, List.length_cons, List.length_nil]); omega)) rfl ?_; rintro _ _ ⟨rfl, rfl⟩)
    refine oN ?_
    refine cC ?_
    refine rS ?_
    refine rR (id := 6) ?_
    refine oG (g_fld (evv rfl)) rfl rfl ?_
    refine oG (g_load (evv rfl) (by rfl) (by rfl)) rfl rfl ?_
    (refine o_call rfl _ (Ent.refl _) (Text_l (by (try simp only [bsOf, List.length_append, List.length_cons, List.length_nil]); omega)) rfl ?_; rintro _ _ ⟨rfl, rfl⟩)
    refine oN ?_
    refine cC ?_
    refine rS ?_
    refine rR (id := 7) ?_
    refine oG (g_fld (evv rfl)) rfl rfl ?_
    refine oG (g_load (evv rfl) (by rfl) (by rfl)) rfl rfl ?_
    (refine o_call rfl _ (Ent.refl _) (Text_l (by (try simp only [bsOf, List.length_append, List.length_cons, List.length_nil]); omega)) rfl ?_; rintro _ _ ⟨rfl, rfl⟩)
    refine oN ?_
    refine cC ?_
    refine rS ?_
    refine rR (id := 8) ?_
    refine oG (g_fld (evv rfl)) rfl rfl ?_
    refine oG (g_load (evv rfl) (by rfl) (by rfl)) rfl rfl ?_
    (refine o_call rfl _ (Ent.refl _) (Int_l _ (by omega) (by (try simp only [bsOf, List.length_append, List.length_cons, List.length_nil]); omega)) rfl ?_; rintro _ _ ⟨rfl, rfl⟩)
    refine oN ?_
    refine cC ?_
    refine rS ?_
    refine rR (id := 9) ?_
    refine oG (g_fld (evv rfl)) rfl rfl ?_
    refine oG (g_load (evv rfl) (by rfl) (by rfl)) rfl rfl ?_
    (refine o_call rfl _ (Ent.refl _) (Int_l _ (by omega) (by (try simp only [bsOf, List.length_append, List.length_cons, List.length_nil]); omega)) rfl ?_; rintro _ _ ⟨rfl, rfl⟩)
    refine oN ?_
    refine cC ?_
    refine rS ?_
    refine rR (id := 10) ?_
    (refine o_call rfl _ (Ent.refl _) (Bytes_l (by (try simp only [bsOf, List.length_append, List.length_cons, List.length_nil]); omega)) rfl ?_; rintro _ _ ⟨_, rfl⟩)
    refine oG (gA (evv rfl)) rfl rfl ?_
    refine oG (gA (evv rfl)) rfl rfl ?_
    refine oN ?_
    refine cC ?_
    rename_i v _
    rw [List.nil_append]
    first | refine r_ret (rs := [.tmp 2, .tmp 3]) rfl rfl _ ((Lay.ent (L' := sl v (mrow by8 5 (intB o.kind ++ textB o.path ++ textB o.to_ ++ textB o.data ++ intB o.at_ ++ intB o.size)) :: L))) ?_ | refine c_end (rs := [.tmp 2, .tmp 3]) rfl rfl _ ((Lay.ent (L' := sl v (mrow by8 5 (intB o.kind ++ textB o.path ++ textB o.to_ ++ textB o.data ++ intB o.at_ ++ intB o.size)) :: L))) ?_
    exact ⟨_, rfl, rfl⟩
theorem ROpEnc_c (L : List Atom) (o : OpS) (ho : o.ok) : Fn Try.prog 49 [agg (opSC o)] L fun w L' => ∃ v, w = .tuple #[v, .int .i64 (if longOp o then 2 else 0)] ∧ L' = sl v (mrow by8 5 (if longOp o then [] else encOp o)) :: L := by
  obtain ⟨h1, h2, h3, h4, h5, h6⟩ := ho
  have b1 := intB_len h1
  have b5 := intB_len h5
  have b6 := intB_len h6
  simp only [inR] at h1 h5 h6
  refine fn_intro Try.func49 rfl Try.ntmps49 rfl (fun W0 => ?_)
  simp only [argE]
  refine rS ?_
  refine rR (id := 0) ?_
  refine o_boxA (evv rfl) rfl (fun _ => ?_)
  refine oG (gA (evv rfl)) rfl rfl ?_
  refine oG (gA (evv rfl)) rfl rfl ?_
  refine oN ?_
  refine cC ?_
  refine rS ?_
  refine rS ?_
  refine rR (id := 1) ?_
  refine oG (g_fld (evv rfl)) rfl rfl ?_
  refine oG (g_load (evv rfl) (by rfl) (by rfl)) rfl rfl ?_
  refine oG (g_lenS TyU.h (evv rfl)) rfl rfl ?_
  refine oG (g_bin (evv rfl) (evv rfl) (by rfl)) rfl rfl ?_
  refine oG (gM (evv rfl)) rfl rfl ?_
  refine o_lazy rfl (fun hg => g_fld (evv rfl)) rfl rfl ?_
  refine o_lazy rfl (fun hg => g_load (evg rfl hg) (by rfl) (by rfl)) rfl rfl ?_
  refine o_lazy rfl (fun hg => g_lenS TyU.h (by first | exact evv rfl | exact evg rfl (by rw [hp]; rfl) | exact evg rfl hp | exact evg rfl hg | exact evg rfl (by first | (simp_all; done) | (simp [*]; done) | fail) | fail)) rfl rfl ?_
  refine o_lazy rfl (fun hg => g_bin (by first | exact evv rfl | exact evg rfl (by rw [hp]; rfl) | exact evg rfl hp | exact evg rfl hg | exact evg rfl (by first | (simp_all; done) | (simp [*]; done) | fail) | fail) (by first | exact evv rfl | exact evg rfl (by rw [hp]; rfl) | exact evg rfl hp | exact evg rfl hg | exact evg rfl (by first | (simp_all; done) | (simp [*]; done) | fail) | fail) (by rfl)) rfl rfl ?_
  refine oG (g_pick_or (evv rfl) (evv rfl) (fun hp => (by first | exact evv rfl | exact evg rfl (by rw [hp]; rfl) | exact evg rfl hp | exact evg rfl hg | exact evg rfl (by first | (simp_all; done) | (simp [*]; done) | fail) | fail))) rfl rfl ?_
  refine oG (gM (evv rfl)) rfl rfl ?_
  refine o_lazy rfl (fun hg => g_fld (evv rfl)) rfl rfl ?_
  refine o_lazy rfl (fun hg => g_load (evg rfl hg) (by rfl) (by rfl)) rfl rfl ?_
  refine o_lazy rfl (fun hg => g_lenS TyU.h (by first | exact evv rfl | exact evg rfl (by rw [hp]; rfl) | exact evg rfl hp | exact evg rfl hg | exact evg rfl (by first | (simp_all; done) | (simp [*]; done) | fail) | fail)) rfl rfl ?_
  refine o_lazy rfl (fun hg => g_bin (by first | exact evv rfl | exact evg rfl (by rw [hp]; rfl) | exact evg rfl hp | exact evg rfl hg | exact evg rfl (by first | (simp_all; done) | (simp [*]; done) | fail) | fail) (by first | exact evv rfl | exact evg rfl (by rw [hp]; rfl) | exact evg rfl hp | exact evg rfl hg | exact evg rfl (by first | (simp_all; done) | (simp [*]; done) | fail) | fail) (by rfl)) rfl rfl ?_
  refine oG (g_pick_or (evv rfl) (evv rfl) (fun hp => (by first | exact evv rfl | exact evg rfl (by rw [hp]; rfl) | exact evg rfl hp | exact evg rfl hg | exact evg rfl (by first | (simp_all; done) | (simp [*]; done) | fail) | fail))) rfl rfl ?_
  refine oN ?_
  refine cC ?_
  rename_i q
  refine r_cond rfl (fun hl => ?_) (fun hl => ?_) <;> (try simp only [decide_eq_true_eq, decide_eq_false_iff_not, Bool.and_eq_true, Bool.or_eq_true, Bool.not_eq_true', Bool.and_eq_false_iff, Bool.or_eq_false_iff, Bool.not_eq_false', Bool.not_eq_true, Bool.not_eq_false, Bool.true_eq_false, Bool.false_eq_true, Int.not_lt, Int.not_le, not_and, not_or, ne_eq] at hl)
  · have hlo : longOp o := by simp only [longOp]; omega
    rw [if_pos hlo, if_pos hlo]
    refine rS ?_
    refine rR (id := 2) ?_
    refine oG (gA (evv rfl)) rfl rfl ?_
    refine oG (gA (evv rfl)) rfl rfl ?_
    refine oN ?_
    refine cC ?_
    first | refine r_ret (rs := [.tmp 2, .tmp 3]) rfl rfl _ (((Lay.ent (L' := L)).trans (Ent.nilM by8 5))) ?_ | refine c_end (rs := [.tmp 2, .tmp 3]) rfl rfl _ (((Lay.ent (L' := L)).trans (Ent.nilM by8 5))) ?_
    exact ⟨_, rfl, rfl⟩
  · have hlo : ¬ longOp o := by simp only [longOp, not_or]; omega
    rw [if_neg hlo, if_neg hlo]
    have t2 := textB_len (s := o.path) (by omega)
    have t3 := textB_len (s := o.to_) (by omega)
    have t4 := textB_len (s := o.data) (by omega)
    refine r_skip ?_
    refine cC ?_
    refine rS ?_
    refine rR (id := 3) ?_
    refine oG (g_fld (evv rfl)) rfl rfl ?_
    refine oG (g_load (evv rfl) (by rfl) (by rfl)) rfl rfl ?_
    (refine o_call rfl _ (Ent.refl _) (rInt_c _ _ (by omega)) rfl ?_; rintro _ _ ⟨_, rfl⟩)
    refine oG (gA (evv rfl)) rfl rfl ?_
    refine oN ?_
    refine cC ?_
    refine rS ?_
    refine rR (id := 4) ?_
    refine oG (gM (evv rfl)) rfl rfl ?_
    refine oG (g_fld (evv rfl)) rfl rfl ?_
    refine oG (g_load (evv rfl) (by rfl) (by rfl)) rfl rfl ?_
    (refine o_call rfl _ (Ent.refl _) (rText_c _ _ (by omega)) rfl ?_; rintro _ _ ⟨_, rfl⟩)
    refine o_appM (evv rfl) (evv rfl) (by rfl) (by rfl) (by rfl) (by (try simp only [bsOf, List.length_append, List.length_cons, List.length_nil, List.length_take, List.length_drop, List.length_map, List.length_range]); omega) rfl (fun _ => ?_)
    refine oG (gA (evv rfl)) rfl rfl ?_
    refine oN ?_
    refine cC ?_
    refine rS ?_
    refine rR (id := 5) ?_
    refine oG (gM (evv rfl)) rfl rfl ?_
    refine oG (g_fld (evv rfl)) rfl rfl ?_
    refine oG (g_load (evv rfl) (by rfl) (by rfl)) rfl rfl ?_
    (refine o_call rfl _ (Ent.refl _) (rText_c _ _ (by omega)) rfl ?_; rintro _ _ ⟨_, rfl⟩)
    refine o_appM (evv rfl) (evv rfl) (by rfl) (by rfl) (by rfl) (by (try simp only [bsOf, List.length_append, List.length_cons, List.length_nil, List.length_take, List.length_drop, List.length_map, List.length_range]); omega) rfl (fun _ => ?_)
    refine oG (gA (evv rfl)) rfl rfl ?_
    refine oN ?_
    refine cC ?_
    refine rS ?_
    refine rR (id := 6) ?_
    refine oG (gM (evv rfl)) rfl rfl ?_
    refine oG (g_fld (evv rfl)) rfl rfl ?_
    refine oG (g_load (evv rfl) (by rfl) (by rfl)) rfl rfl ?_
    (refine o_call rfl _ (Ent.refl _) (rText_c _ _ (by omega)) rfl ?_; rintro _ _ ⟨_, rfl⟩)
    refine o_appM (evv rfl) (evv rfl) (by rfl) (by rfl) (by rfl) (by (try simp only [bsOf, List.length_append, List.length_cons, List.length_nil, List.length_take, List.length_drop, List.length_map, List.length_range]); omega) rfl (fun _ => ?_)
    refine oG (gA (evv rfl)) rfl rfl ?_
    refine oN ?_
    refine cC ?_
    refine rS ?_
    refine rR (id := 7) ?_
    refine oG (gM (evv rfl)) rfl rfl ?_
    refine oG (g_fld (evv rfl)) rfl rfl ?_
    refine oG (g_load (evv rfl) (by rfl) (by rfl)) rfl rfl ?_
    (refine o_call rfl _ (Ent.refl _) (rInt_c _ _ (by omega)) rfl ?_; rintro _ _ ⟨_, rfl⟩)
    refine o_appM (evv rfl) (evv rfl) (by rfl) (by rfl) (by rfl) (by (try simp only [bsOf, List.length_append, List.length_cons, List.length_nil, List.length_take, List.length_drop, List.length_map, List.length_range]); omega) rfl (fun _ => ?_)
    refine oG (gA (evv rfl)) rfl rfl ?_
    refine oN ?_
    refine cC ?_
    refine rS ?_
    refine rR (id := 8) ?_
    refine oG (gM (evv rfl)) rfl rfl ?_
    refine oG (g_fld (evv rfl)) rfl rfl ?_
    refine oG (g_load (evv rfl) (by rfl) (by rfl)) rfl rfl ?_
    (refine o_call rfl _ (Ent.refl _) (rInt_c _ _ (by omega)) rfl ?_; rintro _ _ ⟨_, rfl⟩)
    refine o_appM (evv rfl) (evv rfl) (by rfl) (by rfl) (by rfl) (by (try simp only [bsOf, List.length_append, List.length_cons, List.length_nil, List.length_take, List.length_drop, List.length_map, List.length_range]); omega) rfl (fun _ => ?_)
    refine oG (gA (evv rfl)) rfl rfl ?_
    refine oG (gA (evv rfl)) rfl rfl ?_
    refine oN ?_
    refine cC ?_
    rename_i v
    first | refine r_ret (rs := [.tmp 2, .tmp 3]) rfl rfl _ ((Lay.ent (L' := sl v (mrow by8 5 (intB o.kind ++ textB o.path ++ textB o.to_ ++ textB o.data ++ intB o.at_ ++ intB o.size)) :: L))) ?_ | refine c_end (rs := [.tmp 2, .tmp 3]) rfl rfl _ ((Lay.ent (L' := sl v (mrow by8 5 (intB o.kind ++ textB o.path ++ textB o.to_ ++ textB o.data ++ intB o.at_ ++ intB o.size)) :: L))) ?_
    exact ⟨_, rfl, rfl⟩
theorem dec_err {b : List UInt8} (h : ¬ ((opR ⟨b, 0⟩).2.err = 0 ∧ (opR ⟨b, 0⟩).2.bs.length = 0)) : decOp b = none := if_neg h
theorem dec_okd {b : List UInt8} (h : (opR ⟨b, 0⟩).2.err = 0 ∧ (opR ⟨b, 0⟩).2.bs.length = 0) : decOp b = some (opR ⟨b, 0⟩).1 := if_pos h
theorem OpDec_c (L : List Atom) (v : Value) (b : List UInt8) (hb : b.length ≤ 140737488355000) [rd : Rd L v (mrow by8 5 b)] : Fn Try.prog 103 [v] L fun w L' => w = .tuple #[agg (opSC ((decOp b).getD zeroOp)), .int .i64 (if decOp b = none then 21 else 0)] ∧ L' = L := by
  have hn : ∀ s, inR .i64 (unzig (numR s).1) := fun s => unzig_in (numR_le s)
  refine fn_intro Try.func103 rfl Try.ntmps103 rfl (fun W0 => ?_)
  simp only [argE]
  refine rS ?_
  refine rR (id := 0) ?_
  refine o_alloc rfl rfl (fun _ => ?_)
  refine oG (gA (evv rfl)) rfl rfl ?_
  refine oN ?_
  refine cC ?_
  refine rS ?_
  refine rR (id := 1) ?_
  refine oG (gM (evv rfl)) rfl rfl ?_
  (refine o_call rfl _ (Ent.refl _) (Read_c _ _ _ (by (try simp only [bsOf, List.length_append, List.length_cons, List.length_nil]); omega)) rfl ?_; rintro _ _ ⟨i, rfl, rfl⟩)
  refine oG (gA (evv rfl)) rfl rfl ?_
  refine oN ?_
  refine cC ?_
  refine rS ?_
  refine rR (id := 2) ?_
  refine oG (gM (evv rfl)) rfl rfl ?_
  (refine o_call rfl _ (Ent.refl _) inInt_l rfl ?_; rintro _ _ ⟨rfl, rfl⟩)
  refine oG (g_buildC rfl (by rfl)) rfl rfl ?_
  refine o_alloc rfl rfl (fun _ => ?_)
  refine o_storeW (evv rfl) (evv rfl) (by first | rfl | assumption | exact LenC.h _ | (simp [bys, *]; done) | fail) (by first | (intro _ _ _; exact bys_one _) | exact AllOne.h | (intro _ _ _ u hu; simp at hu; rcases hu with rfl | rfl | rfl | rfl | rfl | rfl | rfl | rfl <;> rfl) | fail) (by first | rfl | exact (LenC.h _).trans rfl | exact (LenC.h _).trans (LenC.h _).symm | (simp [bys, *]; done) | (simp only [bys, List.length_map, *]; rfl) | fail) ?_
  refine oN ?_
  refine cC ?_
  refine rS ?_
  refine rR (id := 3) ?_
  refine oG (gM (evv rfl)) rfl rfl ?_
  (refine o_call rfl _ (Ent.refl _) (inText_l _ (by omega)) rfl ?_; rintro _ _ ⟨rfl, rfl⟩)
  refine oG (g_fld (evv rfl)) rfl rfl ?_
  refine o_store1 (evv rfl) (evv rfl) (by rfl) (by rfl) (by rfl) ?_
  refine oN ?_
  refine cC ?_
  refine rS ?_
  refine rR (id := 4) ?_
  refine oG (gM (evv rfl)) rfl rfl ?_
  (refine o_call rfl _ (Ent.refl _) (inText_l _ (by omega)) rfl ?_; rintro _ _ ⟨rfl, rfl⟩)
  refine oG (g_fld (evv rfl)) rfl rfl ?_
  refine o_store1 (evv rfl) (evv rfl) (by rfl) (by rfl) (by rfl) ?_
  refine oN ?_
  refine cC ?_
  refine rS ?_
  refine rR (id := 5) ?_
  refine oG (gM (evv rfl)) rfl rfl ?_
  (refine o_call rfl _ (Ent.refl _) (inText_l _ (by omega)) rfl ?_; rintro _ _ ⟨rfl, rfl⟩)
  refine oG (g_fld (evv rfl)) rfl rfl ?_
  refine o_store1 (evv rfl) (evv rfl) (by rfl) (by rfl) (by rfl) ?_
  refine oN ?_
  refine cC ?_
  refine rS ?_
  refine rR (id := 6) ?_
  refine oG (gM (evv rfl)) rfl rfl ?_
  (refine o_call rfl _ (Ent.refl _) inInt_l rfl ?_; rintro _ _ ⟨rfl, rfl⟩)
  refine oG (g_fld (evv rfl)) rfl rfl ?_
  refine o_store1 (evv rfl) (evv rfl) (by rfl) (by rfl) (by rfl) ?_
  refine oN ?_
  refine cC ?_
  refine rS ?_
  refine rR (id := 7) ?_
  refine oG (gM (evv rfl)) rfl rfl ?_
  (refine o_call rfl _ (Ent.refl _) inInt_l rfl ?_; rintro _ _ ⟨rfl, rfl⟩)
  refine oG (g_fld (evv rfl)) rfl rfl ?_
  refine o_store1 (evv rfl) (evv rfl) (by rfl) (by rfl) (by rfl) ?_
  refine oN ?_
  refine cC ?_
  refine rS ?_
  refine rS ?_
  refine rR (id := 8) ?_
  refine oG (gM (evv rfl)) rfl rfl ?_
  (refine o_call rfl _ (Ent.refl _) inEnd_l rfl ?_; rintro _ _ ⟨rfl, rfl⟩)
  refine oG (g_not (evv rfl)) rfl rfl ?_
  refine oN ?_
  refine cC ?_
  refine r_cond rfl (fun hc => ?_) (fun hc => ?_) <;> (try simp only [decide_eq_true_eq, decide_eq_false_iff_not, Bool.and_eq_true, Bool.or_eq_true, Bool.not_eq_true', Bool.and_eq_false_iff, Bool.or_eq_false_iff, Bool.not_eq_false', Bool.not_eq_true, Bool.not_eq_false, Bool.true_eq_false, Bool.false_eq_true, Int.not_lt, Int.not_le, not_and, not_or, ne_eq] at hc)
  · rw [dec_err (b := b) (fun h => by first | exact hc h | exact hc h.1 h.2)]
    refine rS ?_
    refine rR (id := 9) ?_
    refine oG (v := agg [(Go.Value.int Go.IntKind.i64 0), (Go.Value.string { data := #[] }), (Go.Value.string { data := #[] }), (Go.Value.string { data := #[] }), (Go.Value.int Go.IntKind.i64 0), (Go.Value.int Go.IntKind.i64 0)]) (g_buildC rfl (by rfl)) rfl rfl ?_
    refine o_storeW (evv rfl) (evv rfl) (by first | rfl | assumption | exact LenC.h _ | (simp [bys, *]; done) | fail) (by first | (intro _ _ _; exact bys_one _) | exact AllOne.h | (intro _ _ _ u hu; simp at hu; rcases hu with rfl | rfl | rfl | rfl | rfl | rfl | rfl | rfl <;> rfl) | fail) (by first | rfl | exact (LenC.h _).trans rfl | exact (LenC.h _).trans (LenC.h _).symm | (simp [bys, *]; done) | (simp only [bys, List.length_map, *]; rfl) | fail) ?_
    refine oG (gA (evv rfl)) rfl rfl ?_
    refine oN ?_
    refine cC ?_
    first | refine r_retC (rs := [.cell 2 48, .tmp 3]) rfl (by first | exact ro_agg rfl rfl (by first | rfl | exact LenC.h _ | (simp [bys, *]; done)) (ro_tmp rfl ro_nil) | exact ro_cell rfl rfl rfl (ro_tmp rfl ro_nil)) _ ((Lay.ent (L' := L))) ?_ | refine c_endC (rs := [.cell 2 48, .tmp 3]) rfl (by first | exact ro_agg rfl rfl (by first | rfl | exact LenC.h _ | (simp [bys, *]; done)) (ro_tmp rfl ro_nil) | exact ro_cell rfl rfl rfl (ro_tmp rfl ro_nil)) _ ((Lay.ent (L' := L))) ?_
    exact ⟨rfl, rfl⟩
  · rw [dec_okd (b := b) hc]
    refine r_skip ?_
    refine cC ?_
    refine rS ?_
    refine rR (id := 10) ?_
    refine oG (g_loadF (evv rfl) (by rfl) (by rfl)) rfl rfl ?_
    refine o_storeW (evv rfl) (evv rfl) (by first | rfl | assumption | exact LenC.h _ | (simp [bys, *]; done) | fail) (by first | (intro _ _ _; exact bys_one _) | exact AllOne.h | (intro _ _ _ u hu; simp at hu; rcases hu with rfl | rfl | rfl | rfl | rfl | rfl | rfl | rfl <;> rfl) | fail) (by first | rfl | exact (LenC.h _).trans rfl | exact (LenC.h _).trans (LenC.h _).symm | (simp [bys, *]; done) | (simp only [bys, List.length_map, *]; rfl) | fail) ?_
    refine oG (gA (evv rfl)) rfl rfl ?_
    refine oN ?_
    refine cC ?_
    first | refine r_retC (rs := [.cell 2 48, .tmp 3]) rfl (by first | exact ro_agg rfl rfl (by first | rfl | exact LenC.h _ | (simp [bys, *]; done)) (ro_tmp rfl ro_nil) | exact ro_cell rfl rfl rfl (ro_tmp rfl ro_nil)) _ ((Lay.ent (L' := L))) ?_ | refine c_endC (rs := [.cell 2 48, .tmp 3]) rfl (by first | exact ro_agg rfl rfl (by first | rfl | exact LenC.h _ | (simp [bys, *]; done)) (ro_tmp rfl ro_nil) | exact ro_cell rfl rfl rfl (ro_tmp rfl ro_nil)) _ ((Lay.ent (L' := L))) ?_
    exact ⟨rfl, rfl⟩
theorem ROpDec_c (L : List Atom) (v : Value) (b : List UInt8) (hb : b.length ≤ 140737488355000) [rd : Rd L v (mrow by8 5 b)] : Fn Try.prog 101 [v] L fun w L' => w = .tuple #[agg (opSC ((decOp b).getD zeroOp)), .bool (decide (decOp b ≠ none))] ∧ L' = L := by
  have ha0 : 0 ≤ b.length := Nat.zero_le _
  refine fn_intro Try.func101 rfl Try.ntmps101 rfl (fun W0 => ?_)
  simp only [argE]
  refine rS ?_
  refine rR (id := 0) ?_
  refine o_alloc rfl rfl (fun _ => ?_)
  refine oG (gA (evv rfl)) rfl rfl ?_
  refine oN ?_
  refine cC ?_
  refine rS ?_
  refine rR (id := 1) ?_
  refine oG (gM (evv rfl)) rfl rfl ?_
  refine oG (g_buildC rfl (by rfl)) rfl rfl ?_
  refine o_boxA (evv rfl) rfl (fun _ => ?_)
  refine oG (gA (evv rfl)) rfl rfl ?_
  refine oN ?_
  refine cC ?_
  refine rS ?_
  refine rR (id := 2) ?_
  refine o_alloc rfl rfl (fun _ => ?_)
  refine oN ?_
  refine cC ?_
  refine rS ?_
  refine rR (id := 3) ?_
  refine oG (gM (evv rfl)) rfl rfl ?_
  (refine o_call rfl _ (Ent.refl _) (Fn.atPick (rIntN_g _ (by assumption) (by assumption) _)) rfl ?_; rintro _ _ ⟨ra, re, hra, rfl, hrs, rfl⟩)
  refine oG (g_fld (evv rfl)) rfl rfl ?_
  refine o_store1 (evv rfl) (evv rfl) (by rfl) (by rfl) (by rfl) ?_
  refine oN ?_
  refine cC ?_
  refine rS ?_
  refine rR (id := 4) ?_
  refine oG (gM (evv rfl)) rfl rfl ?_
  (refine o_call rfl _ (Ent.refl _) (Fn.atPick (rText_g _ (by assumption) (by assumption) _ _ (by omega))) rfl ?_; rintro _ _ ⟨ra, re, hra, rfl, hrs, rfl⟩)
  refine oG (g_fld (evv rfl)) rfl rfl ?_
  refine o_store1 (evv rfl) (evv rfl) (by rfl) (by rfl) (by rfl) ?_
  refine oN ?_
  refine cC ?_
  refine rS ?_
  refine rR (id := 5) ?_
  refine oG (gM (evv rfl)) rfl rfl ?_
  (refine o_call rfl _ (Ent.refl _) (Fn.atPick (rText_g _ (by assumption) (by assumption) _ _ (by omega))) rfl ?_; rintro _ _ ⟨ra, re, hra, rfl, hrs, rfl⟩)
  refine oG (g_fld (evv rfl)) rfl rfl ?_
  refine o_store1 (evv rfl) (evv rfl) (by rfl) (by rfl) (by rfl) ?_
  refine oN ?_
  refine cC ?_
  refine rS ?_
  refine rR (id := 6) ?_
  refine oG (gM (evv rfl)) rfl rfl ?_
  (refine o_call rfl _ (Ent.refl _) (Fn.atPick (rText_g _ (by assumption) (by assumption) _ _ (by omega))) rfl ?_; rintro _ _ ⟨ra, re, hra, rfl, hrs, rfl⟩)
  refine oG (g_fld (evv rfl)) rfl rfl ?_
  refine o_store1 (evv rfl) (evv rfl) (by rfl) (by rfl) (by rfl) ?_
  refine oN ?_
  refine cC ?_
  refine rS ?_
  refine rR (id := 7) ?_
  refine oG (gM (evv rfl)) rfl rfl ?_
  (refine o_call rfl _ (Ent.refl _) (Fn.atPick (rIntN_g _ (by assumption) (by assumption) _)) rfl ?_; rintro _ _ ⟨ra, re, hra, rfl, hrs, rfl⟩)
  refine oG (g_fld (evv rfl)) rfl rfl ?_
  refine o_store1 (evv rfl) (evv rfl) (by rfl) (by rfl) (by rfl) ?_
  refine oN ?_
  refine cC ?_
  refine rS ?_
  refine rR (id := 8) ?_
  refine oG (gM (evv rfl)) rfl rfl ?_
  (refine o_call rfl _ (Ent.refl _) (Fn.atPick (rIntN_g _ (by assumption) (by assumption) _)) rfl ?_; rintro _ _ ⟨ra, re, hra, rfl, hrs, rfl⟩)
  refine oG (g_fld (evv rfl)) rfl rfl ?_
  refine o_store1 (evv rfl) (evv rfl) (by rfl) (by rfl) (by rfl) ?_
  refine oN ?_
  refine cC ?_
  refine rS ?_
  refine rS ?_
  refine rR (id := 9) ?_
  refine oG (gM (evv rfl)) rfl rfl ?_
  refine oG (g_nil (evv rfl)) rfl rfl ?_
  refine oG (g_fld (evv rfl)) rfl rfl ?_
  refine oG (g_load (evv rfl) (by rfl) (by rfl)) rfl rfl ?_
  refine oG (g_bin (evv rfl) (evv rfl) (by rfl)) rfl rfl ?_
  refine oG (gM (evv rfl)) rfl rfl ?_
  refine o_lazy rfl (fun hg => gM (by first | exact evv rfl | exact evg rfl (by rw [hp]; rfl) | exact evg rfl hp | exact evg rfl hg | exact evg rfl (by first | (simp_all; done) | (simp [*]; done) | fail) | fail)) rfl rfl ?_
  rename_i x2 x1 x0 a1 e1 g1 s1 a2 e2 g2 s2 a3 e3 g3 s3 a4 e4 g4 s4 a5 e5 g5 s5
  rw [List.drop_zero] at s1 ⊢
  have hS : opR ⟨b, 0⟩ = (⟨unzig (numR ⟨b, 0⟩).1, (textR 1100 ⟨b.drop a1, e1⟩).1, (textR 1100 ⟨b.drop a2, e2⟩).1, (textR 1100 ⟨b.drop a3, e3⟩).1, unzig (numR ⟨b.drop a4, e4⟩).1, unzig (numR ⟨b.drop a5, e5⟩).1⟩, ⟨b.drop ra, re⟩) := by
    simp only [opR, s1, s2, s3, s4, s5, hrs]
  by_cases h0 : re = 0
  · subst h0
    simp only [decide_true, Bool.not_true, Bool.not_false]
    refine o_sure (t := 33) rfl rfl ?_
    refine o_gyes rfl ?_
    (refine o_call rfl _ (Ent.refl _) (Fn.atPick (rLeft_g _ (by assumption) (by assumption) _)) rfl ?_; rintro _ _ ⟨rfl, rfl⟩)
    refine o_gyes rfl ?_
    refine oG (g_bin (evv rfl) (evv rfl) (by rfl)) rfl rfl ?_
    refine oG (g_pick (b := false) (evv rfl) (fun h => by cases h) (fun _ => (evv rfl))) rfl rfl ?_
    refine oN ?_
    refine cC ?_
    refine r_cond rfl (fun hc => ?_) (fun hc => ?_) <;> (try simp only [decide_eq_true_eq, decide_eq_false_iff_not, Bool.and_eq_true, Bool.or_eq_true, Bool.not_eq_true', Bool.and_eq_false_iff, Bool.or_eq_false_iff, Bool.not_eq_false', Bool.not_eq_true, Bool.not_eq_false, Bool.true_eq_false, Bool.false_eq_true, Int.not_lt, Int.not_le, not_and, not_or, ne_eq] at hc)
    · rw [dec_err (b := b) (by rw [hS]; dsimp only; omega)]
      refine rS ?_
      refine rR (id := 10) ?_
      refine oG (v := agg [(Go.Value.int Go.IntKind.i64 0), (Go.Value.string { data := #[] }), (Go.Value.string { data := #[] }), (Go.Value.string { data := #[] }), (Go.Value.int Go.IntKind.i64 0), (Go.Value.int Go.IntKind.i64 0)]) (g_buildC rfl (by rfl)) rfl rfl ?_
      refine o_storeW (evv rfl) (evv rfl) (by first | rfl | assumption | exact LenC.h _ | (simp [bys, *]; done) | fail) (by first | (intro _ _ _; exact bys_one _) | exact AllOne.h | (intro _ _ _ u hu; simp at hu; rcases hu with rfl | rfl | rfl | rfl | rfl | rfl | rfl | rfl <;> rfl) | fail) (by first | rfl | exact (LenC.h _).trans rfl | exact (LenC.h _).trans (LenC.h _).symm | (simp [bys, *]; done) | (simp only [bys, List.length_map, *]; rfl) | fail) ?_
      refine oG (gA (evv rfl)) rfl rfl ?_
      refine oN ?_
      refine cC ?_
      first | refine r_retC (rs := [.cell 2 48, .tmp 3]) rfl (by first | exact ro_agg rfl rfl (by first | rfl | exact LenC.h _ | (simp [bys, *]; done)) (ro_tmp rfl ro_nil) | exact ro_cell rfl rfl rfl (ro_tmp rfl ro_nil)) _ ((Lay.ent (L' := L))) ?_ | refine c_endC (rs := [.cell 2 48, .tmp 3]) rfl (by first | exact ro_agg rfl rfl (by first | rfl | exact LenC.h _ | (simp [bys, *]; done)) (ro_tmp rfl ro_nil) | exact ro_cell rfl rfl rfl (ro_tmp rfl ro_nil)) _ ((Lay.ent (L' := L))) ?_
      exact ⟨rfl, rfl⟩
    · have hd := dec_okd (b := b) (by rw [hS]; dsimp only; omega)
      rw [hS] at hd
      rw [hd]
      refine r_skip ?_
      refine cC ?_
      refine rS ?_
      refine rR (id := 11) ?_
      refine oG (g_loadF (evv rfl) (by rfl) (by rfl)) rfl rfl ?_
      refine o_storeW (evv rfl) (evv rfl) (by first | rfl | assumption | exact LenC.h _ | (simp [bys, *]; done) | fail) (by first | (intro _ _ _; exact bys_one _) | exact AllOne.h | (intro _ _ _ u hu; simp at hu; rcases hu with rfl | rfl | rfl | rfl | rfl | rfl | rfl | rfl <;> rfl) | fail) (by first | rfl | exact (LenC.h _).trans rfl | exact (LenC.h _).trans (LenC.h _).symm | (simp [bys, *]; done) | (simp only [bys, List.length_map, *]; rfl) | fail) ?_
      refine oG (gA (evv rfl)) rfl rfl ?_
      refine oN ?_
      refine cC ?_
      first | refine r_retC (rs := [.cell 2 48, .tmp 3]) rfl (by first | exact ro_agg rfl rfl (by first | rfl | exact LenC.h _ | (simp [bys, *]; done)) (ro_tmp rfl ro_nil) | exact ro_cell rfl rfl rfl (ro_tmp rfl ro_nil)) _ ((Lay.ent (L' := L))) ?_ | refine c_endC (rs := [.cell 2 48, .tmp 3]) rfl (by first | exact ro_agg rfl rfl (by first | rfl | exact LenC.h _ | (simp [bys, *]; done)) (ro_tmp rfl ro_nil) | exact ro_cell rfl rfl rfl (ro_tmp rfl ro_nil)) _ ((Lay.ent (L' := L))) ?_
      exact ⟨rfl, rfl⟩
  · rw [decide_eq_false h0]
    refine o_lazy (v0 := undef) rfl (fun hg => absurd hg (by first | (simp; done) | fail)) rfl rfl ?_
    refine o_lazy (v0 := undef) rfl (fun hg => absurd hg (by first | (simp; done) | fail)) rfl rfl ?_
    refine oG (g_pick (b := true) (evv rfl) (fun _ => (evv rfl)) (fun h => by cases h)) rfl rfl ?_
    refine oN ?_
    refine cC ?_
    refine r_cond_true rfl ?_
    refine rS ?_
    rw [dec_err (b := b) (by rw [hS]; exact fun h => h0 h.1)]
    refine rR (id := 10) ?_
    refine oG (v := agg [(Go.Value.int Go.IntKind.i64 0), (Go.Value.string { data := #[] }), (Go.Value.string { data := #[] }), (Go.Value.string { data := #[] }), (Go.Value.int Go.IntKind.i64 0), (Go.Value.int Go.IntKind.i64 0)]) (g_buildC rfl (by rfl)) rfl rfl ?_
    refine o_storeW (evv rfl) (evv rfl) (by first | rfl | assumption | exact LenC.h _ | (simp [bys, *]; done) | fail) (by first | (intro _ _ _; exact bys_one _) | exact AllOne.h | (intro _ _ _ u hu; simp at hu; rcases hu with rfl | rfl | rfl | rfl | rfl | rfl | rfl | rfl <;> rfl) | fail) (by first | rfl | exact (LenC.h _).trans rfl | exact (LenC.h _).trans (LenC.h _).symm | (simp [bys, *]; done) | (simp only [bys, List.length_map, *]; rfl) | fail) ?_
    refine oG (gA (evv rfl)) rfl rfl ?_
    refine oN ?_
    refine cC ?_
    first | refine r_retC (rs := [.cell 2 48, .tmp 3]) rfl (by first | exact ro_agg rfl rfl (by first | rfl | exact LenC.h _ | (simp [bys, *]; done)) (ro_tmp rfl ro_nil) | exact ro_cell rfl rfl rfl (ro_tmp rfl ro_nil)) _ ((Lay.ent (L' := L))) ?_ | refine c_endC (rs := [.cell 2 48, .tmp 3]) rfl (by first | exact ro_agg rfl rfl (by first | rfl | exact LenC.h _ | (simp [bys, *]; done)) (ro_tmp rfl ro_nil) | exact ro_cell rfl rfl rfl (ro_tmp rfl ro_nil)) _ ((Lay.ent (L' := L))) ?_
    exact ⟨rfl, rfl⟩
end VK

namespace VK
open Go Go.Proofs
set_option linter.unusedSimpArgs false
set_option linter.unusedVariables false
set_option maxRecDepth 100000
set_option maxHeartbeats 40000000
structure Res where
  code : Int
  dir : Bool
  size : Int
  data : List UInt8
  names : List (List UInt8)
  deriving DecidableEq, Inhabited
def Res.ok (r : Res) : Prop := inR .i64 r.code ∧ inR .i64 r.size ∧ r.data.length ≤ 9223372036854775807 ∧ (∀ n ∈ r.names, n.length ≤ 9223372036854775807)
end VK

namespace VK
open Go Go.Proofs
set_option linter.unusedSimpArgs false
set_option linter.unusedVariables false
set_option maxRecDepth 100000
set_option maxHeartbeats 40000000
end VK

namespace VK
open Go Go.Proofs
set_option linter.unusedSimpArgs false
set_option linter.unusedVariables false
set_option maxRecDepth 100000
set_option maxHeartbeats 40000000
end VK

namespace VK
open Go Go.Proofs
set_option linter.unusedSimpArgs false
set_option linter.unusedVariables false
set_option maxRecDepth 100000
set_option maxHeartbeats 40000000
end VK

namespace VK
open Go Go.Proofs
set_option linter.unusedSimpArgs false
set_option linter.unusedVariables false
set_option maxRecDepth 100000
set_option maxHeartbeats 40000000
theorem RdW_one {W : World} {v : Value} {r : Row} (h : RdW W v r) : v.oneCell' = true := by
  unfold RdW at h
  obtain ⟨_, _, a, cap, rfl, _⟩ := h
  rfl
end VK

namespace VK
open Go Go.Proofs
set_option linter.unusedSimpArgs false
set_option linter.unusedVariables false
set_option maxRecDepth 100000
set_option maxHeartbeats 40000000
theorem rd_n {L : List Atom} {v : Value} {r : Row} [rd : Rd L v r] {W0 w : World} (hs : St W0 L w) {a : Option Addr} {n cap : Nat} (e : v = .slice a n cap) : n = r.n := by
  have h := rd.rd W0 w hs
  unfold RdW at h
  obtain ⟨_, _, a', cap', e', _⟩ := h
  rw [e] at e'
  cases e'; rfl
instance Rd.subF {L : List Atom} {α : Type} {f : α → List Value} {sz : Nat} {e : TypeId} {v : Value} {l : List α} {lo hi : Nat} [rd : Rd L v (frow f sz e l)] [hf : LenC f sz] : Rd L (subV sz v lo hi) (frow f sz e ((l.drop lo).take (hi - lo))) := ⟨fun W0 w hs => by
  obtain ⟨a, n, cap, he, _, h⟩ := (rd.rd W0 w hs).sub (min lo (min hi l.length)) (min hi l.length) (Nat.min_le_right _ _) (Nat.min_le_right _ _)
  have hn : n = l.length := rd_n (rd := rd) hs he
  subst hn
  subst he
  have e1 : (⟨(frow f sz e l).e, (frow f sz e l).sz, min hi l.length - min lo (min hi l.length), ((frow f sz e l).xs.drop (min lo (min hi l.length) * (frow f sz e l).sz)).take ((min hi l.length - min lo (min hi l.length)) * (frow f sz e l).sz)⟩ : Row) = frow f sz e ((l.drop lo).take (hi - lo)) := by
    rw [← take_drop_min l lo hi]
    simp only [frow, Row.mk.injEq, true_and]
    refine ⟨?_, ?_⟩
    · rw [List.length_take, List.length_drop]; omega
    · rw [flatMap_drop hf.h, flatMap_take hf.h]
  rw [e1] at h
  unfold subV
  exact h⟩
theorem g_subF {c : Cx} {E : Env} {L : List Atom} {do_ : Option Nat} {ty : TypeId} {pos : String} {aft : Array Edge} {gd : Option (Nat × Bool)} {α : Type} {f : α → List Value} {sz : Nat} {t e e' : TypeId} {i : TI} {x : Operand} {xl xh : Option Operand} {v : Value} {l : List α} [tu : TyU c.P t (.slice e)] [ti : TyI c.P e i] (hx : Evs c E x v) [rd : Rd L v (frow f sz e' l)] (lo hi : Nat)
    (hlo : bndV c E xl 0 lo) (hhi : bndV c E xh l.length hi) (hsz : i.size = sz) (h1 : lo ≤ hi) (h2 : hi ≤ l.length) : Gives c E L ⟨do_, .slice t x xl xh none, ty, pos, aft, gd⟩ (subV sz v lo hi) := by
  unfold Gives
  intro a w he hs
  obtain ⟨ad, n, cap, e0, hc, _⟩ := (rd.rd _ w hs).sub lo hi h1 h2
  have hn : n = l.length := rd_n (rd := rd) hs e0
  subst hn
  subst e0
  have hrun := run_sliceAt (P := c.P) (a := ad) (n := l.length) (cap := cap) tu ti (hlo.run he) (hhi.run he) h1 hc w
  rw [hsz] at hrun
  unfold Evs at hx
  simp [execOp, hx a he, hrun, subV, Nat.min_eq_left h2, Nat.min_eq_left h1]
end VK

namespace VK
open Go Go.Proofs
set_option linter.unusedSimpArgs false
set_option linter.unusedVariables false
set_option maxRecDepth 100000
set_option maxHeartbeats 40000000
structure EntS where
  client : Int
  number : Int
  op : OpS
  deriving DecidableEq, Inhabited
def entC (a : EntS) : List Value := .int .i64 a.client :: .int .i64 a.number :: opSC a.op
instance : LenC entC 8 := ⟨fun _ => rfl⟩
instance : TyC Try.prog 50 entC := ⟨trivial⟩
instance (L : List Atom) (a : EntS) : AllOne L (entC a) := by unfold entC; infer_instance
instance (x y : Int) (o : OpS) : OfC entC (.int .i64 x :: .int .i64 y :: opSC o) ⟨x, y, o⟩ := ⟨rfl⟩
instance (x y x0 : Int) (x1 : Value) (y1 : List UInt8) [h1 : AsStr x1 y1] (x2 : Value) (y2 : List UInt8) [h2 : AsStr x2 y2] (x3 : Value) (y3 : List UInt8) [h3 : AsStr x3 y3] (x4 : Int) (x5 : Int) : OfC entC [.int .i64 x, .int .i64 y, .int .i64 x0, x1, x2, x3, .int .i64 x4, .int .i64 x5] ⟨x, y, x0, y1, y2, y3, x4, x5⟩ := ⟨by rw [h1.h, h2.h, h3.h]; rfl⟩
theorem entC_ext (a b : EntS) : (a.client = b.client ∧ a.number = b.number ∧ a.op = b.op ∧ True) ↔ a = b := by
  cases a; cases b; simp
theorem eq_op (d : Nat) (a b : OpS) (w : World) : (Op.equalIn (d + 7) 48 (agg (opSC a)) (agg (opSC b))).run Try.prog w = .ok (decide (a = b)) w := by
  have h := run_equalIn_struct (P := Try.prog) w (d + 6) 48 (opSC a).toArray (opSC b).toArray (by kernel_rfl) (by kernel_rfl)
  rw [show (agg (opSC a)) = .agg (opSC a).toArray from rfl, show (agg (opSC b)) = .agg (opSC b).toArray from rfl, h, show (Try.prog.fieldsOf 48).toList = [{ name := "Kind", type := 3, offset := 0, embedded := false, tag := "", pkgPath := "", byteOffset := 0 }, { name := "Path", type := 9, offset := 1, embedded := false, tag := "", pkgPath := "", byteOffset := 8 }, { name := "To", type := 9, offset := 2, embedded := false, tag := "", pkgPath := "", byteOffset := 24 }, { name := "Data", type := 9, offset := 3, embedded := false, tag := "", pkgPath := "", byteOffset := 40 }, { name := "At", type := 3, offset := 4, embedded := false, tag := "", pkgPath := "", byteOffset := 56 }, { name := "Size", type := 3, offset := 5, embedded := false, tag := "", pkgPath := "", byteOffset := 64 }] from by kernel_rfl]
  refine Eq.trans (b := .ok (decide (a.kind = b.kind ∧ a.path = b.path ∧ a.to_ = b.to_ ∧ a.data = b.data ∧ a.at_ = b.at_ ∧ a.size = b.size ∧ True)) w) ?_ (by congr 1; exact decide_eq_decide.2 (opSC_ext a b))
  refine eqF_cons (by decide) (part_one rfl rfl) (part_one rfl rfl) (eq_int _ _ _ w) ?_
  refine eqF_cons (by decide) (part_one rfl rfl) (part_one rfl rfl) (eq_str _ _ _ w) ?_
  refine eqF_cons (by decide) (part_one rfl rfl) (part_one rfl rfl) (eq_str _ _ _ w) ?_
  refine eqF_cons (by decide) (part_one rfl rfl) (part_one rfl rfl) (eq_str _ _ _ w) ?_
  refine eqF_cons (by decide) (part_one rfl rfl) (part_one rfl rfl) (eq_int _ _ _ w) ?_
  refine eqF_cons (by decide) (part_one rfl rfl) (part_one rfl rfl) (eq_int _ _ _ w) ?_
  exact eqF_nil'
instance : EqS Try.prog 50 entC := ⟨fun d a b w => by
  have h := run_equalIn_struct (P := Try.prog) w (d + 7) 50 (entC a).toArray (entC b).toArray (by kernel_rfl) (by kernel_rfl)
  rw [show (agg (entC a)) = .agg (entC a).toArray from rfl, show (agg (entC b)) = .agg (entC b).toArray from rfl, h, show (Try.prog.fieldsOf 50).toList = [{ name := "Client", type := 3, offset := 0, embedded := false, tag := "", pkgPath := "", byteOffset := 0 }, { name := "Number", type := 2, offset := 1, embedded := false, tag := "", pkgPath := "", byteOffset := 8 }, { name := "Op", type := 48, offset := 2, embedded := false, tag := "", pkgPath := "", byteOffset := 16 }] from by kernel_rfl]
  refine Eq.trans (b := .ok (decide (a.client = b.client ∧ a.number = b.number ∧ a.op = b.op ∧ True)) w) ?_ (by congr 1; exact decide_eq_decide.2 (entC_ext a b))
  refine eqF_cons (by decide) (part_one rfl rfl) (part_one rfl rfl) (eq_int _ _ _ w) ?_
  refine eqF_cons (by decide) (part_one rfl rfl) (part_one rfl rfl) (eq_int _ _ _ w) ?_
  refine eqF_cons (by decide) (part_agg (us := opSC a.op) rfl rfl) (part_agg (us := opSC b.op) rfl rfl) (eq_op _ a.op b.op w) ?_
  exact eqF_nil'⟩
abbrev entR (es : List EntS) : Row := frow entC 8 50 es
end VK

namespace VK
open Go Go.Proofs
set_option linter.unusedSimpArgs false
set_option linter.unusedVariables false
set_option maxRecDepth 100000
set_option maxHeartbeats 40000000
abbrev gr : Int := 1099511627776
structure KeptS where
  view : Int
  normal : Int
  base : Int
  state : List UInt8
  ents : List EntS
  deriving DecidableEq
def KeptS.ok (k : KeptS) : Prop := 0 ≤ k.view ∧ k.view ≤ gr ∧ 0 ≤ k.normal ∧ k.normal ≤ k.view ∧ 0 ≤ k.base ∧ k.base ≤ gr ∧ k.base + k.ents.length ≤ gr ∧ k.state.length ≤ 65536 ∧ (k.base = 0 → k.state = []) ∧ k.ents.length ≤ 32 ∧ ∀ e ∈ k.ents, ¬ longOp e.op
instance (k : KeptS) : Decidable k.ok := by unfold KeptS.ok; infer_instance
end VK

namespace VK
open Go Go.Proofs
set_option linter.unusedSimpArgs false
set_option linter.unusedVariables false
set_option maxRecDepth 100000
set_option maxHeartbeats 40000000
def crcBit (s : Nat) : Nat := if s % 2 = 1 then s / 2 ^^^ 3988292384 else s / 2
def crcBits : Nat → Nat → Nat
  | 0, s => s
  | k + 1, s => crcBits k (crcBit s)
def crcByte (s : Nat) (c : UInt8) : Nat := crcBits 8 (s ^^^ c.toNat)
def crcGo (s : Nat) (l : List UInt8) : Nat := l.foldl crcByte s
def crc (l : List UInt8) : Nat := crcGo 4294967295 l ^^^ 4294967295
theorem crcBit_lt {s : Nat} (h : s < 4294967296) : crcBit s < 4294967296 := by
  unfold crcBit
  split
  · exact Nat.xor_lt_two_pow (n := 32) (by omega) (by omega)
  · omega
theorem crcBits_lt : ∀ {k s : Nat}, s < 4294967296 → crcBits k s < 4294967296
  | 0, _, h => h
  | k + 1, s, h => by simp only [crcBits]; exact crcBits_lt (crcBit_lt h)
theorem crcByte_lt {s : Nat} {c : UInt8} (h : s < 4294967296) : crcByte s c < 4294967296 :=
  crcBits_lt (Nat.xor_lt_two_pow (n := 32) h (Nat.lt_of_lt_of_le c.toNat_lt (by decide)))
theorem crcGo_lt : ∀ {l : List UInt8} {s : Nat}, s < 4294967296 → crcGo s l < 4294967296
  | [], _, h => h
  | c :: l, s, h => by
    show crcGo (crcByte s c) l < _
    exact crcGo_lt (crcByte_lt h)
theorem crcGo_app (s : Nat) (l m : List UInt8) : crcGo s (l ++ m) = crcGo (crcGo s l) m := List.foldl_append
theorem Reads.len {L : List Atom} : ∀ {vs : List Value} {bss : List (List UInt8)}, Reads L 5 vs bss → bss.length = vs.length
  | [], [], _ => rfl
  | _ :: _, _ :: _, h => by simp [h.2.len]
theorem crcBit_bits {s : Nat} (h : s < 4294967296) :
    IntKind.u32.wrap ↑(BitVec.ofInt IntKind.u32.bits ((s : Int) / 2) ^^^ BitVec.ofInt IntKind.u32.bits ↑(Int.toNat 3988292384 &&& ((0 - ((s : Int).toNat &&& Int.toNat 1 : Nat)) % 4294967296 : Int).toNat)).toNat = ((crcBit s : Nat) : Int) := by
  have e2 : ((s : Int).toNat &&& Int.toNat 1) = s % 2 := Nat.and_two_pow_sub_one_eq_mod s 1
  have e1 : (BitVec.ofInt IntKind.u32.bits ((s : Int) / 2)).toNat = s / 2 := by
    show (BitVec.ofInt 32 ((s : Int) / 2)).toNat = s / 2
    rw [BitVec.toNat_ofInt]; omega
  have hb := crcBit_lt h
  have e3 : (BitVec.ofInt IntKind.u32.bits ((s : Int) / 2) ^^^ BitVec.ofInt IntKind.u32.bits ↑(Int.toNat 3988292384 &&& ((0 - ((s : Int).toNat &&& Int.toNat 1 : Nat)) % 4294967296 : Int).toNat)).toNat = crcBit s := by
    rw [BitVec.toNat_xor, e1, e2, crcBit]
    by_cases hs : s % 2 = 1
    · rw [if_pos hs, hs]; rfl
    · rw [if_neg hs, show s % 2 = 0 by omega]; exact Nat.xor_zero _
  rw [e3]
  exact wrap_in (by simp only [inR]; omega)
theorem Reads.at {L : List Atom} : ∀ {vs : List Value} {bss : List (List UInt8)}, Reads L 5 vs bss → ∀ j (h : j < vs.length) (h' : j < bss.length), Rd L vs[j] (mrow by8 5 bss[j])
  | _ :: _, _ :: _, h, 0, _, _ => h.1
  | _ :: _, _ :: _, h, j + 1, h1, h2 => h.2.at j (by simpa using h1) (by simpa using h2)
theorem Check_c (L : List Atom) (v : Value) (vs : List Value) (bss : List (List UInt8)) [rd : Rd L v (mrow id 52 vs)] (hb : Reads L 5 vs bss) :
    Fn Try.prog 77 [v] L fun v L' => v = .int .u32 (crc bss.flatten) ∧ L' = L := by
  refine fn_lenM rd fun hvl => ?_
  have hvl : vs.length ≤ 2 ^ 63 - 1 := hvl
  refine fn_intro Try.func77 rfl Try.ntmps77 rfl (fun W0 => ?_)
  simp only [argE]
  refine rS ?_
  refine rR (id := 0) ?_
  refine oG (gA (evv rfl)) rfl rfl ?_
  refine oN ?_
  refine cC ?_
  refine rS ?_
  refine rR (id := 1) ?_
  refine oG (gA (evv rfl)) rfl rfl ?_
  refine oN ?_
  refine cC ?_
  refine rS ?_
  refine rS ?_
  refine rR (id := 2) ?_
  refine oG (gM (evv rfl)) rfl rfl ?_
  refine oG (g_lenM (evv rfl)) rfl rfl ?_
  refine oG (gM (evv rfl)) rfl rfl ?_
  refine oN ?_
  refine cC ?_
  refine r_block ?_
  have hl := hb.len
  refine r_loop (σ := Nat × Nat) (fun s => s.1 ≤ vs.length ∧ s.2 = crcGo 4294967295 (bss.take s.1).flatten) (fun s => vs.length - s.1) (fun s => [(3, .v (.int .u32 s.2)), (8, .v v), (9, .v (.int .i64 vs.length)), (10, .v (.int .i64 s.1))]) (fun s => L) (0, 4294967295) ⟨Nat.zero_le _, rfl⟩ ⟨rfl, rfl, rfl, rfl, trivial⟩ (Ent.refl _) ?_
  rintro ⟨j, s⟩ ⟨h1, h2⟩
  dsimp only at h1 h2 ⊢
  refine rS ?_
  refine rR (id := 3) ?_
  refine oG (g_bin (evv rfl) (evv rfl) (by rfl)) rfl rfl ?_
  refine oN ?_
  refine cC ?_
  refine rS ?_
  refine r_cond rfl (fun hc => ?_) (fun hc => ?_)
  · have hc := of_decide_eq_true hc
    refine r_skip ?_
    refine cC ?_
    refine rS ?_
    refine r_block ?_
    refine rS ?_
    refine rR (id := 4) ?_
    refine oG (g_idxMN (evv rfl) (evv rfl) (by rfl) (by first | omega | (have := of_decide_eq_true hg; omega) | (simp at hg; omega) | (simp only [List.length_set, List.length_append, List.length_cons, List.length_nil, List.length_map, List.length_take, List.length_drop, List.length_replicate]; omega))) rfl rfl ?_
    refine oG (g_loadM (evv rfl) (by rfl) (by first | omega | (have := of_decide_eq_true hg; omega) | (simp at hg; omega) | (simp only [List.length_set, List.length_append, List.length_cons, List.length_nil, List.length_map, List.length_take, List.length_drop, List.length_replicate]; omega))) rfl rfl ?_
    refine oG (gA (evv rfl)) rfl rfl ?_
    refine oN ?_
    refine cC ?_
    refine rS ?_
    have hbj := hb.at j (by omega) (by omega)
    rw [show vs[j] = vs.getD j default by simp [show j < vs.length by omega]] at hbj
    have hstep : crcGo 4294967295 (bss.take (j + 1)).flatten = crcGo s (bss[j]'(by omega)) := by
      rw [List.take_succ_eq_append_getElem (by omega), List.flatten_append, crcGo_app, ← h2]; simp
    generalize bss[j]'(by omega) = bs at hbj hstep
    dsimp only [id_eq]
    generalize vs.getD j default = u at hbj
    have hs32 : s < 4294967296 := by rw [h2]; exact crcGo_lt (by decide)
    refine r_lenM hbj fun hul => ?_
    have hul : bs.length ≤ 2 ^ 63 - 1 := hul
    refine rR (id := 5) ?_
    refine oG (gM (evv rfl)) rfl rfl ?_
    refine oG (g_lenM (evv rfl)) rfl rfl ?_
    refine oG (gM (evv rfl)) rfl rfl ?_
    refine oN ?_
    refine cC ?_
    refine r_block ?_
    refine r_loop (σ := Nat × Nat) (fun s' => s'.1 ≤ bs.length ∧ s'.2 = crcGo s (bs.take s'.1)) (fun s => bs.length - s.1) (fun s => [(3, .v (.int .u32 s.2)), (8, .v v), (9, .v (.int .i64 vs.length)), (10, .v (.int .i64 j)), (14, .v u), (15, .v (.int .i64 bs.length)), (16, .v (.int .i64 s.1))]) (fun s => L) (0, s) ⟨Nat.zero_le _, rfl⟩ ⟨rfl, rfl, rfl, rfl, rfl, rfl, rfl, trivial⟩ (Ent.refl _) ?_
    rintro ⟨i, s1⟩ ⟨g1, g2⟩
    dsimp only at g1 g2 ⊢
    have hs1 : s1 < 4294967296 := by rw [g2]; exact crcGo_lt hs32
    refine rS ?_
    refine rR (id := 6) ?_
    refine oG (g_bin (evv rfl) (evv rfl) (by rfl)) rfl rfl ?_
    refine oN ?_
    refine cC ?_
    refine rS ?_
    refine r_cond rfl (fun hd => ?_) (fun hd => ?_)
    · have hd := of_decide_eq_true hd
      refine r_skip ?_
      refine cC ?_
      refine rS ?_
      refine r_block ?_
      refine rS ?_
      refine rR (id := 7) ?_
      refine oG (g_idxMN (evv rfl) (evv rfl) (by rfl) (by first | omega | (have := of_decide_eq_true hg; omega) | (simp at hg; omega) | (simp only [List.length_set, List.length_append, List.length_cons, List.length_nil, List.length_map, List.length_take, List.length_drop, List.length_replicate]; omega))) rfl rfl ?_
      refine oG (g_loadM (evv rfl) (by rfl) (by first | omega | (have := of_decide_eq_true hg; omega) | (simp at hg; omega) | (simp only [List.length_set, List.length_append, List.length_cons, List.length_nil, List.length_map, List.length_take, List.length_drop, List.length_replicate]; omega))) rfl rfl ?_
      refine oG (gA (evv rfl)) rfl rfl ?_
      refine oN ?_
      refine cC ?_
      refine rS ?_
      refine rR (id := 8) ?_
      refine oG (gM (evv rfl)) rfl rfl ?_
      refine oG (gM (evv rfl)) rfl rfl ?_
      refine o_giveU (g_conv TyU.h TyU.h (evv rfl)) (by rfl) rfl ?_
      refine oG (g_bits (evv rfl) (evv rfl) (by rfl) (by omega) (by omega) (by omega) (by omega)) rfl rfl ?_
      refine oG (gA (evv rfl)) rfl rfl ?_
      refine oN ?_
      refine cC ?_
      refine rS ?_
      refine rR (id := 9) ?_
      refine oG (gM (evv rfl)) rfl rfl ?_
      refine oN ?_
      refine cC ?_
      refine r_block ?_
      have hstep1 : crcGo s (bs.take (i + 1)) = crcByte s1 (bs.getD i default) := by
        have hi : i < bs.length := by omega
        rw [List.take_succ_eq_append_getElem hi, crcGo_app, ← g2]
        simp [hi, crcGo]
      generalize bs.getD i default = c at hstep1
      have hc8 : c.toNat < 256 := c.toNat_lt
      have e0 : ((s1 : Int).toNat ^^^ ((c.toNat : Int) % 4294967296).toNat) = s1 ^^^ c.toNat := by rw [show ((c.toNat : Int) % 4294967296).toNat = c.toNat by omega, show (s1 : Int).toNat = s1 by omega]
      rw [e0]
      have hx : s1 ^^^ c.toNat < 4294967296 := Nat.xor_lt_two_pow (n := 32) hs1 (by omega)
      refine r_loop (σ := Nat × Nat) (fun s' => s'.1 ≤ 8 ∧ crcBits (8 - s'.1) s'.2 = crcByte s1 c ∧ s'.2 < 4294967296) (fun s => 8 - s.1) (fun s => [(3, .v (.int .u32 s.2)), (8, .v v), (9, .v (.int .i64 vs.length)), (10, .v (.int .i64 j)), (14, .v u), (15, .v (.int .i64 bs.length)), (16, .v (.int .i64 i)), (24, .v (.int .i64 s.1))]) (fun s => L) (0, s1 ^^^ c.toNat) ⟨by omega, rfl, hx⟩ ⟨rfl, rfl, rfl, rfl, rfl, rfl, rfl, rfl, trivial⟩ (Ent.refl _) ?_
      rintro ⟨q, s2⟩ ⟨k1, k2, k3⟩
      dsimp only at k1 k2 k3 ⊢
      refine rS ?_
      refine rR (id := 10) ?_
      refine oG (g_bin (evv rfl) (evv rfl) (by rfl)) rfl rfl ?_
      refine oN ?_
      refine cC ?_
      refine rS ?_
      refine r_cond rfl (fun ht => ?_) (fun ht => ?_)
      · have ht := of_decide_eq_true ht
        refine r_skip ?_
        refine cC ?_
        refine rS ?_
        refine r_block ?_
        refine rR (id := 11) ?_
        refine oG (gM (evv rfl)) rfl rfl ?_
        refine oG (g_shrC 2 (evv rfl) (evv rfl) (by rfl) (by decide)) rfl rfl ?_
        refine oG (gM (evv rfl)) rfl rfl ?_
        refine oG (g_bits (evv rfl) (evv rfl) (by rfl) (by omega) (by omega) (by omega) (by omega)) rfl rfl ?_
        refine o_giveU (g_neg (evv rfl)) (by rfl) rfl ?_
        refine oG (g_bits (evv rfl) (evv rfl) (by rfl) (by omega) (by omega) (by omega) (by omega)) rfl rfl ?_
        refine oG (g_bin (evv rfl) (evv rfl) (by rfl)) rfl rfl ?_
        refine oG (gA (evv rfl)) rfl rfl ?_
        refine oN ?_
        refine c_blk ?_
        refine cC ?_
        refine rR (id := 12) ?_
        refine o_giveN (g_bin (evv rfl) (evv rfl) (by rfl)) (by simp only [inR]; omega) rfl ?_
        refine oG (gM (evv rfl)) rfl rfl ?_
        refine oN ?_
        rw [crcBit_bits k3]
        refine c_loop (q + 1, crcBit s2) ⟨by dsimp only; omega, ?_, crcBit_lt k3⟩ (by dsimp only; omega) ⟨rfl, rfl, rfl, rfl, rfl, rfl, rfl, rfl, trivial⟩ (Ent.refl _)
        rw [← k2, show 8 - q = (8 - (q + 1)) + 1 by omega]; rfl
      · have ht := of_decide_eq_false ht
        have e8 : q = 8 := by omega
        subst e8
        have k2 : s2 = crcByte s1 c := k2
        subst k2
        refine r_exit rfl ?_
        refine c_blk ?_
        refine cC ?_
        refine rR (id := 13) ?_
        refine o_giveN (g_bin (evv rfl) (evv rfl) (by rfl)) (by simp only [inR]; omega) rfl ?_
        refine oG (gM (evv rfl)) rfl rfl ?_
        refine oN ?_
        exact c_loop (i + 1, crcByte s1 c) ⟨by dsimp only; omega, by dsimp only; rw [hstep1]⟩ (by dsimp only; omega) ⟨rfl, rfl, rfl, rfl, rfl, rfl, rfl, trivial⟩ (Ent.refl _)
    · have hd := of_decide_eq_false hd
      refine r_exit rfl ?_
      refine c_blk ?_
      refine cC ?_
      refine rR (id := 14) ?_
      refine o_giveN (g_bin (evv rfl) (evv rfl) (by rfl)) (by simp only [inR]; omega) rfl ?_
      refine oG (gM (evv rfl)) rfl rfl ?_
      refine oN ?_
      exact c_loop (j + 1, s1) ⟨by dsimp only; omega, by dsimp only; rw [hstep, g2, List.take_of_length_le (by omega)]⟩ (by dsimp only; omega) ⟨rfl, rfl, rfl, rfl, trivial⟩ (Ent.refl _)
  · have hc := of_decide_eq_false hc
    have hs32 : s < 4294967296 := by rw [h2]; exact crcGo_lt (by decide)
    refine r_exit rfl ?_
    refine cC ?_
    refine rS ?_
    refine rR (id := 15) ?_
    refine oG (gM (evv rfl)) rfl rfl ?_
    refine oG (g_comU (evv rfl) (by rfl) (by omega) (by omega)) rfl rfl ?_
    refine oG (gA (evv rfl)) rfl rfl ?_
    refine oN ?_
    refine cC ?_
    refine r_ret (rs := [.tmp 2]) rfl rfl _ (Ent.refl _) ⟨?_, rfl⟩
    rw [List.take_of_length_le (by omega)] at h2
    have : crc bss.flatten = 4294967295 - s := by
      rw [crc, ← h2]
      have h1 := congrArg BitVec.toNat (BitVec.xor_allOnes (x := BitVec.ofNat 32 s))
      rw [BitVec.toNat_xor, BitVec.toNat_not, BitVec.toNat_allOnes, BitVec.toNat_ofNat, Nat.mod_eq_of_lt hs32] at h1
      exact h1
    rw [this]
    show Value.int _ _ = Value.int _ _
    congr 1
    omega
end VK

namespace VK
open Go Go.Proofs
set_option linter.unusedSimpArgs false
set_option linter.unusedVariables false
set_option maxRecDepth 100000
set_option maxHeartbeats 40000000
end VK

namespace VK
open Go Go.Proofs
set_option linter.unusedSimpArgs false
set_option linter.unusedVariables false
set_option maxRecDepth 100000
set_option maxHeartbeats 40000000
structure Fld where
  kind : Int
  n : Nat
  s : List UInt8
  most : Int
deriving Inhabited
def Fld.ok (f : Fld) : Prop := (-9223372036854775808 ≤ f.kind ∧ f.kind ≤ 9223372036854775807) ∧ f.n ≤ 18446744073709551615 ∧ (-9223372036854775808 ≤ f.most ∧ f.most ≤ 9223372036854775807)
end VK
