/- strings.Join: the shelf's contract, in the framework's form. Conditions: the joined text within the bound. -/
import Derived.Test.YtfcdlmcdidfjlaaT
import Derived.Shelf.Lay
import Derived.Ground.NamesProg
import Derived.Shelf.Strings.OnBuilder
namespace VK
open Go Go.Proofs
set_option linter.unusedSimpArgs false
set_option linter.unusedVariables false
set_option maxRecDepth 100000
set_option maxHeartbeats 40000000
open Go.Shelf Go.RowKit
shelf_lay Lays.n156 Nm 156 at Try as VK.laysJoin
theorem extraJoin : Builder.Extra Try.prog VK.laysJoin_ren where
  sizeBuilder := by kernel_rfl
  liesBuilder := by kernel_rfl
  t5 := Try.underlying5
  a5 := Try.isAgg5
  z5 := Try.sizeOf5
  v5 := Try.zeroValue5
  infoByte := by kernel_rfl
  cellsByte := by kernel_rfl
  sizeByte := by kernel_rfl
  neB5 := by decide
theorem St.below {W0 w w' : World} {L : List Atom} (h : St W0 L w) (hb : Below w.heap.size w w') : St W0 L w' := by
  refine ⟨hb.os.trans h.os, hb.tape.trans h.tape, hb.output.trans h.output, star_mono (fun x y e => ?_) h.heap⟩
  have hx : x < w.heap.size := (Array.getElem?_eq_some_iff.1 e).1
  show w'.heap[x]? = some y
  rw [hb.block x hx]; exact e
theorem Join_c (L : List Atom) (v : Value) (xs : List (List UInt8)) (sep : List UInt8) [rd : Rd L v (mrow str 9 xs)] (hlen : (Lib.join xs sep).length ≤ 140737488355328) (hN : xs.length ≤ 140737488355328) :
    Fn Try.prog 27 [v, str sep] L fun u L' => u = str (Lib.join xs sep) ∧ L' = L := by
  unfold Fn
  intro W0 w hs
  have hR := rd.rd W0 w hs
  unfold RdW at hR
  obtain ⟨h1, h2, a, cap, hv, h3, h4, h5⟩ := hR
  subst hv
  by_cases hx : xs = []
  · subst hx
    refine Calls.mono (Any.strings_Join_none VK.laysJoin extraJoin a cap ⟨sep.toArray⟩ w) ?_
    rintro e w' ⟨rfl, rfl⟩
    exact ⟨_, L, rfl, ⟨rfl, rfl⟩, hs⟩
  · rcases h5 with h5 | ⟨b, o, rfl, hc⟩
    · simp [mrow, hx] at h5
    · have hm : (xs.map fun x => (⟨x.toArray⟩ : ByteArray)).map (fun x => x.data.toList) = xs := by
        rw [List.map_map]
        exact List.map_id'' (fun _ => rfl) xs
      have hcells : ∀ (j : Nat) x, (xs.map fun x => (⟨x.toArray⟩ : ByteArray))[j]? = some x → w.cell? ⟨b, o + j, none⟩ = some (.string x) := fun j x hj => by
        refine hc j (.string x) ?_
        simp only [List.getElem?_map] at hj
        simp only [mrow, List.getElem?_map]
        cases hq : xs[j]? with
        | none => rw [hq] at hj; cases hj
        | some y => rw [hq] at hj; cases hj; rfl
      have hb : b < w.heap.size := by
        obtain ⟨y, m, rfl⟩ := List.exists_cons_of_ne_nil hx
        have := hcells 0 _ rfl
        unfold World.cell? at this
        simp only at this
        split at this
        · rename_i hq
          exact (Array.getElem?_eq_some_iff.1 hq).1
        · cases this
      have key := Any.strings_Join VK.laysJoin extraJoin b o cap (xs.map fun x => ⟨x.toArray⟩) ⟨sep.toArray⟩ w hcells hb (by simp; omega) (by simpa [mrow] using h3) (by rw [hm]; exact hlen)
      rw [hm, List.length_map] at key
      refine Calls.mono key ?_
      rintro e w' ⟨rfl, hbl⟩
      exact ⟨_, L, rfl, ⟨rfl, rfl⟩, hs.below hbl⟩
end VK
