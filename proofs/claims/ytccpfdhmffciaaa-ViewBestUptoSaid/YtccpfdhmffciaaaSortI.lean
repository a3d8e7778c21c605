/- slices.Sort at []int64: the shelf's contract, in the framework's form. Conditions: fewer than 2^62 elements. -/
import Derived.Test.YtccpfdhmffciaaaT
import Derived.Shelf.SortM.Plain
import Derived.Shelf.SortM.SortNone
import Derived.Ground.SlgmProg
namespace VK
open Go Go.Proofs
set_option linter.unusedSimpArgs false
set_option linter.unusedVariables false
set_option maxRecDepth 100000
set_option maxHeartbeats 40000000
open Go.Shelf Go.RowKit Go.Sort
shelf_lay_g SlLaysM.n5 Slgm 5 at Try 30 as VK.laysSort
def sortZ (l : List Int) : List Int := l.mergeSort fun x y => decide (x ≤ y)
theorem sortZ_len (l : List Int) : (sortZ l).length = l.length := List.length_mergeSort l
theorem Sort_c (F : List Atom) (v : Value) (l : List Int) (hl : l.length ≤ 4611686018427387903) :
    Fn Try.prog 30 [v] (sl v (mrow i64v 2 l) :: F) fun w L' => w = .tuple #[] ∧ L' = sl v (mrow i64v 2 (sortZ l)) :: F := by
  unfold Fn
  intro W0 w hs
  obtain ⟨h1, h2, sp, ha, hr⟩ := hs.heap
  have ha' := ha
  unfold sl at ha
  obtain ⟨_, _, h3⟩ := ha
  rcases h3 with ⟨rfl, hn⟩ | ⟨b, cap, cur, fr, hv, hb, hf, hn, hm, hc, ht⟩
  · have hl0 : l = [] := List.eq_nil_of_length_eq_zero (by simpa [mrow] using hn)
    subst hl0
    refine Calls.mono (AnyM.slices_Sort_int_none VK.laysSort none 0 w) ?_
    rintro e w' ⟨rfl, rfl⟩
    exact ⟨_, _, rfl, ⟨rfl, rfl⟩, by rw [show sortZ [] = [] by simp [sortZ]]; exact hs⟩
  · have hn' : (mrow i64v 2 l).n = l.length := rfl
    rw [hn'] at hv hn ht
    subst hv
    have hbw : w.heap[b]? = some (.cells cur 2 fr) := sp.2.1 b _ hb
    have hbl : b < w.heap.size := (Array.getElem?_eq_some_iff.1 hbw).1
    have hsz : (mrow i64v 2 l).sz = 1 := rfl
    rw [hsz, Nat.mul_one] at hc ht
    have hcells : ∀ j (hj : j < l.length), cur[j]? = some (.int .i64 l[j]) := fun j hj => by
      have h4 : (cur.toList.take l.length)[j]? = some (.int .i64 l[j]) := by
        rw [ht]; simp [mrow, hj, i64v]
      rw [List.getElem?_take, if_pos hj] at h4
      simpa using h4
    have hH : Holds (Value.int .i64) w b 0 l.toArray := fun j hj => by
      have hj' : j < l.length := by simpa using hj
      refine ⟨?_, ?_⟩
      · simp only [World.cell?, hbw, Nat.zero_add]
        rw [hcells j hj']
        simp [getElem!_pos, hj']
      · simp only [World.frozen?, hbw, Nat.zero_add]
        have : ¬ (fr.1 ≤ j ∧ j < fr.2) := by
          unfold FrOk at hf
          rcases hf with hf | hf
          · omega
          · omega
        simpa using this
    have key := AnyM.slices_Sort_int VK.laysSort b 0 cap l w hH hbl (by omega)
    refine Calls.mono key ?_
    rintro e w' ⟨rfl, n, os, rfl⟩
    refine ⟨_, _, rfl, ⟨rfl, rfl⟩, hs.os, hs.tape, hs.output, ?_⟩
    refine star_mono (h := upd (fun k => w.heap[k]?) b (.cells (putCells (Value.int .i64) 0 (sortZ l).toArray cur) 2 fr)) ?_ ?_
    · intro k o hk
      have hk' : (grow (putRow (Value.int .i64) (Sort.ahead w n) b 0 (sortZ l).toArray) os).heap[k]? = some o := by
        unfold upd at hk
        by_cases hkb : k = b
        · subst hkb
          rw [if_pos rfl] at hk
          rw [heap_grow_old _ _ (by rw [size_putRow]; exact hbl)]
          cases hk
          simp only [putRow, mapBlock, Sort.ahead, Array.getElem?_modify, if_true, hbw]
          rfl
        · rw [if_neg hkb] at hk
          have hkl : k < w.heap.size := (Array.getElem?_eq_some_iff.1 hk).1
          rw [heap_grow_old _ _ (by rw [size_putRow]; exact hkl)]
          simp only [putRow, mapBlock, Sort.ahead, Array.getElem?_modify, if_neg (Ne.symm hkb)]
          exact hk
      exact hk'
    · refine star_set (A := sl (.slice (some ⟨b, 0, none⟩) l.length cap) (mrow i64v 2 l)) hs.heap fun g hg hA => ?_
      unfold sl at hA ⊢
      obtain ⟨_, _, h3⟩ := hA
      rcases h3 with ⟨h3, _⟩ | ⟨b', cap', cur', fr', hv', hb', hf', hn2, hm', hc', ht'⟩
      · cases h3
      · obtain ⟨rfl, rfl⟩ : b' = b ∧ cap' = cap := by
          simp only [Value.slice.injEq, Option.some.injEq, Addr.mk.injEq] at hv'
          exact ⟨hv'.1.1.symm, hv'.2.2.symm⟩
        have hcur : some (Obj.cells cur' 2 fr') = some (Obj.cells cur 2 fr) := by rw [← hbw]; exact (hg _ _ hb').symm
        simp only [Option.some.injEq, Obj.cells.injEq, true_and] at hcur
        obtain ⟨rfl, rfl⟩ := hcur
        refine ⟨⟨_, hb'⟩, by simp [mrow], fun u hu => by simp only [mrow, List.mem_map] at hu; obtain ⟨x, _, rfl⟩ := hu; rfl, .inr ⟨b', cap', putCells (Value.int .i64) 0 (sortZ l).toArray cur', fr', ?_, by simp [upd, mrow], ?_, ?_, hm', ?_, ?_⟩⟩
        · simp [mrow, sortZ_len]
        · have : (putCells (Value.int .i64) 0 (sortZ l).toArray cur').size = cur'.size := by simp [putCells]
          rw [this]; exact hf'
        · show (sortZ l).length ≤ cap'
          rw [sortZ_len]; exact hn
        · show (putCells (Value.int .i64) 0 (sortZ l).toArray cur').size = cap' * 1
          simp [putCells, hc]
        · show (putCells (Value.int .i64) 0 (sortZ l).toArray cur').toList.take ((sortZ l).length * 1) = (sortZ l).map i64v
          rw [Nat.mul_one]
          apply List.ext_getElem?
          intro j
          rw [List.getElem?_take, List.getElem?_map]
          by_cases hj : j < (sortZ l).length
          · have hjc : j < cur'.size := by rw [sortZ_len] at hj; omega
            rw [if_pos hj]
            simp [putCells, hj, hjc, i64v, getElem!_pos]
          · rw [if_neg hj, List.getElem?_eq_none (by omega)]
            rfl
end VK
