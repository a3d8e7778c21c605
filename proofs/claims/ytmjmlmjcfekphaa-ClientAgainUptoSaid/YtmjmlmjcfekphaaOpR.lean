/- A result's bytes: written and read, the code's and the reference's. Conditions: texts of a machine's size. -/
import Derived.Test.YtmjmlmjcfekphaaOpE
namespace VK
open Go Go.Proofs
set_option linter.unusedSimpArgs false
set_option linter.unusedVariables false
set_option maxRecDepth 100000
set_option maxHeartbeats 40000000
structure Res where
  code : Int
  dir : Bool
  size : Int
  data : List UInt8
  names : List (List UInt8)
  deriving DecidableEq, Inhabited
def Res.ok (r : Res) : Prop := inR .i64 r.code ∧ inR .i64 r.size ∧ r.data.length ≤ 9223372036854775807 ∧ (∀ n ∈ r.names, n.length ≤ 9223372036854775807)
abbrev reslV (r : Res) (nv : Value) : List Value := [.int .i64 r.code, .bool r.dir, .int .i64 r.size, str r.data, nv]
def zeroRes : Res := ⟨0, false, 0, [], []⟩
def longRes (r : Res) : Prop := 1100 < r.data.length ∨ ∃ n ∈ r.names, 1100 < n.length
instance (r : Res) : Decidable (longRes r) := by unfold longRes; infer_instance
def packE (r : Res) : Int := if longRes r then 2 else if 512 < r.names.length then 8 else 0
def encRes (r : Res) : List UInt8 := intB r.code ++ flagB r.dir ++ intB r.size ++ textB r.data ++ num r.names.length ++ r.names.flatMap textB
def packB (r : Res) : List UInt8 := if packE r = 0 then encRes r else []
/-! ### plain -/
def namesGo : Nat → InS → List (List UInt8) × InS
  | 0, s => ([], s)
  | k + 1, s => ((textR 1100 s).1 :: (namesGo k (textR 1100 s).2).1, (namesGo k (textR 1100 s).2).2)
def resN (b : List UInt8) : Nat × InS := numR (textR 1100 (numR (flagR (numR ⟨b, 0⟩).2).2).2).2
def resR (b : List UInt8) : Res × InS :=
  (⟨unzig (numR ⟨b, 0⟩).1, (flagR (numR ⟨b, 0⟩).2).1, unzig (numR (flagR (numR ⟨b, 0⟩).2).2).1, (textR 1100 (numR (flagR (numR ⟨b, 0⟩).2).2).2).1, (namesGo (resN b).1 (resN b).2).1⟩, (namesGo (resN b).1 (resN b).2).2)
def decRes (b : List UInt8) : Option Res := if 512 < (resN b).1 then none else if (resR b).2.err = 0 ∧ (resR b).2.bs.length = 0 then some (resR b).1 else none
theorem namesGo_back : ∀ (ns : List (List UInt8)) (r : List UInt8), (∀ n ∈ ns, n.length ≤ 1100) → namesGo ns.length ⟨ns.flatMap textB ++ r, 0⟩ = (ns, ⟨r, 0⟩)
  | [], r, _ => rfl
  | n :: ns, r, h => by
    have h1 := h n (by simp)
    have e := textR_back (s := n) (r := ns.flatMap textB ++ r) (most := 1100) (by omega) (by omega)
    rw [List.flatMap_cons, List.append_assoc, List.length_cons, namesGo, e, namesGo_back ns r (fun m hm => h m (by simp [hm]))]
theorem namesGo_canon : ∀ (k : Nat) (s : InS) (ns : List (List UInt8)) (r : List UInt8), namesGo k s = (ns, ⟨r, 0⟩) → s = ⟨ns.flatMap textB ++ r, 0⟩ ∧ ns.length = k ∧ ∀ n ∈ ns, n.length ≤ 1100
  | 0, s, ns, r, h => by
    simp only [namesGo, Prod.mk.injEq] at h
    obtain ⟨rfl, rfl⟩ := h
    exact ⟨rfl, rfl, fun n hn => by simp at hn⟩
  | k + 1, s, ns, r, h => by
    simp only [namesGo, Prod.mk.injEq] at h
    obtain ⟨rfl, h⟩ := h
    obtain ⟨h1, h2, h3⟩ := namesGo_canon k (textR 1100 s).2 _ r (Prod.ext rfl h)
    obtain ⟨h4, h5⟩ := text_canon (s := s) (Prod.ext rfl h1)
    refine ⟨h4.trans ?_, by rw [List.length_cons, h2], fun n hn => ?_⟩
    · rw [List.flatMap_cons, List.append_assoc]
    · rcases List.mem_cons.1 hn with rfl | hn
      · have l2 : ((textR 1100 s).1.length : Int) ≤ max 1100 0 := h5
        omega
      · exact h3 n hn
theorem long_no {r : Res} (h : ¬ longRes r) : r.data.length ≤ 1100 ∧ ∀ n ∈ r.names, n.length ≤ 1100 := by
  unfold longRes at h
  simp only [not_or, not_exists, not_and] at h
  exact ⟨by omega, fun n hn => by have := h.2 n hn; omega⟩
theorem resR_back {r : Res} (ho : r.ok) (hl : ¬ longRes r) (hn : r.names.length ≤ 512) (rest : List UInt8) : resN (encRes r ++ rest) = (r.names.length, ⟨r.names.flatMap textB ++ rest, 0⟩) ∧ resR (encRes r ++ rest) = (r, ⟨rest, 0⟩) := by
  obtain ⟨code, dir, size, data, names⟩ := r
  obtain ⟨h1, h2, h3, h4⟩ := ho
  obtain ⟨l1, l2⟩ := long_no hl
  dsimp only at *
  simp only [inR] at h1 h2
  have hz1 := zig_le code h1.1 h1.2
  have hz2 := zig_le size h2.1 h2.2
  have e1 := numR_num (m := zig code) (flagB dir ++ (num (zig size) ++ (textB data ++ (num names.length ++ (names.flatMap textB ++ rest))))) hz1
  have e2 := flagR_back (b := dir) (r := num (zig size) ++ (textB data ++ (num names.length ++ (names.flatMap textB ++ rest))))
  have e3 := numR_num (m := zig size) (textB data ++ (num names.length ++ (names.flatMap textB ++ rest))) hz2
  have e4 := textR_back (s := data) (r := num names.length ++ (names.flatMap textB ++ rest)) (most := 1100) (by omega) (by omega)
  have e5 := numR_num (m := names.length) (names.flatMap textB ++ rest) (by omega)
  have e6 := namesGo_back names rest l2
  have e0 : encRes ⟨code, dir, size, data, names⟩ ++ rest = num (zig code) ++ (flagB dir ++ (num (zig size) ++ (textB data ++ (num names.length ++ (names.flatMap textB ++ rest))))) := by simp [encRes, intB]
  have hN : resN (encRes ⟨code, dir, size, data, names⟩ ++ rest) = (names.length, ⟨names.flatMap textB ++ rest, 0⟩) := by
    rw [e0]
    simp only [resN, e1, e2, e3, e4, e5]
  refine ⟨hN, ?_⟩
  unfold resR
  rw [hN, e6, e0]
  simp only [e1, e2, e3, e4, unzig_zig]
theorem resR_canon {b : List UInt8} {r : Res} (h : resR b = (r, ⟨[], 0⟩)) : b = encRes r ∧ ¬ longRes r ∧ r.names.length = (resN b).1 := by
  unfold resR at h
  simp only [Prod.mk.injEq] at h
  obtain ⟨rfl, h⟩ := h
  obtain ⟨h6, h7, h8⟩ := namesGo_canon _ _ _ _ (Prod.ext rfl h)
  have h5 := num_canon (s := (textR 1100 (numR (flagR (numR ⟨b, 0⟩).2).2).2).2) (m := (resN b).1) (Prod.ext rfl h6)
  have h4 := text_canon (s := (numR (flagR (numR ⟨b, 0⟩).2).2).2) (Prod.ext rfl h5)
  have h3 := num_canon (s := (flagR (numR ⟨b, 0⟩).2).2) (Prod.ext rfl h4.1)
  have h2 := flag_canon (s := (numR ⟨b, 0⟩).2) (Prod.ext rfl h3)
  have h1 := num_canon (s := ⟨b, 0⟩) (Prod.ext rfl h2)
  have l4 : ((textR 1100 (numR (flagR (numR ⟨b, 0⟩).2).2).2).1.length : Int) ≤ max 1100 0 := h4.2
  refine ⟨?_, ?_, h7⟩
  · have := congrArg InS.bs h1
    refine this.trans ?_
    simp [encRes, intB, zig_unzig, h7]
  · unfold longRes
    rintro (h | ⟨n, hn, h⟩)
    · dsimp only at h; omega
    · have := h8 n hn
      omega
theorem unpack_pack {r : Res} (ho : r.ok) (h : packE r = 0) : decRes (encRes r) = some r := by
  have hl : ¬ longRes r := fun hl => by rw [packE, if_pos hl] at h; cases h
  have hn : r.names.length ≤ 512 := by
    rw [packE, if_neg hl] at h
    split at h
    · cases h
    · omega
  have := resR_back ho hl hn []
  rw [List.append_nil] at this
  unfold decRes
  rw [this.1, this.2, if_neg (by dsimp only; omega), if_pos ⟨rfl, rfl⟩]
theorem unpack_canon {b : List UInt8} {r : Res} (h : decRes b = some r) : b = encRes r ∧ packE r = 0 ∧ r.ok := by
  unfold decRes at h
  split at h
  · cases h
  · rename_i h5
    split at h
    · rename_i hc
      cases h
      have : resR b = ((resR b).1, ⟨[], 0⟩) := by
        refine Prod.ext rfl ?_
        have h2 := List.eq_nil_of_length_eq_zero hc.2
        have h1 := hc.1
        generalize (resR b).2 = s at *
        cases s
        simp only at h1 h2
        rw [h1, h2]
      obtain ⟨e, hl, hn⟩ := resR_canon this
      have hll := long_no hl
      refine ⟨e, ?_, unzig_in (numR_le _), unzig_in (numR_le _), by have := hll.1; omega, fun n hn => by have := hll.2 n hn; omega⟩
      rw [packE, if_neg hl, if_neg (by omega)]
    · cases h
/-! ### walks -/
theorem names_len : ∀ (ns : List (List UInt8)), (∀ n ∈ ns, n.length ≤ 1100) → (ns.flatMap textB).length ≤ 1110 * ns.length
  | [], _ => by simp
  | n :: ns, h => by
    have h1 := h n (by simp)
    have h2 := textB_len (s := n) (by omega)
    have := names_len ns (fun m hm => h m (by simp [hm]))
    rw [List.flatMap_cons, List.length_append, List.length_cons]
    omega
theorem names_step {ns : List (List UInt8)} {i : Nat} (h : i < ns.length) : (ns.take (i + 1)).flatMap textB = (ns.take i).flatMap textB ++ textB (ns.getD i default) := by
  rw [List.take_succ_eq_append_getElem h, List.flatMap_append]
  simp [List.getD_eq_getElem?_getD, h]
/-- the longest of the first i names -/
def longT (d : Nat) (ns : List (List UInt8)) : Int := ns.foldl (fun m n => max m (n.length : Int)) (d : Int)
theorem longT_le (d : Nat) (b : Int) (ns : List (List UInt8)) : longT d ns ≤ b ↔ (d : Int) ≤ b ∧ ∀ n ∈ ns, (n.length : Int) ≤ b := by
  unfold longT
  generalize (d : Int) = z
  induction ns generalizing z with
  | nil => simp
  | cons n ns ih =>
    rw [List.foldl_cons, ih]
    simp only [List.mem_cons, forall_eq_or_imp]
    constructor
    · rintro ⟨h1, h2⟩; exact ⟨by omega, by omega, h2⟩
    · rintro ⟨h1, h2, h3⟩; exact ⟨by omega, h3⟩
theorem longT_step {d : Nat} {ns : List (List UInt8)} {i : Nat} (h : i < ns.length) : longT d (ns.take (i + 1)) = max (longT d (ns.take i)) ((ns.getD i default).length : Int) := by
  unfold longT
  rw [List.take_succ_eq_append_getElem h, List.foldl_append]
  simp [List.getD_eq_getElem?_getD, h]
theorem longT_ge (d : Nat) (ns : List (List UInt8)) : 0 ≤ longT d ns := by
  have := ((longT_le d (longT d ns) ns).1 (Int.le_refl _)).1
  omega
theorem long_iff (r : Res) : longRes r ↔ 1100 < longT r.data.length r.names := by
  rw [← Decidable.not_iff_not, show ¬ (1100 < longT r.data.length r.names) ↔ longT r.data.length r.names ≤ 1100 by omega, longT_le]
  unfold longRes
  simp only [not_or, not_exists, not_and]
  constructor
  · rintro ⟨h1, h2⟩; exact ⟨by omega, fun n hn => by have := h2 n hn; omega⟩
  · rintro ⟨h1, h2⟩; exact ⟨by omega, fun n hn => by have := h2 n hn; omega⟩
def namesT (acc : List (List UInt8)) (k : Nat) (s : InS) : List (List UInt8) × InS := (acc ++ (namesGo k s).1, (namesGo k s).2)
theorem namesT_step (acc : List (List UInt8)) (k : Nat) (s : InS) : namesT acc (k + 1) s = namesT (acc ++ [(textR 1100 s).1]) k (textR 1100 s).2 := by
  simp [namesT, namesGo]
theorem unpack_many {b : List UInt8} (h : 512 < (resN b).1) : decRes b = none := if_pos h
theorem unpack_bad {b : List UInt8} (h : ¬ 512 < (resN b).1) (h2 : ¬ ((resR b).2.err = 0 ∧ (resR b).2.bs.length = 0)) : decRes b = none := (if_neg h).trans (if_neg h2)
theorem unpack_good {b : List UInt8} (h : ¬ 512 < (resN b).1) (h2 : (resR b).2.err = 0 ∧ (resR b).2.bs.length = 0) : decRes b = some (resR b).1 := (if_neg h).trans (if_pos h2)
end VK
