/- What a path's text means, in plain lists. Conditions: none. -/
import Derived.Test.YtmjmlmjcfekphaaStrs
import Derived.Test.YtmjmlmjcfekphaaVp
namespace VK
open Go Go.Proofs
set_option linter.unusedSimpArgs false
set_option linter.unusedVariables false
set_option maxRecDepth 100000
set_option maxHeartbeats 40000000
/-- what stands between strokes, as the code takes it -/
def pcsF : Nat → List UInt8 → List (List UInt8)
  | 0, _ => []
  | n + 1, s => if s = [] then [] else cutA 47 s :: pcsF n (cutZ 47 s)
def pcs (s : List UInt8) : List (List UInt8) := pcsF s.length s
theorem cutZ_len (s : List UInt8) (h : s ≠ []) : (cutZ 47 s).length < s.length := by
  have : 0 < s.length := List.length_pos_iff.2 h
  unfold cutZ
  split
  · exact this
  · rw [List.length_drop]; omega
theorem pcsF_fuel : ∀ {k m : Nat} {s : List UInt8}, s.length ≤ k → s.length ≤ m → pcsF k s = pcsF m s
  | 0, 0, _, _, _ => rfl
  | 0, m + 1, s, h, _ => by
    have : s = [] := List.eq_nil_of_length_eq_zero (by omega)
    subst this
    rfl
  | k + 1, 0, s, _, h => by
    have : s = [] := List.eq_nil_of_length_eq_zero (by omega)
    subst this
    rfl
  | k + 1, m + 1, s, h1, h2 => by
    unfold pcsF
    split
    · rfl
    · rename_i hs
      have := cutZ_len s hs
      rw [pcsF_fuel (k := k) (m := m) (by omega) (by omega)]
theorem pcs_nil : pcs [] = [] := rfl
theorem pcs_go {s : List UInt8} (h : s ≠ []) : pcs s = cutA 47 s :: pcs (cutZ 47 s) := by
  have h1 := cutZ_len s h
  have : 0 < s.length := List.length_pos_iff.2 h
  unfold pcs
  obtain ⟨n, hn⟩ : ∃ n, s.length = n + 1 := ⟨s.length - 1, by omega⟩
  rw [hn, pcsF, if_neg h, pcsF_fuel (k := n) (m := (cutZ 47 s).length) (by omega) (Nat.le_refl _)]
/-- what stands between strokes -/
def spA (s : List UInt8) : List UInt8 := s.takeWhile (fun c => c ≠ 47)
def sp : List UInt8 → List (List UInt8)
  | [] => [[]]
  | c :: s => if c = 47 then [] :: sp s else (c :: (sp s).headD []) :: (sp s).tail
theorem sp_ne (s : List UInt8) : sp s ≠ [] := by
  cases s with
  | nil => simp [sp]
  | cons c s => unfold sp; split <;> simp
theorem sp_cut : ∀ {a : List UInt8} (b : List UInt8), 47 ∉ a → sp (a ++ 47 :: b) = a :: sp b
  | [], b, _ => by simp [sp]
  | c :: a, b, h => by
    simp only [List.mem_cons, not_or] at h
    have ih := sp_cut b h.2
    rw [List.cons_append, sp, if_neg (fun e => h.1 e.symm), ih]
    rfl
theorem sp_one : ∀ {a : List UInt8}, 47 ∉ a → sp a = [a]
  | [], _ => rfl
  | c :: a, h => by
    simp only [List.mem_cons, not_or] at h
    rw [sp, if_neg (fun e => h.1 e.symm), sp_one h.2]
    rfl
/-- a piece more -/
def stepN (acc : List (List UInt8)) (p : List UInt8) : Option (List (List UInt8)) :=
  if 16 < p.length then none else if p = [] ∨ p = [46] then some acc else if p = [46, 46] then some acc.dropLast else some (acc ++ [p])
def foldN (acc : List (List UInt8)) : List (List UInt8) → Option (List (List UInt8))
  | [] => some acc
  | p :: ps => match stepN acc p with
    | none => none
    | some acc' => foldN acc' ps
theorem step_nil (acc : List (List UInt8)) : stepN acc [] = some acc := by unfold stepN; rw [if_neg (by decide), if_pos (.inl rfl)]
theorem fold_pcs : ∀ (n : Nat) (s : List UInt8) (acc : List (List UInt8)), s.length ≤ n → foldN acc (pcs s) = foldN acc (sp s)
  | n, [], acc, _ => by rw [pcs_nil, sp]; simp only [foldN, step_nil]
  | 0, c :: s, _, h => absurd h (by simp)
  | n + 1, c :: s, acc, h => by
    have hne : c :: s ≠ [] := by simp
    have hl := cutZ_len (c :: s) hne
    rw [pcs_go hne]
    rcases ix_cases (c :: s) 47 with ⟨h1, h2⟩ | ⟨i, h1, h2, h3, h4⟩
    · rw [show cutA 47 (c :: s) = c :: s from if_pos (by omega), show cutZ 47 (c :: s) = [] from if_pos (by omega), pcs_nil, sp_one h2]
    · have ea : cutA 47 (c :: s) = (c :: s).take i := (if_neg (by omega)).trans (by rw [h2]; rfl)
      have ez : cutZ 47 (c :: s) = (c :: s).drop (i + 1) := (if_neg (by omega)).trans (by rw [h2]; rfl)
      have e5 : sp (c :: s) = (c :: s).take i :: sp ((c :: s).drop (i + 1)) := by
        conv => lhs; rw [h4]
        exact sp_cut _ h3
      rw [ea, ez, e5]
      have ih := fun acc => fold_pcs n ((c :: s).drop (i + 1)) acc (by rw [← ez]; omega)
      simp only [foldN]
      split
      · rfl
      · exact ih _
theorem dropLast_len (acc : List (List UInt8)) : acc.dropLast = acc.take (acc.length - 1) := List.dropLast_eq_take
def okC (c : UInt8) : Prop := c = 47 ∨ plainP c
instance (c : UInt8) : Decidable (okC c) := by unfold okC; infer_instance
/-- the names of a path's text -/
def parseR (s : List UInt8) : List (List UInt8) × Int :=
  if 256 < s.length then ([], 2) else if ¬ [47] <+: s ∨ ¬ (∀ c ∈ s, okC c) then ([], 40) else
    match foldN [] (sp s) with
    | none => ([], 41)
    | some l => if 8 < l.length then ([], 42) else (l, 0)
theorem step_len {acc l : List (List UInt8)} {p : List UInt8} (h : stepN acc p = some l) : l.length ≤ acc.length + 1 := by
  unfold stepN at h
  split at h
  · cases h
  · split at h
    · cases h; omega
    · split at h
      · cases h; rw [List.length_dropLast]; omega
      · cases h; simp
theorem sp_len (s : List UInt8) : (sp s).length ≤ s.length + 1 := by
  induction s with
  | nil => simp [sp]
  | cons c s ih =>
    unfold sp
    split
    · simp; omega
    · have := sp_ne s
      simp only [List.length_cons, List.length_tail]
      omega
end VK
