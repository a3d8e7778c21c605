/- What a path's text means, in plain lists: shown and parsed again. Conditions: none. -/
import Derived.Test.YtfcdlmcdidfjlaaParseL
import Derived.Test.YtfcdlmcdidfjlaaNames
import Derived.Lib.Join
namespace VK
open Go Go.Proofs
set_option linter.unusedSimpArgs false
set_option linter.unusedVariables false
set_option maxRecDepth 100000
set_option maxHeartbeats 40000000
theorem sp_app : ∀ (a b : List UInt8), sp (a ++ 47 :: b) = sp a ++ sp b
  | [], b => by simp [sp]
  | c :: a, b => by
    rw [List.cons_append, sp, sp, sp_app a b]
    have := sp_ne a
    obtain ⟨x, y, h⟩ := List.exists_cons_of_ne_nil this
    split
    · simp
    · rw [h]; simp
theorem foldN_app (ps qs acc : List (List UInt8)) : foldN acc (ps ++ qs) = (foldN acc ps).bind fun u => foldN u qs := by
  induction ps generalizing acc with
  | nil => rfl
  | cons p ps ih =>
    rw [List.cons_append]
    simp only [foldN]
    split
    · rfl
    · exact ih _
theorem step_name {acc : List (List UInt8)} {p : List UInt8} (h : nameP p) : stepN acc p = some (acc ++ [p]) := by
  obtain ⟨h1, h2, h3, h4, _⟩ := h
  refine (if_neg (by omega)).trans ((if_neg ?_).trans (if_neg h4))
  rintro (rfl | h)
  · simp at h1
  · exact h3 h
theorem step_dot (acc : List (List UInt8)) : stepN acc [46] = some acc := (if_neg (by decide)).trans (if_pos (.inr rfl))
theorem step_up (acc : List (List UInt8)) : stepN acc [46, 46] = some acc.dropLast := (if_neg (by decide)).trans ((if_neg (by decide)).trans (if_pos rfl))
theorem foldN_names : ∀ (l acc : List (List UInt8)), (∀ s ∈ l, nameP s) → foldN acc l = some (acc ++ l)
  | [], acc, _ => by simp [foldN]
  | n :: l, acc, h => by
    simp only [foldN, step_name (h n (by simp)), foldN_names l _ (fun s hs => h s (by simp [hs])), List.append_assoc, List.singleton_append]
theorem plain_ne {c : UInt8} (h : plainP c) : c ≠ 47 := fun e => by
  subst e
  revert h
  decide
theorem name_no {n : List UInt8} (h : nameP n) : 47 ∉ n := fun h1 => plain_ne (h.2.2.2.2 _ h1) rfl
/-- names with strokes ahead -/
def flatR (l : List (List UInt8)) : List UInt8 := (l.map (47 :: ·)).flatten
theorem flatR_cons (n : List UInt8) (l : List (List UInt8)) : flatR (n :: l) = 47 :: (n ++ flatR l) := by simp [flatR]
theorem flatR_app (l : List (List UInt8)) (n : List UInt8) : flatR (l ++ [n]) = flatR l ++ 47 :: n := by simp [flatR]
theorem sp_flat : ∀ (l : List (List UInt8)), (∀ s ∈ l, nameP s) → sp (flatR l) = [] :: l
  | [], _ => by simp [flatR, sp]
  | n :: l, h => by
    have h1 := name_no (h n (by simp))
    rw [flatR_cons, sp, if_pos rfl]
    cases l with
    | nil => simp [flatR, sp_one h1]
    | cons m l =>
      have ih := sp_flat (m :: l) (fun s hs => h s (by simp [hs]))
      rw [flatR_cons] at ih ⊢
      rw [sp, if_pos rfl] at ih
      rw [sp_cut _ h1]
      simp only [List.cons.injEq, true_and] at ih
      rw [ih]
theorem okC_name {n : List UInt8} (h : nameP n) : ∀ c ∈ n, okC c := fun c hc => .inr (h.2.2.2.2 c hc)
theorem okC_flat : ∀ (l : List (List UInt8)), (∀ s ∈ l, nameP s) → ∀ c ∈ flatR l, okC c
  | [], _, c, hc => by simp [flatR] at hc
  | n :: l, h, c, hc => by
    rw [flatR_cons] at hc
    simp only [List.mem_cons, List.mem_append] at hc
    rcases hc with rfl | hc | hc
    · exact .inl rfl
    · exact okC_name (h n (by simp)) c hc
    · exact okC_flat l (fun s hs => h s (by simp [hs])) c hc
theorem flat_len : ∀ (l : List (List UInt8)), (∀ s ∈ l, nameP s) → (flatR l).length ≤ 17 * l.length
  | [], _ => by simp [flatR]
  | n :: l, h => by
    have h1 := (h n (by simp)).2.1
    have := flat_len l (fun s hs => h s (by simp [hs]))
    rw [flatR_cons]
    simp only [List.length_cons, List.length_append]
    omega
theorem parse_of {s : List UInt8} (h1 : s.length ≤ 256) (h2 : [47] <+: s) (h3 : ∀ c ∈ s, okC c) : parseR s = match foldN [] (sp s) with
    | none => ([], 41)
    | some l => if 8 < l.length then ([], 42) else (l, 0) :=
  (if_neg (by omega)).trans (if_neg fun h => h.elim (fun h => h h2) (fun h => h h3))
theorem check_ok {l : List (List UInt8)} (h : checkN l = 0) : (∀ s ∈ l, nameP s) ∧ l.length ≤ 8 := by
  unfold checkN at h
  split at h
  · rename_i h1
    split at h
    · cases h
    · exact ⟨h1, by omega⟩
  · cases h
theorem check_of {l : List (List UInt8)} (h : ∀ s ∈ l, nameP s) (h8 : l.length ≤ 8) : checkN l = 0 := (if_pos h).trans (if_neg (by omega))
theorem show_ne {l : List (List UInt8)} (h : l ≠ []) : showR l = flatR l := if_neg h
theorem show_parse {l : List (List UInt8)} (h : checkN l = 0) : parseR (showR l) = (l, 0) := by
  obtain ⟨h1, h2⟩ := check_ok h
  by_cases hl : l = []
  · subst hl; decide
  · rw [show_ne hl]
    have h3 := flat_len l h1
    have hp : [47] <+: flatR l := by
      obtain ⟨n, m, rfl⟩ := List.exists_cons_of_ne_nil hl
      rw [flatR_cons]
      exact ⟨_, rfl⟩
    rw [parse_of (by omega) hp (okC_flat l h1), sp_flat l h1]
    simp only [foldN, step_nil, foldN_names l [] h1, List.nil_append]
    rw [if_neg (by omega)]
/-! ### what is parsed -/
theorem step_ok {acc l : List (List UInt8)} {p : List UInt8} (hp : ∀ c ∈ p, plainP c) (ha : ∀ s ∈ acc, nameP s) (h : stepN acc p = some l) : ∀ s ∈ l, nameP s := by
  unfold stepN at h
  split at h
  · cases h
  · rename_i h1
    split at h
    · cases h; exact ha
    · rename_i h2
      split at h
      · cases h
        exact fun s hs => ha s (List.dropLast_subset _ hs)
      · rename_i h3
        cases h
        intro s hs
        rcases List.mem_append.1 hs with hs | hs
        · exact ha s hs
        · rw [List.mem_singleton.1 hs]
          refine ⟨?_, by omega, fun h => h2 (.inr h), h3, hp⟩
          have : p ≠ [] := fun h => h2 (.inl h)
          exact List.length_pos_iff.2 this
theorem fold_ok : ∀ (ps acc l : List (List UInt8)), (∀ p ∈ ps, ∀ c ∈ p, plainP c) → (∀ s ∈ acc, nameP s) → foldN acc ps = some l → ∀ s ∈ l, nameP s
  | [], acc, l, _, ha, h => by cases h; exact ha
  | p :: ps, acc, l, hp, ha, h => by
    simp only [foldN] at h
    split at h
    · cases h
    · rename_i u hu
      exact fold_ok ps u l (fun q hq => hp q (by simp [hq])) (step_ok (hp p (by simp)) ha hu) h
theorem sp_plain : ∀ (s : List UInt8), (∀ c ∈ s, okC c) → ∀ p ∈ sp s, ∀ c ∈ p, plainP c
  | [], _, p, hp, c, hc => by
    simp only [sp, List.mem_singleton] at hp
    subst hp
    simp at hc
  | x :: s, h, p, hp, c, hc => by
    have ih := sp_plain s (fun c hc => h c (by simp [hc]))
    have hx := h x (by simp)
    unfold sp at hp
    split at hp
    · rcases List.mem_cons.1 hp with rfl | hp
      · simp at hc
      · exact ih p hp c hc
    · rename_i hx2
      have hx3 : plainP x := hx.resolve_left hx2
      rcases List.mem_cons.1 hp with rfl | hp
      · rcases List.mem_cons.1 hc with rfl | hc
        · exact hx3
        · obtain ⟨a, b, e⟩ := List.exists_cons_of_ne_nil (sp_ne s)
          rw [e] at hc ih
          exact ih a (by simp) c hc
      · exact ih p (List.mem_of_mem_tail hp) c hc
theorem parse_ok {s : List UInt8} (h : (parseR s).2 = 0) : checkN (parseR s).1 = 0 := by
  unfold parseR at h ⊢
  split at h
  · cases h
  · rename_i h1
    rw [if_neg h1]
    split at h
    · cases h
    · rename_i h2
      rw [if_neg h2]
      have h3 : ∀ c ∈ s, okC c := Decidable.of_not_not fun h => h2 (.inr h)
      split at h
      · cases h
      · rename_i l hl
        split at h
        · cases h
        · rename_i h8
          rw [if_neg h8]
          exact check_of (fold_ok _ _ _ (sp_plain s h3) (by simp) hl) (show l.length ≤ 8 by omega)
theorem parse_bad {s : List UInt8} (h : (parseR s).2 ≠ 0) : (parseR s).1 = [] := by
  unfold parseR at h ⊢
  split
  · rfl
  · rename_i h1
    rw [if_neg h1] at h
    split
    · rfl
    · rename_i h2
      rw [if_neg h2] at h
      split
      · rfl
      · rename_i l hl
        rw [hl] at h
        dsimp only at h ⊢
        split
        · rfl
        · rename_i h8
          rw [if_neg h8] at h
          exact absurd rfl h
/-- the one form -/
def cleanR (s : List UInt8) : List UInt8 := if (parseR s).2 = 0 then showR (parseR s).1 else []
/-! ### wide texts -/
def dotsR (k : Nat) : List UInt8 := (List.replicate k [46, 47]).flatten
def wideR (k : Nat) (l : List (List UInt8)) : List UInt8 := (l.map fun n => 47 :: (dotsR k ++ n ++ [47])).flatten
theorem wide_cons (k : Nat) (n : List UInt8) (l : List (List UInt8)) : wideR k (n :: l) = 47 :: (dotsR k ++ n ++ 47 :: wideR k l) := by simp [wideR]
theorem dots_succ (k : Nat) : dotsR (k + 1) = 46 :: 47 :: dotsR k := by simp [dotsR, List.replicate_succ]
theorem fold_dots (n : List UInt8) (h : nameP n) : ∀ (k : Nat) (acc : List (List UInt8)), foldN acc (sp (dotsR k ++ n)) = some (acc ++ [n])
  | 0, acc => by simp [dotsR, sp_one (name_no h), foldN, step_name h]
  | k + 1, acc => by
    rw [dots_succ]
    show foldN acc (sp ([46] ++ 47 :: (dotsR k ++ n))) = _
    rw [sp_cut _ (by decide)]
    simp only [foldN, step_dot]
    exact fold_dots n h k acc
theorem fold_wide (k : Nat) : ∀ (l acc : List (List UInt8)), (∀ s ∈ l, nameP s) → foldN acc (sp (wideR k l)) = some (acc ++ l)
  | [], acc, _ => by simp [wideR, sp, foldN, step_nil]
  | n :: l, acc, h => by
    rw [wide_cons, sp, if_pos rfl, sp_app]
    simp only [foldN, step_nil]
    rw [foldN_app, fold_dots n (h n (by simp))]
    simp only [Option.bind_some]
    rw [fold_wide k l _ (fun s hs => h s (by simp [hs]))]
    simp
theorem okC_dots : ∀ (k : Nat), ∀ c ∈ dotsR k, okC c
  | 0, c, hc => by simp [dotsR] at hc
  | k + 1, c, hc => by
    rw [dots_succ] at hc
    simp only [List.mem_cons] at hc
    rcases hc with rfl | rfl | hc
    · exact .inr (by decide)
    · exact .inl rfl
    · exact okC_dots k c hc
theorem okC_wide (k : Nat) : ∀ (l : List (List UInt8)), (∀ s ∈ l, nameP s) → ∀ c ∈ wideR k l, okC c
  | [], _, c, hc => by simp [wideR] at hc
  | n :: l, h, c, hc => by
    rw [wide_cons] at hc
    simp only [List.mem_cons, List.mem_append] at hc
    rcases hc with rfl | (hc | hc) | rfl | hc
    · exact .inl rfl
    · exact okC_dots k c hc
    · exact okC_name (h n (by simp)) c hc
    · exact .inl rfl
    · exact okC_wide k l (fun s hs => h s (by simp [hs])) c hc
theorem wide_parse {k : Nat} {l : List (List UInt8)} (h : checkN l = 0) (hl : l ≠ []) (hw : (wideR k l).length ≤ 256) : parseR (wideR k l) = (l, 0) := by
  obtain ⟨h1, h2⟩ := check_ok h
  have hp : [47] <+: wideR k l := by
    obtain ⟨n, m, rfl⟩ := List.exists_cons_of_ne_nil hl
    rw [wide_cons]
    exact ⟨_, rfl⟩
  rw [parse_of hw hp (okC_wide k l h1), fold_wide k l [] h1]
  simp only [List.nil_append]
  rw [if_neg (by omega)]
/-! ### below -/
theorem below_parse {l : List (List UInt8)} {n : List UInt8} (h : checkN l = 0) (hn : nameP n) (hw : (flatR (l ++ [n])).length ≤ 256) : parseR (flatR (l ++ [n])) = if l.length = 8 then ([], 42) else (l ++ [n], 0) := by
  obtain ⟨h1, h2⟩ := check_ok h
  have h3 : ∀ s ∈ l ++ [n], nameP s := fun s hs => by
    rcases List.mem_append.1 hs with hs | hs
    · exact h1 s hs
    · rw [List.mem_singleton.1 hs]; exact hn
  have hp : [47] <+: flatR (l ++ [n]) := by
    cases l with
    | nil => exact ⟨n, by simp [flatR]⟩
    | cons a l => rw [List.cons_append, flatR_cons]; exact ⟨_, rfl⟩
  rw [parse_of hw hp (okC_flat _ h3), sp_flat _ h3]
  simp only [foldN, step_nil, foldN_names _ [] h3, List.nil_append, List.length_append, List.length_cons, List.length_nil]
  by_cases h8 : l.length = 8
  · rw [if_pos h8, if_pos (by omega)]
  · rw [if_neg h8, if_neg (by omega)]
theorem up_parse {l : List (List UInt8)} {n : List UInt8} (h : checkN l = 0) (hn : nameP n) (hw : (flatR (l ++ [n]) ++ [47, 46, 46]).length ≤ 256) : parseR (flatR (l ++ [n]) ++ [47, 46, 46]) = (l, 0) := by
  obtain ⟨h1, h2⟩ := check_ok h
  have h3 : ∀ s ∈ l ++ [n], nameP s := fun s hs => by
    rcases List.mem_append.1 hs with hs | hs
    · exact h1 s hs
    · rw [List.mem_singleton.1 hs]; exact hn
  have hp : [47] <+: flatR (l ++ [n]) ++ [47, 46, 46] := by
    cases l with
    | nil => exact ⟨n ++ [47, 46, 46], by simp [flatR]⟩
    | cons a l => rw [List.cons_append, flatR_cons]; exact ⟨_, rfl⟩
  have ho : ∀ c ∈ flatR (l ++ [n]) ++ [47, 46, 46], okC c := fun c hc => by
    rcases List.mem_append.1 hc with hc | hc
    · exact okC_flat _ h3 c hc
    · simp only [List.mem_cons, List.not_mem_nil, or_false] at hc
      rcases hc with rfl | rfl | rfl
      · exact .inl rfl
      · exact .inr (by decide)
      · exact .inr (by decide)
  rw [parse_of hw hp ho, sp_app, sp_flat _ h3, foldN_app]
  simp only [foldN, step_nil, foldN_names _ [] h3, List.nil_append, Option.bind_some]
  rw [show sp [46, 46] = [[46, 46]] from by decide]
  simp only [foldN, step_up, List.dropLast_concat]
  rw [if_neg (by omega)]
/-! ### order -/
theorem cmp_refl : ∀ (l : List (List UInt8)), cmpL l l = 0
  | [] => rfl
  | a :: l => by rw [cmpL, if_neg (List.lt_irrefl a), if_pos rfl, cmp_refl l]
theorem cmp_range : ∀ (l m : List (List UInt8)), cmpL l m = -1 ∨ cmpL l m = 0 ∨ cmpL l m = 1
  | [], [] => .inr (.inl rfl)
  | [], _ :: _ => .inl rfl
  | _ :: _, [] => .inr (.inr rfl)
  | a :: l, b :: m => by
    rw [cmpL]
    split
    · exact .inl rfl
    · split
      · exact cmp_range l m
      · exact .inr (.inr rfl)
theorem cmp_eq : ∀ {l m : List (List UInt8)}, cmpL l m = 0 → l = m
  | [], [], _ => rfl
  | [], _ :: _, h => by cases h
  | _ :: _, [], h => by cases h
  | a :: l, b :: m, h => by
    rw [cmpL] at h
    split at h
    · cases h
    · split at h
      · rename_i h1
        rw [h1, cmp_eq h]
      · cases h
theorem lt_tri {a b : List UInt8} (h : ¬ a < b) (h2 : a ≠ b) : b < a := by
  exact Decidable.of_not_not fun h3 => h2 (List.le_antisymm (List.not_lt.1 h3) (List.not_lt.1 h))
theorem cmp_anti : ∀ (l m : List (List UInt8)), cmpL m l = 0 - cmpL l m
  | [], [] => rfl
  | [], _ :: _ => rfl
  | _ :: _, [] => rfl
  | a :: l, b :: m => by
    rw [cmpL, cmpL]
    by_cases h1 : a < b
    · rw [if_pos h1, if_neg (List.lt_asymm h1), if_neg (fun e => by rw [e] at h1; exact List.lt_irrefl _ h1)]; rfl
    · by_cases h2 : a = b
      · subst h2
        rw [if_neg h1, if_pos rfl, if_neg h1, if_pos rfl, cmp_anti l m]
      · rw [if_neg h1, if_neg h2, if_pos (lt_tri h1 h2)]; rfl
theorem cmp_trans : ∀ (l m n : List (List UInt8)), cmpL l m ≤ 0 → cmpL m n ≤ 0 → cmpL l n ≤ 0
  | [], _, [], _, _ => by decide
  | [], _, _ :: _, _, _ => by simp [cmpL]
  | _ :: _, [], _, h, _ => by simp [cmpL] at h
  | _ :: _, _ :: _, [], _, h => by simp [cmpL] at h
  | a :: l, b :: m, c :: n, h1, h2 => by
    rw [cmpL] at h1 h2 ⊢
    by_cases hab : a < b
    · by_cases hbc : b < c
      · rw [if_pos (List.lt_trans hab hbc)]; decide
      · rw [if_neg hbc] at h2
        by_cases e : b = c
        · rw [← e, if_pos hab]; decide
        · rw [if_neg e] at h2; exact absurd h2 (by decide)
    · rw [if_neg hab] at h1
      by_cases e : a = b
      · subst e
        rw [if_pos rfl] at h1
        by_cases hbc : a < c
        · rw [if_pos hbc]; decide
        · rw [if_neg hbc] at h2 ⊢
          by_cases e : a = c
          · rw [if_pos e] at h2 ⊢
            exact cmp_trans l m n h1 h2
          · rw [if_neg e] at h2; exact absurd h2 (by decide)
      · rw [if_neg e] at h1; exact absurd h1 (by decide)
theorem cmp_prefix : ∀ {l m : List (List UInt8)}, m <+: l → 0 ≤ cmpL l m
  | [], [], _ => by decide
  | [], b :: m, h => by
    obtain ⟨t, h⟩ := h
    cases h
  | _ :: _, [], _ => by simp [cmpL]
  | a :: l, b :: m, h => by
    obtain ⟨rfl, h'⟩ := List.cons_prefix_cons.1 h
    rw [cmpL, if_neg (List.lt_irrefl _), if_pos rfl]
    exact cmp_prefix h'
theorem cmp_below (l : List (List UInt8)) (n : List UInt8) : cmpL l (l ++ [n]) = -1 := by
  induction l with
  | nil => rfl
  | cons a l ih => rw [List.cons_append, cmpL, if_neg (List.lt_irrefl _), if_pos rfl, ih]
/-! ### joined -/
theorem join_show (l : List (List UInt8)) : 47 :: Lib.join l [47] = showR l := by
  unfold showR
  split
  · rename_i h; subst h; rfl
  · rename_i h
    obtain ⟨n, m, rfl⟩ := List.exists_cons_of_ne_nil h
    rw [Lib.join_cons, Lib.joinTail]
    simp only [List.map_cons, List.flatten_cons, List.cons_append, List.nil_append]
end VK
