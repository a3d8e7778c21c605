/- Lists of texts: whether they are alike, a path's, within one another, which comes first; the code's and the reference's answers. Conditions: texts and lists of a machine's size. -/
import Derived.Test.YtmjmlmjcfekphaaVp
namespace VK
open Go Go.Proofs
set_option linter.unusedSimpArgs false
set_option linter.unusedVariables false
set_option maxRecDepth 100000
set_option maxHeartbeats 40000000
instance : Inhabited (List UInt8) := ⟨[]⟩
theorem take_all {P : List UInt8 → Prop} {l : List (List UInt8)} {i : Nat} (h : i < l.length) (h1 : ∀ c ∈ l.take i, P c) (h2 : P (l.getD i default)) : ∀ c ∈ l.take (i + 1), P c := fun c hc => by
  rw [List.take_succ_eq_append_getElem h] at hc
  rcases List.mem_append.1 hc with hc | hc
  · exact h1 c hc
  · rw [List.mem_singleton.1 hc]
    simpa [List.getD_eq_getElem?_getD, h] using h2
/-- a slice's copy -/
theorem SClone_c (L : List Atom) (va : Value) (la : List (List UInt8)) [ra : Rd L va (mrow str 9 la)] (hl : la.length ≤ 1048576) :
    Fn Try.prog 24 [va] L fun w L' => L' = sl w (mrow str 9 la) :: L := by
  refine fn_intro Try.func24 rfl Try.ntmps24 rfl (fun W0 => ?_)
  simp only [argE]
  refine r_seq ?_
  refine r_region (id := 0) ?_
  refine o_give (g_assign (evv rfl)) rfl rfl ?_
  refine o_nil ?_
  refine c_code ?_
  refine r_seq ?_
  refine r_seq ?_
  refine r_region (id := 1) ?_
  refine o_give (g_move (evv rfl)) rfl rfl ?_
  refine o_give (g_snil (evv rfl) (evv rfl) (by rfl)) rfl rfl ?_
  refine o_nil ?_
  refine c_code ?_
  refine r_cond rfl (fun h0 => ?_) (fun h0 => ?_) <;> (try simp only [decide_eq_true_eq, decide_eq_false_iff_not, Bool.and_eq_true, Bool.or_eq_true, Bool.not_eq_true', Bool.and_eq_false_iff, Bool.or_eq_false_iff, Bool.not_eq_false', Bool.not_eq_true, Bool.not_eq_false, Bool.true_eq_false, Bool.false_eq_true, Int.not_lt, Int.not_le, not_and, not_or, ne_eq] at h0)
  · refine r_isnil ra h0 fun e => ?_
    subst e
    refine r_seq ?_
    refine r_region (id := 2) ?_
    refine o_give (g_assign (evv rfl)) rfl rfl ?_
    refine o_nil ?_
    refine c_code ?_
    first | refine r_ret (rs := [.tmp 2]) rfl rfl _ ((Ent.nilM str 9)) ?_ | refine c_end (rs := [.tmp 2]) rfl rfl _ ((Ent.nilM str 9)) ?_
    rfl
  · refine r_skip ?_
    refine c_code ?_
    refine r_seq ?_
    refine r_region (id := 3) ?_
    refine o_lit0 str (by rfl) rfl (fun _ => ?_)
    refine o_give (g_move (evv rfl)) rfl rfl ?_
    refine o_appM (evv rfl) (evv rfl) (by rfl) (by rfl) (by rfl) (by (try simp only [bsOf, List.length_append, List.length_cons, List.length_nil, List.length_take, List.length_drop, List.length_map, List.length_range]); omega) rfl (fun _ => ?_)
    refine o_give (g_assign (evv rfl)) rfl rfl ?_
    refine o_nil ?_
    refine c_code ?_
    first | refine r_ret (rs := [.tmp 2]) rfl rfl _ (Ent.refl _) ?_ | refine c_end (rs := [.tmp 2]) rfl rfl _ (Ent.refl _) ?_
    rfl
/-- which text comes first -/
def cmpS (x y : List UInt8) : Int := if x < y then -1 else if x = y then 0 else 1
def cmpL : List (List UInt8) → List (List UInt8) → Int
  | [], [] => 0
  | [], _ :: _ => -1
  | _ :: _, [] => 1
  | a :: l, b :: m => if a < b then -1 else if a = b then cmpL l m else 1
theorem less_lt (x y : List UInt8) : Op.bytesLess x y = decide (x < y) := by
  induction x generalizing y with
  | nil => cases y <;> simp [Op.bytesLess]
  | cons a x ih =>
    cases y with
    | nil => simp [Op.bytesLess]
    | cons b y =>
      unfold Op.bytesLess
      rw [ih, Bool.eq_iff_iff]
      simp [List.cons_lt_cons_iff]
theorem gt_ge {x y : List UInt8} (h : ¬ x < y) : (!(Op.bytesLess x y || decide (x = y))) = !decide (x = y) := by rw [less_lt, decide_eq_false h]; rfl
theorem cmpL_drop {la lb : List (List UInt8)} : ∀ {i : Nat} (h1 : i < la.length) (h2 : i < lb.length), cmpL (la.drop i) (lb.drop i) = if la[i] < lb[i] then -1 else if la[i] = lb[i] then cmpL (la.drop (i + 1)) (lb.drop (i + 1)) else 1 := fun h1 h2 => by
  rw [List.drop_eq_getElem_cons h1, List.drop_eq_getElem_cons h2, cmpL]
theorem cmp_step (x y : List UInt8) (r : Int) : (if x < y then -1 else if x = y then r else 1) = if cmpS x y = 0 then r else cmpS x y := by
  unfold cmpS
  by_cases h : x < y
  · simp [h]
  · by_cases h2 : x = y
    · simp [h2, List.lt_irrefl]
    · simp [h, h2]
/-- a path's text -/
def showR (l : List (List UInt8)) : List UInt8 := if l = [] then [47] else (l.map (47 :: ·)).flatten
theorem flat_step {l : List (List UInt8)} {i : Nat} (h : i < l.length) : ((l.take (i + 1)).map (47 :: ·)).flatten = ((l.take i).map (47 :: ·)).flatten ++ [47] ++ l.getD i default := by
  have e : l.getD i default = l[i] := by simp [List.getD_eq_getElem?_getD, h]
  rw [List.take_succ_eq_append_getElem h, e]
  simp only [List.map_append, List.flatten_append, List.map_cons, List.map_nil, List.flatten_cons, List.flatten_nil, List.append_nil, List.append_assoc, List.cons_append, List.nil_append]
def bulkR (l : List (List UInt8)) : Nat := ((l.map (47 :: ·)).flatten).length
theorem flat_le (l : List (List UInt8)) (i : Nat) : ((l.take i).map (47 :: ·)).flatten.length ≤ bulkR l := by
  unfold bulkR
  conv => rhs; rw [← List.take_append_drop i l]
  rw [List.map_append, List.flatten_append, List.length_append]
  omega
end VK
