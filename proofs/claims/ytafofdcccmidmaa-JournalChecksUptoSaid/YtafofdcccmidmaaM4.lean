/- What the proof rests on, part 4 of 4: the walker's lemmas, the walks of the functions and the plain laws. Conditions: none. -/
import Derived.Test.YtafofdcccmidmaaM3
namespace VK
open Go Go.Proofs
set_option linter.unusedSimpArgs false
set_option linter.unusedVariables false
set_option maxRecDepth 100000
set_option maxHeartbeats 40000000
theorem View_c (F : List Atom) (j p : Nat) (x : Pt) (k : KeptS) (v : Int) (hx : x.ok) (hk : k.ok) (hf : k.fine) (hs : sizeP x + 262152 ≤ 1000000000) :
    Fn Try.prog 20 [.pointer (some ⟨j, 0, none⟩), .int .i64 v] (jr j (p, k) :: pt p x :: F) fun w L' => w = .int .i64 (viewT x k v).1 ∧ L' = jr j (p, (viewT x k v).2.2) :: pt p (viewT x k v).2.1 :: F := by
  have hpl := payV_len (v := (v % 18446744073709551616).toNat) (by omega)
  have hpl2 : (payV (v % 18446744073709551616).toNat).length ≤ 262144 := by omega
  have n1 := num_le 1 (by omega)
  have n2 := num_le (v % 18446744073709551616).toNat (by omega)
  refine fn_intro Try.func20 rfl Try.ntmps20 rfl (fun W0 => ?_)
  simp only [argE]
  refine r_seq ?_
  refine r_region (id := 0) ?_
  refine o_give (g_assign (evv rfl)) rfl rfl ?_
  refine o_nil ?_
  refine c_code ?_
  refine r_seq ?_
  refine r_region (id := 1) ?_
  refine o_alloc rfl rfl (fun _ => ?_)
  refine o_nil ?_
  refine c_code ?_
  refine r_seq ?_
  rename_i o
  refine r_ent _ (newOutA o) ?_
  refine r_region (id := 2) ?_
  (refine o_call rfl _ (Ent.refl _) (Num_l _ (by omega) (by (try simp only [bsOf, List.length_append, List.length_cons, List.length_nil]); omega)) rfl ?_; rintro _ _ ⟨rfl, rfl⟩; (try simp only [Int.toNat_natCast]))
  refine o_nil ?_
  refine c_code ?_
  refine r_seq ?_
  rw [show Int.toNat 1 = 1 from rfl, List.nil_append]
  refine r_region (id := 3) ?_
  refine o_give (g_move (evv rfl)) rfl rfl ?_
  refine o_giveU (g_conv TyU.h TyU.h (evv rfl)) (by rfl) rfl ?_
  (refine o_call rfl _ (Ent.refl _) (Num_l _ (by omega) (by (try simp only [bsOf, List.length_append, List.length_cons, List.length_nil]); omega)) rfl ?_; rintro _ _ ⟨rfl, rfl⟩; (try simp only [Int.toNat_natCast]))
  refine o_nil ?_
  refine c_code ?_
  refine r_seq ?_
  rw [show num 1 ++ num (v % 18446744073709551616).toNat = payV (v % 18446744073709551616).toNat from rfl]
  refine r_region (id := 4) ?_
  refine o_give (g_move (evv rfl)) rfl rfl ?_
  (refine o_call rfl _ (pick3 (K1 := jr _) (K2 := pt _) (K3 := outA _)) (write_c _ _ _ _ _ _ _ (by assumption) (by assumption) (by assumption) (by first | assumption | omega) (by first | assumption | omega)) rfl ?_; rintro _ _ ⟨rfl, rfl⟩)
  refine o_give (g_assign (evv rfl)) rfl rfl ?_
  refine o_nil ?_
  refine c_code ?_
  first | refine r_ret (rs := [.tmp 4]) rfl rfl _ (Ent.refl _) ?_ | refine c_end (rs := [.tmp 4]) rfl rfl _ (Ent.refl _) ?_
  exact ⟨rfl, rfl⟩
theorem Entry_c (F : List Atom) (j p : Nat) (x : Pt) (k : KeptS) (e : EntS) (hx : x.ok) (hk : k.ok) (hf : k.fine) (he : e.ok) (hs : sizeP x + 262152 ≤ 1000000000) :
    Fn Try.prog 21 [.pointer (some ⟨j, 0, none⟩), agg (entC e)] (jr j (p, k) :: pt p x :: F) fun w L' => w = .int .i64 (entT x k e).1 ∧ L' = jr j (p, (entT x k e).2.2) :: pt p (entT x k e).2.1 :: F := by
  have hpl := payE_len he
  have hpl2 : (payE e).length ≤ 262144 := by omega
  have n2 := num_le 2 (by omega)
  have hfe : ∀ x ∈ [e], x.ok := fun x hx => by rw [List.mem_singleton.1 hx]; exact he
  refine fn_intro Try.func21 rfl Try.ntmps21 rfl (fun W0 => ?_)
  simp only [argE]
  refine r_seq ?_
  refine r_region (id := 0) ?_
  refine o_boxA (evv rfl) rfl (fun _ => ?_)
  refine o_give (g_assign (evv rfl)) rfl rfl ?_
  refine o_nil ?_
  refine c_code ?_
  refine r_seq ?_
  refine r_seq ?_
  refine r_region (id := 1) ?_
  refine o_give (g_move (evv rfl)) rfl rfl ?_
  refine o_give (g_pnil TyU.h (evv rfl) (evv rfl) (by simp) (by rfl)) rfl rfl ?_
  refine o_give (g_move (evv rfl)) rfl rfl ?_
  refine o_gyes rfl ?_
  refine o_give (g_loadF (evv rfl) (by rfl) (by rfl)) rfl rfl ?_
  refine o_gyes rfl ?_
  refine o_litS rfl (by rfl) inferInstance (by rfl) rfl (fun _ => ?_)
  rename_i q1 v1
  refine o_gyes rfl ?_
  refine o_call rfl _ (Ent.refl _) (right_c _ _ _ [e] [] (rn := Rd.nilM i64v _) hfe (by simp)) rfl ?_
  rintro _ _ ⟨rfl, hLz⟩
  obtain rfl := hLz.symm
  clear hLz
  by_cases hlo : longOp e.op
  · have hd : decide ((∀ n ∈ ([] : List Int), 0 ≤ n) ∧ [e].length ≤ 32 ∧ ∀ x ∈ [e], ¬ longOp x.op) = false := decide_eq_false (fun h => h.2.2 e (by simp) hlo)
    have hT : entT x k e = (1, x, k) := if_pos hlo
    rw [hd, hT]
    refine o_gyes rfl ?_
    refine o_give (g_not (evv rfl)) rfl rfl ?_
    refine o_give (g_pick (b := true) (evv rfl) (fun _ => (evv rfl)) (fun h => by cases h)) rfl rfl ?_
    refine o_nil ?_
    refine c_code ?_
    refine r_cond_true rfl ?_
    refine r_seq ?_
    refine r_region (id := 2) ?_
    refine o_give (g_assign (evv rfl)) rfl rfl ?_
    refine o_nil ?_
    refine c_code ?_
    first | refine r_ret (rs := [.tmp 4]) rfl rfl _ (Lay.ent (L' := jr j (p, k) :: pt p x :: F)) ?_ | refine c_end (rs := [.tmp 4]) rfl rfl _ (Lay.ent (L' := jr j (p, k) :: pt p x :: F)) ?_
    exact ⟨rfl, rfl⟩
  · have hd : decide ((∀ n ∈ ([] : List Int), 0 ≤ n) ∧ [e].length ≤ 32 ∧ ∀ x ∈ [e], ¬ longOp x.op) = true := decide_eq_true ⟨by simp, by simp, fun x hx => by rw [List.mem_singleton.1 hx]; exact hlo⟩
    have hT : entT x k e = writeT x k (payE e) := if_neg hlo
    rw [hd, hT]
    refine o_gyes rfl ?_
    refine o_give (g_not (evv rfl)) rfl rfl ?_
    refine o_give (g_pick (b := true) (evv rfl) (fun _ => (evv rfl)) (fun h => by cases h)) rfl rfl ?_
    refine o_nil ?_
    refine c_code ?_
    refine r_cond_false rfl ?_
    refine r_skip ?_
    refine c_code ?_
    refine r_seq ?_
    refine r_region (id := 3) ?_
    refine o_alloc rfl rfl (fun _ => ?_)
    refine o_nil ?_
    refine c_code ?_
    refine r_seq ?_
    rename_i o
    refine r_ent _ (newOutA o) ?_
    refine r_region (id := 4) ?_
    (refine o_call rfl _ (Ent.refl _) (Num_l _ (by omega) (by (try simp only [bsOf, List.length_append, List.length_cons, List.length_nil]); omega)) rfl ?_; rintro _ _ ⟨rfl, rfl⟩; (try simp only [Int.toNat_natCast]))
    refine o_nil ?_
    refine c_code ?_
    refine r_seq ?_
    rw [show Int.toNat 2 = 2 from rfl, List.nil_append]
    refine r_region (id := 5) ?_
    refine o_give (g_loadF (evv rfl) (by rfl) (by rfl)) rfl rfl ?_
    refine o_litS rfl (by rfl) inferInstance (by rfl) rfl (fun _ => ?_)
    (refine o_call rfl _ (PickR.ent (K := outA _)) (putEntries_c _ _ _ _ _ (by assumption) (by first | assumption | omega | (simp; done)) (by first | assumption | omega | (simp only [List.length_append, List.length_cons, List.length_nil]; omega))) rfl ?_; rintro _ _ ⟨rfl, rfl⟩)
    refine o_nil ?_
    refine c_code ?_
    refine r_seq ?_
    rw [show num 2 ++ entsB [⟨e.client, e.number, ⟨e.op.kind, e.op.path, e.op.to_, e.op.data, e.op.at_, e.op.size⟩⟩] = payE e by simp [payE, entsB]]
    refine r_region (id := 6) ?_
    refine o_give (g_move (evv rfl)) rfl rfl ?_
    (refine o_call rfl _ (pick3 (K1 := jr _) (K2 := pt _) (K3 := outA _)) (write_c _ _ _ _ _ _ _ (by assumption) (by assumption) (by assumption) (by first | assumption | omega) (by first | assumption | omega)) rfl ?_; rintro _ _ ⟨rfl, rfl⟩)
    refine o_give (g_assign (evv rfl)) rfl rfl ?_
    refine o_nil ?_
    refine c_code ?_
    first | refine r_ret (rs := [.tmp 4]) rfl rfl _ (Lay.ent (L' := jr j (p, writeT x k (payE e) |>.2.2) :: pt p (writeT x k (payE e)).2.1 :: F)) ?_ | refine c_end (rs := [.tmp 4]) rfl rfl _ (Lay.ent (L' := jr j (p, writeT x k (payE e) |>.2.2) :: pt p (writeT x k (payE e)).2.1 :: F)) ?_
    exact ⟨rfl, rfl⟩
theorem Adopt_c (F : List Atom) (j p : Nat) (x : Pt) (k : KeptS) (v f : Int) (ve : Value) (es : List EntS) [rd : Rd F ve (entR es)] (hx : x.ok) (hk : k.ok) (hf : k.fine) (he : ∀ e ∈ es, e.ok) (hl : es.length ≤ 1048576) (hs : sizeP x + 262152 ≤ 1000000000) (hv : inR .i64 v) (hff : inR .i64 f) :
    Fn Try.prog 22 [.pointer (some ⟨j, 0, none⟩), .int .i64 v, .int .i64 f, ve] (jr j (p, k) :: pt p x :: F) fun w L' => w = .int .i64 (adoT x k v f es).1 ∧ L' = jr j (p, (adoT x k v f es).2.2) :: pt p (adoT x k v f es).2.1 :: F := by
  haveI rd' : ∀ A B, Rd (A :: B :: F) ve (entR es) := fun A B => (rd.ent Ent.drop).ent Ent.drop
  refine fn_intro Try.func22 rfl Try.ntmps22 rfl (fun W0 => ?_)
  simp only [argE]
  refine r_seq ?_
  refine r_region (id := 0) ?_
  refine o_give (g_assign (evv rfl)) rfl rfl ?_
  refine o_nil ?_
  refine c_code ?_
  refine r_seq ?_
  refine r_seq ?_
  refine r_region (id := 1) ?_
  refine o_give (g_move (evv rfl)) rfl rfl ?_
  refine o_give (g_pnil TyU.h (evv rfl) (evv rfl) (by simp) (by rfl)) rfl rfl ?_
  refine o_give (g_move (evv rfl)) rfl rfl ?_
  refine o_gyes rfl ?_
  refine o_give (g_move (evv rfl)) rfl rfl ?_
  refine o_gyes rfl ?_
  refine o_give (g_move (evv rfl)) rfl rfl ?_
  refine o_gyes rfl ?_
  refine o_give (g_move (evv rfl)) rfl rfl ?_
  refine o_gyes rfl ?_
  refine o_litIs rfl rfl (by rfl) (by rfl) (by rfl) rfl rfl (fun _ => ?_)
  refine o_gyes rfl ?_
  (refine o_call rfl _ (Ent.refl _) (right_c _ _ _ _ _ (by assumption) (by first | assumption | omega)) rfl ?_; rintro _ _ ⟨rfl, hLz⟩; obtain rfl := hLz.symm; clear hLz)
  refine o_gyes rfl ?_
  refine o_give (g_not (evv rfl)) rfl rfl ?_
  refine o_give (g_pick (b := true) (evv rfl) (fun _ => (evv rfl)) (fun h => by cases h)) rfl rfl ?_
  refine o_nil ?_
  refine c_code ?_
  simp only [Option.isNone_some, Option.isNone_none, Bool.false_and, Bool.not_false]
  skip
  have hints : intsOf [.int .i64 v, .int .i64 f] = [v, f] := rfl
  rw [hints]
  by_cases hc : 0 ≤ v ∧ 0 ≤ f ∧ es.length ≤ 32 ∧ ∀ e ∈ es, ¬ longOp e.op
  · have hd : decide ((∀ n ∈ [v, f], 0 ≤ n) ∧ es.length ≤ 32 ∧ ∀ e ∈ es, ¬ longOp e.op) = true := decide_eq_true ⟨fun n hn => by simp at hn; omega, hc.2.2⟩
    have hT : adoT x k v f es = writeT x k (payA v.toNat f.toNat es) := if_pos hc
    rw [hd, hT]
    obtain ⟨h0, h1, h2, h3⟩ := hc
    have hv64 : v.toNat ≤ 18446744073709551615 := by simp only [inR] at hv; omega
    have hf64 : f.toNat ≤ 18446744073709551615 := by simp only [inR] at hff; omega
    have hpl := payA_len hv64 hf64 he h2
    have hpl2 : (payA v.toNat f.toNat es).length ≤ 262144 := by omega
    have m1 := num_le 3 (by omega)
    have m2 := num_le v.toNat hv64
    have m3 := num_le f.toNat hf64
    have m4 := num_le es.length (by omega)
    refine r_cond_false rfl ?_
    refine r_skip ?_
    refine c_code ?_
    refine r_seq ?_
    refine r_region (id := 3) ?_
    refine o_alloc rfl rfl (fun _ => ?_)
    refine o_nil ?_
    refine c_code ?_
    refine r_seq ?_
    rename_i o
    refine r_ent _ (newOutA o) ?_
    refine r_region (id := 4) ?_
    (refine o_call rfl _ (Ent.refl _) (Num_l _ (by omega) (by (try simp only [bsOf, List.length_append, List.length_cons, List.length_nil]); omega)) rfl ?_; rintro _ _ ⟨rfl, rfl⟩; (try simp only [Int.toNat_natCast]))
    refine o_nil ?_
    refine c_code ?_
    refine r_seq ?_
    rw [show Int.toNat 3 = 3 from rfl, List.nil_append]
    refine r_region (id := 5) ?_
    refine o_give (g_move (evv rfl)) rfl rfl ?_
    refine o_giveN (g_conv TyU.h TyU.h (evv rfl)) (by simp only [inR]; omega) rfl ?_
    (refine o_call rfl _ (Ent.refl _) (Num_l _ (by omega) (by (try simp only [bsOf, List.length_append, List.length_cons, List.length_nil]); omega)) rfl ?_; rintro _ _ ⟨rfl, rfl⟩; (try simp only [Int.toNat_natCast]))
    refine o_nil ?_
    refine c_code ?_
    refine r_seq ?_
    refine r_region (id := 6) ?_
    refine o_give (g_move (evv rfl)) rfl rfl ?_
    refine o_giveN (g_conv TyU.h TyU.h (evv rfl)) (by simp only [inR]; omega) rfl ?_
    (refine o_call rfl _ (Ent.refl _) (Num_l _ (by omega) (by (try simp only [bsOf, List.length_append, List.length_cons, List.length_nil]); omega)) rfl ?_; rintro _ _ ⟨rfl, rfl⟩; (try simp only [Int.toNat_natCast]))
    refine o_nil ?_
    refine c_code ?_
    refine r_seq ?_
    refine r_region (id := 7) ?_
    refine o_give (g_move (evv rfl)) rfl rfl ?_
    refine o_give (g_lenF (evv rfl)) rfl rfl ?_
    refine o_giveN (g_conv TyU.h TyU.h (evv rfl)) (by simp only [inR]; omega) rfl ?_
    (refine o_call rfl _ (Ent.refl _) (Num_l _ (by omega) (by (try simp only [bsOf, List.length_append, List.length_cons, List.length_nil]); omega)) rfl ?_; rintro _ _ ⟨rfl, rfl⟩; (try simp only [Int.toNat_natCast]))
    refine o_nil ?_
    refine c_code ?_
    refine r_seq ?_
    refine r_region (id := 8) ?_
    refine o_give (g_move (evv rfl)) rfl rfl ?_
    (refine o_call rfl _ (PickR.ent (K := outA _)) (putEntries_c _ _ _ _ _ (by assumption) (by first | assumption | omega | (simp; done)) (by first | assumption | omega | (simp only [List.length_append, List.length_cons, List.length_nil]; omega))) rfl ?_; rintro _ _ ⟨rfl, rfl⟩)
    refine o_nil ?_
    refine c_code ?_
    refine r_seq ?_
    rw [show num 3 ++ num v.toNat ++ num f.toNat ++ num es.length ++ entsB es = payA v.toNat f.toNat es from rfl]
    refine r_region (id := 9) ?_
    refine o_give (g_move (evv rfl)) rfl rfl ?_
    (refine o_call rfl _ (pick3 (K1 := jr _) (K2 := pt _) (K3 := outA _)) (write_c _ _ _ _ _ _ _ (by assumption) (by assumption) (by assumption) (by first | assumption | omega) (by first | assumption | omega)) rfl ?_; rintro _ _ ⟨rfl, rfl⟩)
    refine o_give (g_assign (evv rfl)) rfl rfl ?_
    refine o_nil ?_
    refine c_code ?_
    first | refine r_ret (rs := [.tmp 8]) rfl rfl _ (Lay.ent (L' := jr j (p, (writeT x k (payA v.toNat f.toNat es)).2.2) :: pt p (writeT x k (payA v.toNat f.toNat es)).2.1 :: F)) ?_ | refine c_end (rs := [.tmp 8]) rfl rfl _ (Lay.ent (L' := jr j (p, (writeT x k (payA v.toNat f.toNat es)).2.2) :: pt p (writeT x k (payA v.toNat f.toNat es)).2.1 :: F)) ?_
    exact ⟨rfl, rfl⟩
  · have hd : decide ((∀ n ∈ [v, f], 0 ≤ n) ∧ es.length ≤ 32 ∧ ∀ e ∈ es, ¬ longOp e.op) = false := decide_eq_false (fun h => hc ⟨h.1 v (by simp), h.1 f (by simp), h.2⟩)
    have hT : adoT x k v f es = (1, x, k) := if_neg hc
    rw [hd, hT]
    refine r_cond_true rfl ?_
    refine r_seq ?_
    refine r_region (id := 2) ?_
    refine o_give (g_assign (evv rfl)) rfl rfl ?_
    refine o_nil ?_
    refine c_code ?_
    first | refine r_ret (rs := [.tmp 8]) rfl rfl _ (Lay.ent (L' := jr j (p, k) :: pt p x :: F)) ?_ | refine c_end (rs := [.tmp 8]) rfl rfl _ (Lay.ent (L' := jr j (p, k) :: pt p x :: F)) ?_
    exact ⟨rfl, rfl⟩
theorem Kept_c (F : List Atom) (j p : Nat) (k : KeptS) (hk : k.ok) : Fn Try.prog 14 [.pointer (some ⟨j, 0, none⟩)] (jr j (p, k) :: F) fun w L' => ∃ ve, w = agg (kC k.view k.normal k.base k.state ve) ∧ L' = sl ve (entR k.ents) :: jr j (p, k) :: F := by
  refine Fn.exA fun ve => ?_
  obtain ⟨view, normal, base, state, es⟩ := k
  have hl : es.length ≤ 1048576 := by have := hk.2.2.2.2.2.2.2.2.2.1; dsimp only at this; omega
  dsimp only [jrX, List.cons_append, List.nil_append]
  refine fn_intro Try.func14 rfl Try.ntmps14 rfl (fun W0 => ?_)
  simp only [argE]
  refine r_seq ?_
  refine r_region (id := 0) ?_
  refine o_alloc rfl rfl (fun _ => ?_)
  refine o_nil ?_
  refine c_code ?_
  refine r_seq ?_
  refine r_seq ?_
  refine r_region (id := 1) ?_
  refine o_give (g_move (evv rfl)) rfl rfl ?_
  refine o_give (g_pnil TyU.h (evv rfl) (evv rfl) (by simp) (by rfl)) rfl rfl ?_
  refine o_nil ?_
  refine c_code ?_
  refine r_cond_false rfl ?_
  refine r_skip ?_
  refine c_code ?_
  refine r_seq ?_
  refine r_region (id := 3) ?_
  refine o_give (g_move (evv rfl)) rfl rfl ?_
  refine o_give (g_nil (evv rfl)) rfl rfl ?_
  refine o_give (g_fld (evv rfl)) rfl rfl ?_
  refine o_give (g_loadF (evv rfl) (by rfl) (by rfl)) rfl rfl ?_
  refine o_alloc rfl rfl (fun _ => ?_)
  refine o_storeW (evv rfl) (evv rfl) (by first | rfl | assumption | exact LenC.h _ | (simp [bys, *]; done) | fail) (by first | (intro _ _ _; exact bys_one _) | exact AllOne.h | (intro _ _ _ u hu; simp at hu; rcases hu with rfl | rfl | rfl | rfl | rfl | rfl | rfl | rfl <;> rfl) | fail) (by first | rfl | exact (LenC.h _).trans rfl | exact (LenC.h _).trans (LenC.h _).symm | (simp [bys, *]; done) | (simp only [bys, List.length_map, *]; rfl) | fail) ?_
  refine o_nil ?_
  refine c_code ?_
  refine r_seq ?_
  refine r_region (id := 4) ?_
  refine o_give (g_fld (evv rfl)) rfl rfl ?_
  refine o_give (g_load (evv rfl) (by rfl) (by rfl)) rfl rfl ?_
  (refine o_call rfl _ (Ent.refl _) (CoE_c _ _ _ (by first | assumption | omega | (simp only [List.length_take, List.length_drop]; omega))) rfl ?_; rintro _ _ rfl)
  refine o_give (g_fld (evv rfl)) rfl rfl ?_
  refine o_store1 (evv rfl) (evv rfl) (by rfl) (by rfl) (by rfl) ?_
  refine o_nil ?_
  refine c_code ?_
  refine r_seq ?_
  refine r_region (id := 5) ?_
  refine o_give (g_loadF (evv rfl) (by rfl) (by rfl)) rfl rfl ?_
  refine o_storeW (evv rfl) (evv rfl) (by first | rfl | assumption | exact LenC.h _ | (simp [bys, *]; done) | fail) (by first | (intro _ _ _; exact bys_one _) | exact AllOne.h | (intro _ _ _ u hu; simp at hu; rcases hu with rfl | rfl | rfl | rfl | rfl | rfl | rfl | rfl <;> rfl) | fail) (by first | rfl | exact (LenC.h _).trans rfl | exact (LenC.h _).trans (LenC.h _).symm | (simp [bys, *]; done) | (simp only [bys, List.length_map, *]; rfl) | fail) ?_
  refine o_nil ?_
  refine c_code ?_
  rename_i ve2
  refine r_retC (rs := [.cell 2 28]) rfl (ro_agg rfl rfl rfl ro_nil) _ ((Lay.ent (L' := blk j ⟨[.pointer (some ⟨p, 0, none⟩), .int .i64 view, .int .i64 normal, .int .i64 base, str state, ve], 74⟩ :: rom [(ve, entR es)] :: sl ve2 (entR es) :: F)).trans (jr_shut.trans Ent.swap)) ?_
  exact ⟨ve2, rfl, rfl⟩
theorem pick2 {α β : Type} {K1 : α → Atom} {K2 : β → Atom} {L R1 R2 : List Atom} {x : α} {y : β} [h1 : PickR K1 L x R1] [h2 : PickR K2 R1 y R2] : Ent L (K1 x :: K2 y :: R2) :=
  (Ent.perm h1.perm).trans (Ent.cons (Ent.perm h2.perm))
theorem View_nil (L : List Atom) (v : Int) : Fn Try.prog 20 [.pointer none, .int .i64 v] L fun w L' => w = .int .i64 7 ∧ L' = L := by
  have n1 := num_le 1 (by omega)
  refine fn_intro Try.func20 rfl Try.ntmps20 rfl (fun W0 => ?_)
  simp only [argE]
  refine r_seq ?_
  refine r_region (id := 0) ?_
  refine o_give (g_assign (evv rfl)) rfl rfl ?_
  refine o_nil ?_
  refine c_code ?_
  refine r_seq ?_
  refine r_region (id := 1) ?_
  refine o_alloc rfl rfl (fun _ => ?_)
  refine o_nil ?_
  refine c_code ?_
  refine r_seq ?_
  rename_i o
  refine r_ent _ (newOutA o) ?_
  refine r_region (id := 2) ?_
  (refine o_call rfl _ (Ent.refl _) (Num_l _ (by omega) (by (try simp only [bsOf, List.length_append, List.length_cons, List.length_nil]); omega)) rfl ?_; rintro _ _ ⟨rfl, rfl⟩; (try simp only [Int.toNat_natCast]))
  refine o_nil ?_
  refine c_code ?_
  refine r_seq ?_
  rw [show Int.toNat 1 = 1 from rfl, List.nil_append]
  refine r_region (id := 3) ?_
  refine o_give (g_move (evv rfl)) rfl rfl ?_
  refine o_giveU (g_conv TyU.h TyU.h (evv rfl)) (by rfl) rfl ?_
  (refine o_call rfl _ (Ent.refl _) (Num_l _ (by omega) (by (try simp only [bsOf, List.length_append, List.length_cons, List.length_nil]); omega)) rfl ?_; rintro _ _ ⟨rfl, rfl⟩; (try simp only [Int.toNat_natCast]))
  refine o_nil ?_
  refine c_code ?_
  refine r_seq ?_
  refine r_ent L (Lay.ent) ?_
  refine r_region (id := 4) ?_
  refine o_give (g_move (evv rfl)) rfl rfl ?_
  refine o_call rfl _ (Ent.refl _) (write_nil _ _) rfl ?_
  rintro _ _ ⟨rfl, rfl⟩
  refine o_give (g_assign (evv rfl)) rfl rfl ?_
  refine o_nil ?_
  refine c_code ?_
  skip
  first | refine r_ret (rs := [.tmp 4]) rfl rfl _ (Ent.refl _) ?_ | refine c_end (rs := [.tmp 4]) rfl rfl _ (Ent.refl _) ?_
  exact ⟨rfl, rfl⟩
theorem Entry_nil (L : List Atom) (e : EntS) (he : e.ok) : Fn Try.prog 21 [.pointer none, agg (entC e)] L fun w L' => w = .int .i64 7 ∧ L' = L := by
  have n2 := num_le 2 (by omega)
  have hfe : ∀ x ∈ [e], x.ok := fun x hx => by rw [List.mem_singleton.1 hx]; exact he
  refine fn_intro Try.func21 rfl Try.ntmps21 rfl (fun W0 => ?_)
  simp only [argE]
  refine r_seq ?_
  refine r_region (id := 0) ?_
  refine o_boxA (evv rfl) rfl (fun _ => ?_)
  refine o_give (g_assign (evv rfl)) rfl rfl ?_
  refine o_nil ?_
  refine c_code ?_
  refine r_seq ?_
  refine r_seq ?_
  refine r_region (id := 1) ?_
  refine o_give (g_move (evv rfl)) rfl rfl ?_
  refine o_give (g_pnil TyU.h (evv rfl) (evv rfl) (by simp) (by rfl)) rfl rfl ?_
  refine o_give (g_move (evv rfl)) rfl rfl ?_
  refine o_lazy rfl (fun hg => g_loadF (evv rfl) (by rfl) (by rfl)) rfl rfl ?_
  refine o_lazy (v0 := undef) rfl (fun hg => absurd hg (by first | (simp; done) | fail)) rfl rfl ?_
  refine o_lazy (v0 := undef) rfl (fun hg => absurd hg (by first | (simp; done) | fail)) rfl rfl ?_
  refine o_lazy (v0 := undef) rfl (fun hg => absurd hg (by first | (simp; done) | fail)) rfl rfl ?_
  refine o_give (g_pick (b := false) (evv rfl) (fun h => by cases h) (fun _ => (evv rfl))) rfl rfl ?_
  refine o_nil ?_
  refine c_code ?_
  refine r_cond_false rfl ?_
  refine r_skip ?_
  refine c_code ?_
  refine r_seq ?_
  refine r_region (id := 3) ?_
  refine o_alloc rfl rfl (fun _ => ?_)
  refine o_nil ?_
  refine c_code ?_
  refine r_seq ?_
  rename_i o
  refine r_ent _ (newOutA o) ?_
  refine r_region (id := 4) ?_
  (refine o_call rfl _ (Ent.refl _) (Num_l _ (by omega) (by (try simp only [bsOf, List.length_append, List.length_cons, List.length_nil]); omega)) rfl ?_; rintro _ _ ⟨rfl, rfl⟩; (try simp only [Int.toNat_natCast]))
  refine o_nil ?_
  refine c_code ?_
  refine r_seq ?_
  rw [show Int.toNat 2 = 2 from rfl, List.nil_append]
  refine r_region (id := 5) ?_
  refine o_give (g_loadF (evv rfl) (by rfl) (by rfl)) rfl rfl ?_
  refine o_litS rfl (by rfl) inferInstance (by rfl) rfl (fun _ => ?_)
  (refine o_call rfl _ (PickR.ent (K := outA _)) (putEntries_c _ _ _ _ _ (by assumption) (by first | assumption | omega | (simp; done)) (by first | assumption | omega | (simp only [List.length_append, List.length_cons, List.length_nil]; omega))) rfl ?_; rintro _ _ ⟨rfl, rfl⟩)
  refine o_nil ?_
  refine c_code ?_
  refine r_seq ?_
  refine r_ent L (Lay.ent) ?_
  refine r_region (id := 6) ?_
  refine o_give (g_move (evv rfl)) rfl rfl ?_
  refine o_call rfl _ (Ent.refl _) (write_nil _ _) rfl ?_
  rintro _ _ ⟨rfl, rfl⟩
  refine o_give (g_assign (evv rfl)) rfl rfl ?_
  refine o_nil ?_
  refine c_code ?_
  skip
  first | refine r_ret (rs := [.tmp 4]) rfl rfl _ (Ent.refl _) ?_ | refine c_end (rs := [.tmp 4]) rfl rfl _ (Ent.refl _) ?_
  exact ⟨rfl, rfl⟩
theorem Adopt_nil (L : List Atom) : Fn Try.prog 22 [.pointer none, .int .i64 1, .int .i64 0, .slice none 0 0] L fun w L' => w = .int .i64 7 ∧ L' = L := by
  have m1 := num_le 3 (by omega)
  have m2 := num_le 1 (by omega)
  have m3 := num_le 0 (by omega)
  refine fn_intro Try.func22 rfl Try.ntmps22 rfl (fun W0 => ?_)
  simp only [argE]
  refine r_seq ?_
  refine r_region (id := 0) ?_
  refine o_give (g_assign (evv rfl)) rfl rfl ?_
  refine o_nil ?_
  refine c_code ?_
  refine r_seq ?_
  refine r_seq ?_
  refine r_region (id := 1) ?_
  refine o_give (g_move (evv rfl)) rfl rfl ?_
  refine o_give (g_pnil TyU.h (evv rfl) (evv rfl) (by simp) (by rfl)) rfl rfl ?_
  refine o_give (g_move (evv rfl)) rfl rfl ?_
  refine o_lazy rfl (fun hg => g_move (by first | exact evv rfl | exact evg rfl (by rw [hp]; rfl) | exact evg rfl hp | exact evg rfl hg | exact evg rfl (by first | (simp_all; done) | (simp [*]; done) | fail) | fail)) rfl rfl ?_
  refine o_lazy rfl (fun hg => g_move (by first | exact evv rfl | exact evg rfl (by rw [hp]; rfl) | exact evg rfl hp | exact evg rfl hg | exact evg rfl (by first | (simp_all; done) | (simp [*]; done) | fail) | fail)) rfl rfl ?_
  refine o_lazy rfl (fun hg => g_move (by first | exact evv rfl | exact evg rfl (by rw [hp]; rfl) | exact evg rfl hp | exact evg rfl hg | exact evg rfl (by first | (simp_all; done) | (simp [*]; done) | fail) | fail)) rfl rfl ?_
  refine o_lazy (v0 := undef) rfl (fun hg => absurd hg (by first | (simp; done) | fail)) rfl rfl ?_
  refine o_lazy (v0 := undef) rfl (fun hg => absurd hg (by first | (simp; done) | fail)) rfl rfl ?_
  refine o_lazy (v0 := undef) rfl (fun hg => absurd hg (by first | (simp; done) | fail)) rfl rfl ?_
  refine o_give (g_pick (b := false) (evv rfl) (fun h => by cases h) (fun _ => (evv rfl))) rfl rfl ?_
  refine o_nil ?_
  refine c_code ?_
  refine r_cond_false rfl ?_
  refine r_skip ?_
  refine c_code ?_
  refine r_seq ?_
  refine r_region (id := 3) ?_
  refine o_alloc rfl rfl (fun _ => ?_)
  refine o_nil ?_
  refine c_code ?_
  refine r_seq ?_
  rename_i o
  refine r_ent _ (newOutA o) ?_
  refine r_region (id := 4) ?_
  (refine o_call rfl _ (Ent.refl _) (Num_l _ (by omega) (by (try simp only [bsOf, List.length_append, List.length_cons, List.length_nil]); omega)) rfl ?_; rintro _ _ ⟨rfl, rfl⟩; (try simp only [Int.toNat_natCast]))
  refine o_nil ?_
  refine c_code ?_
  refine r_seq ?_
  rw [show Int.toNat 3 = 3 from rfl, List.nil_append]
  refine r_region (id := 5) ?_
  refine o_give (g_move (evv rfl)) rfl rfl ?_
  refine o_giveN (g_conv TyU.h TyU.h (evv rfl)) (by simp only [inR]; omega) rfl ?_
  (refine o_call rfl _ (Ent.refl _) (Num_l _ (by omega) (by (try simp only [bsOf, List.length_append, List.length_cons, List.length_nil]); omega)) rfl ?_; rintro _ _ ⟨rfl, rfl⟩; (try simp only [Int.toNat_natCast]))
  refine o_nil ?_
  refine c_code ?_
  refine r_seq ?_
  rw [show Int.toNat 1 = 1 from rfl]
  refine r_region (id := 6) ?_
  refine o_give (g_move (evv rfl)) rfl rfl ?_
  refine o_giveN (g_conv TyU.h TyU.h (evv rfl)) (by simp only [inR]; omega) rfl ?_
  (refine o_call rfl _ (Ent.refl _) (Num_l _ (by omega) (by (try simp only [bsOf, List.length_append, List.length_cons, List.length_nil]); omega)) rfl ?_; rintro _ _ ⟨rfl, rfl⟩; (try simp only [Int.toNat_natCast]))
  refine o_nil ?_
  refine c_code ?_
  refine r_seq ?_
  rw [show Int.toNat 0 = 0 from rfl]
  refine r_ent (outA o (num 3 ++ num 1 ++ num 0) :: L) (Lay.ent) ?_
  refine r_region (id := 7) ?_
  refine o_give (g_move (evv rfl)) rfl rfl ?_
  refine o_give (g_len TyU.h (evv rfl)) rfl rfl ?_
  refine o_giveN (g_conv TyU.h TyU.h (evv rfl)) (by simp only [inR]; omega) rfl ?_
  (refine o_call rfl _ (Ent.refl _) (Num_l _ (by omega) (by (try simp only [bsOf, List.length_append, List.length_cons, List.length_nil]); omega)) rfl ?_; rintro _ _ ⟨rfl, rfl⟩; (try simp only [Int.toNat_natCast]))
  refine o_nil ?_
  refine c_code ?_
  refine r_seq ?_
  refine r_region (id := 8) ?_
  refine o_give (g_move (evv rfl)) rfl rfl ?_
  refine o_call rfl _ (Ent.refl _) (putEntries_c _ o _ (.slice none 0 0) [] (rd := Rd.nilF entC 8 50) (by simp) (by simp) (by simp only [List.length_append]; omega)) rfl ?_
  rintro _ _ ⟨rfl, rfl⟩
  refine o_nil ?_
  refine c_code ?_
  refine r_seq ?_
  refine r_ent L (Lay.ent) ?_
  refine r_region (id := 9) ?_
  refine o_give (g_move (evv rfl)) rfl rfl ?_
  refine o_call rfl _ (Ent.refl _) (write_nil _ _) rfl ?_
  rintro _ _ ⟨rfl, rfl⟩
  refine o_give (g_assign (evv rfl)) rfl rfl ?_
  refine o_nil ?_
  refine c_code ?_
  skip
  first | refine r_ret (rs := [.tmp 8]) rfl rfl _ (Ent.refl _) ?_ | refine c_end (rs := [.tmp 8]) rfl rfl _ (Ent.refl _) ?_
  exact ⟨rfl, rfl⟩
theorem Kept_nil (L : List Atom) : Fn Try.prog 14 [.pointer none] L fun w L' => w = agg (kC 0 0 0 [] (.slice none 0 0)) ∧ L' = L := by
  refine fn_intro Try.func14 rfl Try.ntmps14 rfl (fun W0 => ?_)
  simp only [argE]
  refine r_seq ?_
  refine r_region (id := 0) ?_
  refine o_alloc rfl rfl (fun _ => ?_)
  refine o_nil ?_
  refine c_code ?_
  refine r_seq ?_
  refine r_seq ?_
  refine r_region (id := 1) ?_
  refine o_give (g_move (evv rfl)) rfl rfl ?_
  refine o_give (g_pnil TyU.h (evv rfl) (evv rfl) (by simp) (by rfl)) rfl rfl ?_
  refine o_nil ?_
  refine c_code ?_
  refine r_cond_true rfl ?_
  refine r_seq ?_
  refine r_region (id := 2) ?_
  refine o_give (v := agg [(Go.Value.int Go.IntKind.i64 0), (Go.Value.int Go.IntKind.i64 0), (Go.Value.int Go.IntKind.i64 0), (Go.Value.string { data := #[] }), (Go.Value.slice none 0 0)]) (g_buildC rfl (by rfl)) rfl rfl ?_
  refine o_storeW (evv rfl) (evv rfl) (by first | rfl | assumption | exact LenC.h _ | (simp [bys, *]; done) | fail) (by first | (intro _ _ _; exact bys_one _) | exact AllOne.h | (intro _ _ _ u hu; simp at hu; rcases hu with rfl | rfl | rfl | rfl | rfl | rfl | rfl | rfl <;> rfl) | fail) (by first | rfl | exact (LenC.h _).trans rfl | exact (LenC.h _).trans (LenC.h _).symm | (simp [bys, *]; done) | (simp only [bys, List.length_map, *]; rfl) | fail) ?_
  refine o_nil ?_
  refine c_code ?_
  first | refine r_retC (rs := [.cell 2 28]) rfl (by first | exact ro_agg rfl rfl (by first | rfl | exact LenC.h _ | (simp [bys, *]; done)) ro_nil | exact ro_cell rfl rfl rfl ro_nil) _ ((Lay.ent (L' := L))) ?_ | refine c_endC (rs := [.cell 2 28]) rfl (by first | exact ro_agg rfl rfl (by first | rfl | exact LenC.h _ | (simp [bys, *]; done)) ro_nil | exact ro_cell rfl rfl rfl ro_nil) _ ((Lay.ent (L' := L))) ?_
  exact ⟨rfl, rfl⟩
end VK

namespace VK
open Go Go.Proofs
set_option linter.unusedSimpArgs false
set_option linter.unusedVariables false
set_option maxRecDepth 100000
set_option maxHeartbeats 40000000
theorem Lay1_c (F : List Atom) (bj bo j p : Nat) (oth : Int) (x : Pt) (cs : List Value) (hx : x.ok) (ho : 0 ≤ oth ∧ oth ≤ 1) :
    Fn Try.prog 41 [.pointer (some ⟨bj, 0, none⟩), .pointer (some ⟨bo, 0, none⟩)] (pt p x :: blk bj ⟨[.pointer (some ⟨j, 0, none⟩)], 25⟩ :: blk j ⟨.pointer (some ⟨p, 0, none⟩) :: cs, 74⟩ :: blk bo ⟨[.int .i64 oth], 3⟩ :: F)
    fun v L' => v = .int .i64 (wipT x (oth : Int)).1 ∧ L' = pt p (wipT x (oth : Int)).2 :: blk bj ⟨[.pointer (some ⟨j, 0, none⟩)], 25⟩ :: blk j ⟨.pointer (some ⟨p, 0, none⟩) :: cs, 74⟩ :: blk bo ⟨[.int .i64 oth], 3⟩ :: F := by
  refine fn_intro Try.func41 rfl Try.ntmps41 rfl (fun W0 => ?_)
  simp only [argE]
  refine r_seq ?_
  refine r_region (id := 0) ?_
  refine o_give (g_assign (evv rfl)) rfl rfl ?_
  refine o_nil ?_
  refine c_code ?_
  refine r_seq ?_
  repeat (first | refine r_seq ?_ | refine c_code ?_ | refine c_blk ?_ | refine r_block ?_ | refine r_skip ?_)
  refine r_held (id := 1) [blk bj ⟨[.pointer (some ⟨j, 0, none⟩)], 25⟩, blk j ⟨.pointer (some ⟨p, 0, none⟩) :: cs, 74⟩, blk bo ⟨[.int .i64 oth], 3⟩] Mixed.h ?_
  refine h_give (i := 0) (by kernel_rfl) rfl (g_load (evv rfl) (by rfl) (by rfl)) rfl rfl ?_
  refine h_give (i := 1) (by kernel_rfl) rfl (g_nil (evv rfl)) rfl rfl ?_
  refine h_give (i := 2) (by kernel_rfl) rfl (g_fld (evv rfl)) rfl rfl ?_
  refine h_give (i := 3) (by kernel_rfl) rfl (g_load (evv rfl) (by rfl) (by rfl)) rfl rfl ?_
  refine h_give (i := 4) (by kernel_rfl) rfl (g_load (evv rfl) (by rfl) (by rfl)) rfl rfl ?_
  refine h_one (i := 5) (by kernel_rfl) rfl (Lay.ent) ?_
  (refine o_call rfl _ (PickR.ent (K := pt _)) (Wipe_c _ _ _ (by assumption) _) rfl ?_; rintro _ _ ⟨rfl, rfl⟩)
  refine o_nil ?_
  refine h_give (i := 6) (by kernel_rfl) rfl (g_assign (evv rfl)) rfl rfl ?_
  refine h_done (by kernel_rfl) (Lay.ent) ?_
  refine c_code ?_
  first | refine r_ret (rs := [.tmp 2]) rfl rfl _ (Ent.refl _) ?_ | refine c_end (rs := [.tmp 2]) rfl rfl _ (Ent.refl _) ?_
  exact ⟨rfl, rfl⟩
theorem Lay3_c (F : List Atom) (bj bo j p : Nat) (oth : Int) (x : Pt) (cs : List Value) (hx : x.ok) (ho : 0 ≤ oth ∧ oth ≤ 1) :
    Fn Try.prog 44 [.pointer (some ⟨bj, 0, none⟩), .pointer (some ⟨bo, 0, none⟩)] (pt p x :: blk bj ⟨[.pointer (some ⟨j, 0, none⟩)], 25⟩ :: blk j ⟨.pointer (some ⟨p, 0, none⟩) :: cs, 74⟩ :: blk bo ⟨[.int .i64 oth], 3⟩ :: F)
    fun v L' => v = .int .i64 (synT x (oth : Int)).1 ∧ L' = pt p (synT x (oth : Int)).2 :: blk bj ⟨[.pointer (some ⟨j, 0, none⟩)], 25⟩ :: blk j ⟨.pointer (some ⟨p, 0, none⟩) :: cs, 74⟩ :: blk bo ⟨[.int .i64 oth], 3⟩ :: F := by
  refine fn_intro Try.func44 rfl Try.ntmps44 rfl (fun W0 => ?_)
  simp only [argE]
  refine r_seq ?_
  refine r_region (id := 0) ?_
  refine o_give (g_assign (evv rfl)) rfl rfl ?_
  refine o_nil ?_
  refine c_code ?_
  refine r_seq ?_
  repeat (first | refine r_seq ?_ | refine c_code ?_ | refine c_blk ?_ | refine r_block ?_ | refine r_skip ?_)
  refine r_held (id := 1) [blk bj ⟨[.pointer (some ⟨j, 0, none⟩)], 25⟩, blk j ⟨.pointer (some ⟨p, 0, none⟩) :: cs, 74⟩, blk bo ⟨[.int .i64 oth], 3⟩] Mixed.h ?_
  refine h_give (i := 0) (by kernel_rfl) rfl (g_load (evv rfl) (by rfl) (by rfl)) rfl rfl ?_
  refine h_give (i := 1) (by kernel_rfl) rfl (g_nil (evv rfl)) rfl rfl ?_
  refine h_give (i := 2) (by kernel_rfl) rfl (g_fld (evv rfl)) rfl rfl ?_
  refine h_give (i := 3) (by kernel_rfl) rfl (g_load (evv rfl) (by rfl) (by rfl)) rfl rfl ?_
  refine h_give (i := 4) (by kernel_rfl) rfl (g_load (evv rfl) (by rfl) (by rfl)) rfl rfl ?_
  refine h_one (i := 5) (by kernel_rfl) rfl (Lay.ent) ?_
  (refine o_call rfl _ (PickR.ent (K := pt _)) (Sync_c _ _ _ (by assumption) _) rfl ?_; rintro _ _ ⟨rfl, rfl⟩)
  refine o_nil ?_
  refine h_give (i := 6) (by kernel_rfl) rfl (g_assign (evv rfl)) rfl rfl ?_
  refine h_done (by kernel_rfl) (Lay.ent) ?_
  refine c_code ?_
  first | refine r_ret (rs := [.tmp 2]) rfl rfl _ (Ent.refl _) ?_ | refine c_end (rs := [.tmp 2]) rfl rfl _ (Ent.refl _) ?_
  exact ⟨rfl, rfl⟩
theorem Lay4_c (F : List Atom) (bj bo j p : Nat) (oth : Int) (x : Pt) (cs : List Value) (hx : x.ok) (ho : 0 ≤ oth ∧ oth ≤ 1) :
    Fn Try.prog 46 [.pointer (some ⟨bj, 0, none⟩), .pointer (some ⟨bo, 0, none⟩)] (pt p x :: blk bj ⟨[.pointer (some ⟨j, 0, none⟩)], 25⟩ :: blk j ⟨.pointer (some ⟨p, 0, none⟩) :: cs, 74⟩ :: blk bo ⟨[.int .i64 oth], 3⟩ :: F)
    fun v L' => v = .int .i64 (wipT x (1 - (oth : Int))).1 ∧ L' = pt p (wipT x (1 - (oth : Int))).2 :: blk bj ⟨[.pointer (some ⟨j, 0, none⟩)], 25⟩ :: blk j ⟨.pointer (some ⟨p, 0, none⟩) :: cs, 74⟩ :: blk bo ⟨[.int .i64 oth], 3⟩ :: F := by
  refine fn_intro Try.func46 rfl Try.ntmps46 rfl (fun W0 => ?_)
  simp only [argE]
  refine r_seq ?_
  refine r_region (id := 0) ?_
  refine o_give (g_assign (evv rfl)) rfl rfl ?_
  refine o_nil ?_
  refine c_code ?_
  refine r_seq ?_
  repeat (first | refine r_seq ?_ | refine c_code ?_ | refine c_blk ?_ | refine r_block ?_ | refine r_skip ?_)
  refine r_held (id := 1) [blk bj ⟨[.pointer (some ⟨j, 0, none⟩)], 25⟩, blk j ⟨.pointer (some ⟨p, 0, none⟩) :: cs, 74⟩, blk bo ⟨[.int .i64 oth], 3⟩] Mixed.h ?_
  refine h_give (i := 0) (by kernel_rfl) rfl (g_load (evv rfl) (by rfl) (by rfl)) rfl rfl ?_
  refine h_give (i := 1) (by kernel_rfl) rfl (g_nil (evv rfl)) rfl rfl ?_
  refine h_give (i := 2) (by kernel_rfl) rfl (g_fld (evv rfl)) rfl rfl ?_
  refine h_give (i := 3) (by kernel_rfl) rfl (g_load (evv rfl) (by rfl) (by rfl)) rfl rfl ?_
  refine h_give (i := 4) (by kernel_rfl) rfl (g_load (evv rfl) (by rfl) (by rfl)) rfl rfl ?_
  refine h_giveN (i := 5) (by kernel_rfl) rfl (g_bin (evv rfl) (evv rfl) (by rfl)) (by simp only [inR]; omega) rfl ?_
  refine h_one (i := 6) (by kernel_rfl) rfl (Lay.ent) ?_
  (refine o_call rfl _ (PickR.ent (K := pt _)) (Wipe_c _ _ _ (by assumption) _) rfl ?_; rintro _ _ ⟨rfl, rfl⟩)
  refine o_nil ?_
  refine h_give (i := 7) (by kernel_rfl) rfl (g_assign (evv rfl)) rfl rfl ?_
  refine h_done (by kernel_rfl) (Lay.ent) ?_
  refine c_code ?_
  first | refine r_ret (rs := [.tmp 2]) rfl rfl _ (Ent.refl _) ?_ | refine c_end (rs := [.tmp 2]) rfl rfl _ (Ent.refl _) ?_
  exact ⟨rfl, rfl⟩
theorem Lay2_c (F : List Atom) (bj bo bf j p : Nat) (oth : Int) (x : Pt) (cs : List Value) (fv : Value) (f : List UInt8) [rf : Rd F fv (bR f)] (hx : x.ok) (hf : f.length ≤ 1000000000) :
    Fn Try.prog 43 [.pointer (some ⟨bj, 0, none⟩), .pointer (some ⟨bo, 0, none⟩), .pointer (some ⟨bf, 0, none⟩)] (pt p x :: blk bj ⟨[.pointer (some ⟨j, 0, none⟩)], 25⟩ :: blk j ⟨.pointer (some ⟨p, 0, none⟩) :: cs, 74⟩ :: blk bo ⟨[.int .i64 oth], 3⟩ :: blk bf ⟨[fv], 52⟩ :: F)
    fun v L' => v = .int .i64 (appT x oth f).1 ∧ L' = pt p (appT x oth f).2 :: blk bj ⟨[.pointer (some ⟨j, 0, none⟩)], 25⟩ :: blk j ⟨.pointer (some ⟨p, 0, none⟩) :: cs, 74⟩ :: blk bo ⟨[.int .i64 oth], 3⟩ :: blk bf ⟨[fv], 52⟩ :: F := by
  refine fn_intro Try.func43 rfl Try.ntmps43 rfl (fun W0 => ?_)
  simp only [argE]
  refine r_seq ?_
  refine r_region (id := 0) ?_
  refine o_give (g_assign (evv rfl)) rfl rfl ?_
  refine o_nil ?_
  refine c_code ?_
  refine r_seq ?_
  repeat (first | refine r_seq ?_ | refine c_code ?_ | refine c_blk ?_ | refine r_block ?_ | refine r_skip ?_)
  refine r_held (id := 1) [blk bj ⟨[.pointer (some ⟨j, 0, none⟩)], 25⟩, blk j ⟨.pointer (some ⟨p, 0, none⟩) :: cs, 74⟩, blk bo ⟨[.int .i64 oth], 3⟩, blk bf ⟨[fv], 52⟩] Mixed.h ?_
  refine h_give (i := 0) (by kernel_rfl) rfl (g_load (evv rfl) (by rfl) (by rfl)) rfl rfl ?_
  refine h_give (i := 1) (by kernel_rfl) rfl (g_nil (evv rfl)) rfl rfl ?_
  refine h_give (i := 2) (by kernel_rfl) rfl (g_fld (evv rfl)) rfl rfl ?_
  refine h_give (i := 3) (by kernel_rfl) rfl (g_load (evv rfl) (by rfl) (by rfl)) rfl rfl ?_
  refine h_give (i := 4) (by kernel_rfl) rfl (g_load (evv rfl) (by rfl) (by rfl)) rfl rfl ?_
  refine h_give (i := 5) (by kernel_rfl) rfl (g_load (evv rfl) (by rfl) (by rfl)) rfl rfl ?_
  refine h_one (i := 6) (by kernel_rfl) rfl (Lay.ent) ?_
  (refine o_call rfl _ (PickR.ent (K := pt _)) (Append_c _ _ _ (by assumption) _ _ _ (by first | assumption | omega)) rfl ?_; rintro _ _ ⟨rfl, rfl⟩)
  refine o_nil ?_
  refine h_give (i := 7) (by kernel_rfl) rfl (g_assign (evv rfl)) rfl rfl ?_
  refine h_done (by kernel_rfl) (Lay.ent) ?_
  refine c_code ?_
  first | refine r_ret (rs := [.tmp 3]) rfl rfl _ (Ent.refl _) ?_ | refine c_end (rs := [.tmp 3]) rfl rfl _ (Ent.refl _) ?_
  exact ⟨rfl, rfl⟩
theorem Lay_c (F : List Atom) (j p : Nat) (x : Pt) (k : KeptS) (ve : Value) (l : List (Value × Row)) (view normal base : Int) (state : List UInt8) (es : List EntS) (ve' : Value) [ir : InR l ve (entR k.ents)] [rd : Rd (rom l :: F) ve' (entR es)] (hx : x.ok) (hk : k.ok) (hf : k.fine) (hfe : ∀ e ∈ es, e.ok) (hl : es.length ≤ 1048576) (hst : state.length ≤ 140737488355000) (hs : sizeP x + 262152 ≤ 1000000000) :
    Fn Try.prog 13 [.pointer (some ⟨j, 0, none⟩), agg (kC view normal base state ve')] (blk j ⟨.pointer (some ⟨p, 0, none⟩) :: kC k.view k.normal k.base k.state ve, 74⟩ :: pt p x :: rom l :: F) fun w L' => w = .int .i64 (layT x k ⟨view, normal, base, state, es⟩).1 ∧ L' = jr j (p, (layT x k ⟨view, normal, base, state, es⟩).2.2) :: pt p (layT x k ⟨view, normal, base, state, es⟩).2.1 :: F := by
  refine fn_intro Try.func13 rfl Try.ntmps13 rfl (fun W0 => ?_)
  simp only [argE]
  refine r_seq ?_
  refine r_region (id := 0) ?_
  refine o_box1 (evv rfl) rfl (fun _ => ?_)
  refine o_boxA (evv rfl) rfl (fun _ => ?_)
  refine o_give (g_assign (evv rfl)) rfl rfl ?_
  refine o_nil ?_
  refine c_code ?_
  refine r_seq ?_
  refine r_block ?_
  refine r_seq ?_
  refine r_region (id := 1) ?_
  refine o_give (g_load (evv rfl) (by rfl) (by rfl)) rfl rfl ?_
  refine o_give (g_pnil TyU.h (evv rfl) (evv rfl) (by simp) (by rfl)) rfl rfl ?_
  refine o_give (g_assign (evv rfl)) rfl rfl ?_
  refine o_nil ?_
  refine c_code ?_
  refine r_cond_false rfl ?_
  refine r_seq ?_
  refine r_region (id := 3) ?_
  refine o_give (g_loadF (evv rfl) (by rfl) (by rfl)) rfl rfl ?_
  (refine o_call rfl _ (Ent.refl _) (jCheck_c _ _ _ _ _ _ _ (by first | assumption | omega) (by first | assumption | omega) (by assumption)) rfl ?_; rintro _ _ ⟨rfl, hLz⟩; obtain rfl := hLz.symm; clear hLz)
  refine o_give (g_bin (evv rfl) (evv rfl) (by rfl)) rfl rfl ?_
  refine o_give (g_assign (evv rfl)) rfl rfl ?_
  refine o_nil ?_
  refine c_code ?_
  rename_i bj bk
  by_cases hok : KeptS.ok ⟨view, normal, base, state, es⟩
  · have hok0 := hok
    obtain ⟨a1, a2, a3, a4, a5, a6, a7, a8, a9, a10, a11⟩ := hok
    dsimp only at a1 a2 a3 a4 a5 a6 a7 a8 a9 a10 a11
    have hgr : gr = 1099511627776 := rfl
    have hpl : (payW ⟨view, normal, base, state, es⟩).length ≤ 180000 := payW_len hok0 hfe
    have hT : layT x k ⟨view, normal, base, state, es⟩ = ((layG (1 - x.live) (frameB (payW ⟨view, normal, base, state, es⟩)) x 5).1, (layG (1 - x.live) (frameB (payW ⟨view, normal, base, state, es⟩)) x 5).2, if (layG (1 - x.live) (frameB (payW ⟨view, normal, base, state, es⟩)) x 5).1 = 0 then ⟨view, normal, base, state, es⟩ else k) := if_neg (fun h => h hok0)
    have m0 := num_le 4 (by omega)
    have m1 := num_le view.toNat (by omega)
    have m2 := num_le normal.toNat (by omega)
    have m3 := num_le base.toNat (by omega)
    have m4 := num_le es.length (by omega)
    have m5 := textB_len (s := state) (by omega)
    have hpW : payW ⟨view, normal, base, state, es⟩ = num 4 ++ num view.toNat ++ num normal.toNat ++ num base.toNat ++ textB state ++ num es.length ++ entsB es := rfl
    rw [hT]
    simp only [if_pos hok0, decide_true, Bool.not_true]
    have hv8 : view % 18446744073709551616 = view := by omega
    refine r_cond_false rfl ?_
    refine r_skip ?_
    refine c_blk ?_
    refine c_code ?_
    refine r_seq ?_
    refine r_region (id := 5) ?_
    refine o_alloc rfl rfl (fun _ => ?_)
    refine o_nil ?_
    refine c_code ?_
    refine r_seq ?_
    rename_i o
    refine r_ent _ (newOutA o) ?_
    refine r_region (id := 6) ?_
    (refine o_call rfl _ (Ent.refl _) (Num_l _ (by omega) (by (try simp only [bsOf, List.length_append, List.length_cons, List.length_nil]); omega)) rfl ?_; rintro _ _ ⟨rfl, rfl⟩; (try simp only [Int.toNat_natCast]))
    refine o_nil ?_
    refine c_code ?_
    refine r_seq ?_
    rw [show Int.toNat 4 = 4 from rfl, List.nil_append]
    refine r_region (id := 7) ?_
    refine o_give (g_fld (evv rfl)) rfl rfl ?_
    refine o_give (g_load (evv rfl) (by rfl) (by rfl)) rfl rfl ?_
    refine o_giveN (g_conv TyU.h TyU.h (evv rfl)) (by simp only [inR]; omega) rfl ?_
    (refine o_call rfl _ (Ent.refl _) (Num_l _ (by omega) (by (try simp only [bsOf, List.length_append, List.length_cons, List.length_nil]); omega)) rfl ?_; rintro _ _ ⟨rfl, rfl⟩; (try simp only [Int.toNat_natCast]))
    refine o_nil ?_
    refine c_code ?_
    refine r_seq ?_
    refine r_region (id := 8) ?_
    refine o_give (g_fld (evv rfl)) rfl rfl ?_
    refine o_give (g_load (evv rfl) (by rfl) (by rfl)) rfl rfl ?_
    refine o_giveN (g_conv TyU.h TyU.h (evv rfl)) (by simp only [inR]; omega) rfl ?_
    (refine o_call rfl _ (Ent.refl _) (Num_l _ (by omega) (by (try simp only [bsOf, List.length_append, List.length_cons, List.length_nil]); omega)) rfl ?_; rintro _ _ ⟨rfl, rfl⟩; (try simp only [Int.toNat_natCast]))
    refine o_nil ?_
    refine c_code ?_
    refine r_seq ?_
    refine r_region (id := 9) ?_
    refine o_give (g_fld (evv rfl)) rfl rfl ?_
    refine o_give (g_load (evv rfl) (by rfl) (by rfl)) rfl rfl ?_
    refine o_giveN (g_conv TyU.h TyU.h (evv rfl)) (by simp only [inR]; omega) rfl ?_
    (refine o_call rfl _ (Ent.refl _) (Num_l _ (by omega) (by (try simp only [bsOf, List.length_append, List.length_cons, List.length_nil]); omega)) rfl ?_; rintro _ _ ⟨rfl, rfl⟩; (try simp only [Int.toNat_natCast]))
    refine o_nil ?_
    refine c_code ?_
    refine r_seq ?_
    refine r_region (id := 10) ?_
    refine o_give (g_fld (evv rfl)) rfl rfl ?_
    refine o_give (g_load (evv rfl) (by rfl) (by rfl)) rfl rfl ?_
    (refine o_call rfl _ (Ent.refl _) (Text_l (by (try simp only [bsOf, List.length_append, List.length_cons, List.length_nil]); omega)) rfl ?_; rintro _ _ ⟨rfl, rfl⟩)
    refine o_nil ?_
    refine c_code ?_
    refine r_seq ?_
    refine r_region (id := 11) ?_
    refine o_give (g_fld (evv rfl)) rfl rfl ?_
    refine o_give (g_load (evv rfl) (by rfl) (by rfl)) rfl rfl ?_
    refine o_give (g_lenF (evv rfl)) rfl rfl ?_
    refine o_giveN (g_conv TyU.h TyU.h (evv rfl)) (by simp only [inR]; omega) rfl ?_
    (refine o_call rfl _ (Ent.refl _) (Num_l _ (by omega) (by (try simp only [bsOf, List.length_append, List.length_cons, List.length_nil]); omega)) rfl ?_; rintro _ _ ⟨rfl, rfl⟩; (try simp only [Int.toNat_natCast]))
    refine o_nil ?_
    refine c_code ?_
    refine r_seq ?_
    refine r_region (id := 12) ?_
    refine o_give (g_fld (evv rfl)) rfl rfl ?_
    refine o_give (g_load (evv rfl) (by rfl) (by rfl)) rfl rfl ?_
    (refine o_call rfl _ (PickR.ent (K := outA _)) (putEntries_c _ _ _ _ _ (by assumption) (by first | assumption | omega | (simp; done)) (by first | assumption | omega | (simp only [List.length_append, List.length_cons, List.length_nil]; omega))) rfl ?_; rintro _ _ ⟨rfl, rfl⟩)
    refine o_nil ?_
    refine c_code ?_
    refine r_seq ?_
    rw [← hpW]
    generalize hP : payW ⟨view, normal, base, state, es⟩ = P at *
    have hfr : frR P = (frameB P, 0) := if_neg (by omega)
    refine r_region (id := 13) ?_
    (refine o_call rfl _ (Ent.refl _) (Bytes_l (by (try simp only [bsOf, List.length_append, List.length_cons, List.length_nil]); omega)) rfl ?_; rintro _ _ ⟨_, rfl⟩)
    (refine o_call rfl _ (Ent.refl _) (Frame_c _ _ _ (by first | assumption | omega)) rfl ?_; rintro _ _ ⟨ff, rfl, rfl⟩)
    refine o_give (g_move (evv rfl)) rfl rfl ?_
    refine o_give (g_extract (evv rfl) (by rfl)) rfl rfl ?_
    refine o_give (g_extract (evv rfl) (by rfl)) rfl rfl ?_
    refine o_alloc rfl rfl (fun _ => ?_)
    refine o_store1 (evv rfl) (evv rfl) (by rfl) (by rfl) (by rfl) ?_
    refine o_give (g_assign (evv rfl)) rfl rfl ?_
    refine o_nil ?_
    refine c_code ?_
    refine r_seq ?_
    rw [hfr]
    dsimp only
    rename_i fv0 hfv0 bf
    have hlv := hx.l
    refine r_region (id := 14) ?_
    refine o_give (g_load (evv rfl) (by rfl) (by rfl)) rfl rfl ?_
    refine o_give (g_nil (evv rfl)) rfl rfl ?_
    refine o_give (g_fld (evv rfl)) rfl rfl ?_
    refine o_give (g_load (evv rfl) (by rfl) (by rfl)) rfl rfl ?_
    (refine o_call rfl _ (PickR.ent (K := pt _)) (Live_c _ _ _) rfl ?_; rintro _ _ ⟨rfl, rfl⟩)
    refine o_giveN (g_bin (evv rfl) (evv rfl) (by rfl)) (by simp only [inR]; omega) rfl ?_
    refine o_alloc rfl rfl (fun _ => ?_)
    refine o_store1 (evv rfl) (evv rfl) (by rfl) (by rfl) (by rfl) ?_
    refine o_nil ?_
    refine c_code ?_
    refine r_seq ?_
    refine r_seq ?_
    rename_i bo
    refine r_region (id := 15) ?_
    refine o_give (g_func rfl rfl) rfl rfl ?_
    refine o_give (g_func rfl rfl) rfl rfl ?_
    refine o_give (g_func rfl rfl) rfl rfl ?_
    refine o_give (g_load (evv rfl) (by rfl) (by rfl)) rfl rfl ?_
    refine o_give (g_nil (evv rfl)) rfl rfl ?_
    refine o_give (g_fld (evv rfl)) rfl rfl ?_
    refine o_give (g_load (evv rfl) (by rfl) (by rfl)) rfl rfl ?_
    refine o_give (g_func rfl rfl) rfl rfl ?_
    refine o_give (g_func rfl rfl) rfl rfl ?_
    refine o_litV rfl rfl rfl (by rfl) rfl rfl (fun _ => ?_)
    refine o_give (g_lenM (evv rfl)) rfl rfl ?_
    refine o_give (g_move (evv rfl)) rfl rfl ?_
    refine o_nil ?_
    refine c_code ?_
    refine r_block ?_
    rename_i sv
    have hl8 := frame_len P
    have hm9 : (frameB P).length ≤ 1000000000 := by omega
    have ho : (0 : Int) ≤ 1 - (x.live : Int) ∧ 1 - (x.live : Int) ≤ 1 := by omega
    have hstep : ∀ i < 5, ∀ (y : Pt) (R : List Atom), y.ok → ∃ (g : FuncId) (fs cs : Array Value), CallOk Try.prog g ∧ (id ([.func (.func 41) #[] #[.pointer (some ⟨bj, 0, none⟩), .pointer (some ⟨bo, 0, none⟩)], .func (.func 43) #[] #[.pointer (some ⟨bj, 0, none⟩), .pointer (some ⟨bo, 0, none⟩), .pointer (some ⟨bf, 0, none⟩)], .func (.func 44) #[] #[.pointer (some ⟨bj, 0, none⟩), .pointer (some ⟨bo, 0, none⟩)], .func (.func 45) #[.pointer (some ⟨p, 0, none⟩)] #[], .func (.func 46) #[] #[.pointer (some ⟨bj, 0, none⟩), .pointer (some ⟨bo, 0, none⟩)]].getD i default) : Value) = .func (.func g) fs cs ∧
        Fn Try.prog g (fs.toList ++ [] ++ cs.toList) (pt p y :: blk bj ⟨[.pointer (some ⟨j, 0, none⟩)], 25⟩ :: blk j ⟨.pointer (some ⟨p, 0, none⟩) :: kC k.view k.normal k.base k.state ve, 74⟩ :: blk bo ⟨[.int .i64 (1 - (x.live : Int))], 3⟩ :: blk bf ⟨[ff], 52⟩ :: sl ff (bR (frameB P)) :: R) (fun v L' => v = .int .i64 (layS (1 - (x.live : Int)) (frameB P) i y).1 ∧ L' = pt p (layS (1 - (x.live : Int)) (frameB P) i y).2 :: blk bj ⟨[.pointer (some ⟨j, 0, none⟩)], 25⟩ :: blk j ⟨.pointer (some ⟨p, 0, none⟩) :: kC k.view k.normal k.base k.state ve, 74⟩ :: blk bo ⟨[.int .i64 (1 - (x.live : Int))], 3⟩ :: blk bf ⟨[ff], 52⟩ :: sl ff (bR (frameB P)) :: R) := by
      intro i hi y R hy
      rcases (by omega : i = 0 ∨ i = 1 ∨ i = 2 ∨ i = 3 ∨ i = 4) with rfl | rfl | rfl | rfl | rfl
      · exact ⟨_, _, _, inferInstance, rfl, Lay1_c _ bj bo j p _ y _ hy ho⟩
      · exact ⟨_, _, _, inferInstance, rfl, Lay2_c _ bj bo bf j p _ y _ ff (frameB P) hy hm9⟩
      · exact ⟨_, _, _, inferInstance, rfl, Lay3_c _ bj bo j p _ y _ hy ho⟩
      · exact ⟨_, _, _, inferInstance, rfl, Flip_c _ p y hy⟩
      · exact ⟨_, _, _, inferInstance, rfl, Lay4_c _ bj bo j p _ y _ hy ho⟩
    refine r_ent (pt p x :: blk bj ⟨[.pointer (some ⟨j, 0, none⟩)], 25⟩ :: blk j ⟨.pointer (some ⟨p, 0, none⟩) :: kC k.view k.normal k.base k.state ve, 74⟩ :: blk bo ⟨[.int .i64 (1 - (x.live : Int))], 3⟩ :: blk bf ⟨[ff], 52⟩ :: sl ff (bR (frameB P)) :: sl sv (mrow id 97 [.func (.func 41) #[] #[.pointer (some ⟨bj, 0, none⟩), .pointer (some ⟨bo, 0, none⟩)], .func (.func 43) #[] #[.pointer (some ⟨bj, 0, none⟩), .pointer (some ⟨bo, 0, none⟩), .pointer (some ⟨bf, 0, none⟩)], .func (.func 44) #[] #[.pointer (some ⟨bj, 0, none⟩), .pointer (some ⟨bo, 0, none⟩)], .func (.func 45) #[.pointer (some ⟨p, 0, none⟩)] #[], .func (.func 46) #[] #[.pointer (some ⟨bj, 0, none⟩), .pointer (some ⟨bo, 0, none⟩)]]) :: blk bk ⟨kC view normal base state ve', 28⟩ :: rom l :: F) (Lay.ent) ?_
    refine r_loopE (σ := Nat) (fun i => i ≤ 5) (fun i => 5 - i) (fun i => [(7, .v (.int .i64 (layG (1 - (x.live : Int)) (frameB P) x i).1)), (64, .v (.int .i64 (i : Int)))]) [2, 3, 62, 63] (fun i => pt p (layG (1 - (x.live : Int)) (frameB P) x i).2 :: blk bj ⟨[.pointer (some ⟨j, 0, none⟩)], 25⟩ :: blk j ⟨.pointer (some ⟨p, 0, none⟩) :: kC k.view k.normal k.base k.state ve, 74⟩ :: blk bo ⟨[.int .i64 (1 - (x.live : Int))], 3⟩ :: blk bf ⟨[ff], 52⟩ :: sl ff (bR (frameB P)) :: sl sv (mrow id 97 [.func (.func 41) #[] #[.pointer (some ⟨bj, 0, none⟩), .pointer (some ⟨bo, 0, none⟩)], .func (.func 43) #[] #[.pointer (some ⟨bj, 0, none⟩), .pointer (some ⟨bo, 0, none⟩), .pointer (some ⟨bf, 0, none⟩)], .func (.func 44) #[] #[.pointer (some ⟨bj, 0, none⟩), .pointer (some ⟨bo, 0, none⟩)], .func (.func 45) #[.pointer (some ⟨p, 0, none⟩)] #[], .func (.func 46) #[] #[.pointer (some ⟨bj, 0, none⟩), .pointer (some ⟨bo, 0, none⟩)]]) :: blk bk ⟨kC view normal base state ve', 28⟩ :: rom l :: F) 0 (by dsimp only [pickE, pick1, lk2, Nat.reduceBEq, Nat.reduceAdd, Nat.zero_add, cond_true, cond_false] <;> exact rfl) ?_ (by repeat (first | exact trivial | refine ⟨rfl, ?_⟩ | refine envsub_v rfl (by first | rfl | (refine int_eq ?_; first | omega | (simp; omega) | (simp; done)) | (refine bool_eq ?_; first | (simp [*]; done) | (simp; done)) | (refine str_eq ?_; simp; done) | (refine ptr_eq ?_; omega) | fail) ?_)) ?_ ?_
    · omega
    · exact Ent.refl _
    rintro i hi; (try dsimp only at hi); dsimp only [List.cons_append, List.nil_append]
    refine r_seq ?_
    refine r_region (id := 16) ?_
    refine o_give (g_bin (evv rfl) (evv rfl) (by rfl)) rfl rfl ?_
    refine o_nil ?_
    refine c_code ?_
    refine r_seq ?_
    refine r_cond rfl (fun hc => ?_) (fun hc => ?_) <;> (try simp only [decide_eq_true_eq, decide_eq_false_iff_not, Bool.and_eq_true, Bool.or_eq_true, Bool.not_eq_true', Bool.and_eq_false_iff, Bool.or_eq_false_iff, Bool.not_eq_false', Bool.not_eq_true, Bool.not_eq_false, Bool.true_eq_false, Bool.false_eq_true, Int.not_lt, Int.not_le, not_and, not_or, ne_eq] at hc)
    · simp only [List.length_cons, List.length_nil] at hc
      have hy := layG_ok hx (o := 1 - (x.live : Int)) (f := frameB P) (by omega) i
      obtain ⟨g, fs, cs, hco, hg, hfn⟩ := hstep i (by omega) (layG (1 - (x.live : Int)) (frameB P) x i).2 (sl sv (mrow id 97 [.func (.func 41) #[] #[.pointer (some ⟨bj, 0, none⟩), .pointer (some ⟨bo, 0, none⟩)], .func (.func 43) #[] #[.pointer (some ⟨bj, 0, none⟩), .pointer (some ⟨bo, 0, none⟩), .pointer (some ⟨bf, 0, none⟩)], .func (.func 44) #[] #[.pointer (some ⟨bj, 0, none⟩), .pointer (some ⟨bo, 0, none⟩)], .func (.func 45) #[.pointer (some ⟨p, 0, none⟩)] #[], .func (.func 46) #[] #[.pointer (some ⟨bj, 0, none⟩), .pointer (some ⟨bo, 0, none⟩)]]) :: blk bk ⟨kC view normal base state ve', 28⟩ :: rom l :: F) hy.1
      have hG : layG (1 - (x.live : Int)) (frameB P) x (i + 1) = if (layG (1 - (x.live : Int)) (frameB P) x i).1 = 0 then layS (1 - (x.live : Int)) (frameB P) i (layG (1 - (x.live : Int)) (frameB P) x i).2 else layG (1 - (x.live : Int)) (frameB P) x i := rfl
      refine r_skip ?_
      refine c_code ?_
      refine r_seq ?_
      refine r_block ?_
      refine r_seq ?_
      refine r_region (id := 17) ?_
      refine o_give (g_idxMN (evv rfl) (evv rfl) (by rfl) (by first | omega | (have := of_decide_eq_true hg; omega) | (simp at hg; omega) | (simp only [List.length_set, List.length_append, List.length_cons, List.length_nil, List.length_map, List.length_take, List.length_drop, List.length_replicate]; omega))) rfl rfl ?_
      refine o_give (g_loadM (evv rfl) (by rfl) (by first | omega | (have := of_decide_eq_true hg; omega) | (simp at hg; omega) | (simp only [List.length_set, List.length_append, List.length_cons, List.length_nil, List.length_map, List.length_take, List.length_drop, List.length_replicate]; omega))) rfl rfl ?_
      refine o_give (g_assign (evv rfl)) rfl rfl ?_
      refine o_nil ?_
      refine c_code ?_
      refine r_seq ?_
      rw [hg]
      refine r_region (id := 18) ?_
      refine o_give (g_move (evv rfl)) rfl rfl ?_
      refine o_give (g_bin (evv rfl) (evv rfl) (by rfl)) rfl rfl ?_
      refine o_nil ?_
      refine c_code ?_
      by_cases h0 : (layG (1 - (x.live : Int)) (frameB P) x i).1 = 0
      · rw [if_pos h0] at hG
        rw [h0]
        refine r_cond_true rfl ?_
        refine r_region (id := 19) ?_
        refine o_give (g_move (evv rfl)) rfl rfl ?_
        refine o_callV (co := hco) rfl rfl _ (Ent.refl _) hfn rfl ?_
        rintro _ _ ⟨rfl, rfl⟩
        rw [← hG]
        refine o_give (g_assign (evv rfl)) rfl rfl ?_
        refine o_nil ?_
        refine c_blk ?_
        refine c_code ?_
        refine r_region (id := 20) ?_
        refine o_giveN (g_bin (evv rfl) (evv rfl) (by rfl)) (by simp only [inR]; omega) rfl ?_
        refine o_give (g_move (evv rfl)) rfl rfl ?_
        refine o_nil ?_
        refine c_loop (i + 1) ?_ ?_ (by repeat (first | exact trivial | refine ⟨rfl, ?_⟩ | refine envsub_v rfl (by first | rfl | (refine int_eq ?_; first | omega | (simp; omega) | (simp; done)) | (refine bool_eq ?_; first | (simp [*]; done) | (simp; done)) | (refine str_eq ?_; simp; done) | (refine ptr_eq ?_; omega) | fail) ?_)) ?_ <;> (try dsimp only)
        · omega
        · omega
        · exact Ent.refl _
      · rw [if_neg h0] at hG
        refine r_cond rfl (fun g0 => ?_) (fun g0 => ?_) <;> (try simp only [decide_eq_true_eq, decide_eq_false_iff_not, Bool.and_eq_true, Bool.or_eq_true, Bool.not_eq_true', Bool.and_eq_false_iff, Bool.or_eq_false_iff, Bool.not_eq_false', Bool.not_eq_true, Bool.not_eq_false, Bool.true_eq_false, Bool.false_eq_true, Int.not_lt, Int.not_le, not_and, not_or, ne_eq] at g0)
        · exact absurd g0 h0
        · rw [← hG]
          refine r_skip ?_
          refine c_blk ?_
          refine c_code ?_
          refine r_region (id := 20) ?_
          refine o_giveN (g_bin (evv rfl) (evv rfl) (by rfl)) (by simp only [inR]; omega) rfl ?_
          refine o_give (g_move (evv rfl)) rfl rfl ?_
          refine o_nil ?_
          refine c_loop (i + 1) ?_ ?_ (by repeat (first | exact trivial | refine ⟨rfl, ?_⟩ | refine envsub_v rfl (by first | rfl | (refine int_eq ?_; first | omega | (simp; omega) | (simp; done)) | (refine bool_eq ?_; first | (simp [*]; done) | (simp; done)) | (refine str_eq ?_; simp; done) | (refine ptr_eq ?_; omega) | fail) ?_)) ?_ <;> (try dsimp only)
          · omega
          · omega
          · exact Ent.refl _
    · simp only [List.length_cons, List.length_nil] at hc
      obtain rfl : i = 5 := by omega
      generalize layG (1 - (x.live : Int)) (frameB P) x 5 = r at *
      obtain ⟨e, y⟩ := r
      dsimp only
      refine r_exit rfl ?_
      refine c_code ?_
      refine r_seq ?_
      refine r_seq ?_
      refine r_region (id := 21) ?_
      refine o_give (g_move (evv rfl)) rfl rfl ?_
      refine o_give (g_bin (evv rfl) (evv rfl) (by rfl)) rfl rfl ?_
      refine o_nil ?_
      refine c_code ?_
      by_cases h0 : e = 0
      · subst h0
        refine r_cond_true rfl ?_
        refine r_seq ?_
        refine r_region (id := 22) ?_
        refine o_give (g_load (evv rfl) (by rfl) (by rfl)) rfl rfl ?_
        refine o_give (g_loadF (evv rfl) (by rfl) (by rfl)) rfl rfl ?_
        refine o_give (g_nil (evv rfl)) rfl rfl ?_
        refine o_give (g_fld (evv rfl)) rfl rfl ?_
        refine o_storeA (evv rfl) (evv rfl) (by first | rfl | assumption | exact LenC.h _ | (simp [bys, *]; done) | fail) (by first | (intro _ _ _; exact bys_one _) | exact AllOne.h | (intro _ _ _ u hu; simp at hu; rcases hu with rfl | rfl | rfl | rfl | rfl | rfl | rfl | rfl <;> rfl) | fail) (by rfl) (by rfl) ?_
        refine o_nil ?_
        refine c_code ?_
        have hl2 : es.length ≤ 1048576 := hl
        repeat (first | refine r_seq ?_ | refine c_code ?_ | refine c_blk ?_ | refine r_block ?_ | refine r_skip ?_)
        refine r_held (id := 23) [blk bj ⟨[.pointer (some ⟨j, 0, none⟩)], 25⟩, blk bk ⟨kC view normal base state ve', 28⟩] Mixed.h ?_
        refine h_give (i := 0) (by kernel_rfl) rfl (g_load (evv rfl) (by rfl) (by rfl)) rfl rfl ?_
        refine h_give (i := 1) (by kernel_rfl) rfl (g_fld (evv rfl)) rfl rfl ?_
        refine h_give (i := 2) (by kernel_rfl) rfl (g_load (evv rfl) (by rfl) (by rfl)) rfl rfl ?_
        refine h_one (i := 3) (by kernel_rfl) rfl (Lay.ent) ?_
        (refine o_call rfl _ (Ent.refl _) (CoE_c _ _ _ (by first | assumption | omega | (simp only [List.length_take, List.length_drop]; omega))) rfl ?_; rintro _ _ rfl)
        refine o_nil ?_
        refine h_give (i := 4) (by kernel_rfl) rfl (g_nil (evv rfl)) rfl rfl ?_
        refine h_give (i := 5) (by kernel_rfl) rfl (g_fld (evv rfl)) rfl rfl ?_
        refine h_give (i := 6) (by kernel_rfl) rfl (g_fld (evv rfl)) rfl rfl ?_
        refine h_one (i := 7) (by kernel_rfl) rfl (Lay.ent) ?_
        refine o_store1 (evv rfl) (evv rfl) (by rfl) (by rfl) (by rfl) ?_
        refine o_nil ?_
        refine h_done (by kernel_rfl) (Lay.ent) ?_
        rename_i cv
        refine c_code ?_
        refine r_seq ?_
        refine r_region (id := 24) ?_
        refine o_give (g_move (evv rfl)) rfl rfl ?_
        refine o_give (g_assign (evv rfl)) rfl rfl ?_
        refine o_nil ?_
        refine c_code ?_
        first | refine r_ret (rs := [.tmp 4]) rfl rfl _ (((Lay.ent (L' := sl cv (entR es) :: rom l :: blk j ⟨.pointer (some ⟨p, 0, none⟩) :: kC view normal base state cv, 74⟩ :: pt p y :: F)).trans (Ent.romIn.trans (Ent.swap.trans jr_shut)))) ?_ | refine c_end (rs := [.tmp 4]) rfl rfl _ (((Lay.ent (L' := sl cv (entR es) :: rom l :: blk j ⟨.pointer (some ⟨p, 0, none⟩) :: kC view normal base state cv, 74⟩ :: pt p y :: F)).trans (Ent.romIn.trans (Ent.swap.trans jr_shut)))) ?_
        exact ⟨rfl, rfl⟩
      · rw [if_neg h0]
        refine r_cond rfl (fun g0 => ?_) (fun g0 => ?_) <;> (try simp only [decide_eq_true_eq, decide_eq_false_iff_not, Bool.and_eq_true, Bool.or_eq_true, Bool.not_eq_true', Bool.and_eq_false_iff, Bool.or_eq_false_iff, Bool.not_eq_false', Bool.not_eq_true, Bool.not_eq_false, Bool.true_eq_false, Bool.false_eq_true, Int.not_lt, Int.not_le, not_and, not_or, ne_eq] at g0)
        · exact absurd g0 h0
        · refine r_skip ?_
          refine c_code ?_
          refine r_seq ?_
          refine r_region (id := 24) ?_
          refine o_give (g_move (evv rfl)) rfl rfl ?_
          refine o_give (g_assign (evv rfl)) rfl rfl ?_
          refine o_nil ?_
          refine c_code ?_
          first | refine r_ret (rs := [.tmp 4]) rfl rfl _ (((Lay.ent (L' := blk j ⟨.pointer (some ⟨p, 0, none⟩) :: kC k.view k.normal k.base k.state ve, 74⟩ :: rom l :: pt p y :: F)).trans jr_shut)) ?_ | refine c_end (rs := [.tmp 4]) rfl rfl _ (((Lay.ent (L' := blk j ⟨.pointer (some ⟨p, 0, none⟩) :: kC k.view k.normal k.base k.state ve, 74⟩ :: rom l :: pt p y :: F)).trans jr_shut)) ?_
          exact ⟨rfl, rfl⟩
  · have hT : layT x k ⟨view, normal, base, state, es⟩ = (1, x, k) := if_pos hok
    rw [hT]
    simp only [if_neg hok]
    refine r_cond_true rfl ?_
    refine r_seq ?_
    refine r_region (id := 4) ?_
    refine o_give (g_assign (evv rfl)) rfl rfl ?_
    refine o_nil ?_
    refine c_code ?_
    first | refine r_ret (rs := [.tmp 4]) rfl rfl _ (((Lay.ent (L' := blk j ⟨.pointer (some ⟨p, 0, none⟩) :: kC k.view k.normal k.base k.state ve, 74⟩ :: rom l :: pt p x :: F)).trans jr_shut)) ?_ | refine c_end (rs := [.tmp 4]) rfl rfl _ (((Lay.ent (L' := blk j ⟨.pointer (some ⟨p, 0, none⟩) :: kC k.view k.normal k.base k.state ve, 74⟩ :: rom l :: pt p x :: F)).trans jr_shut)) ?_
    exact ⟨rfl, rfl⟩
theorem LayC_c (F : List Atom) (j p : Nat) (x : Pt) (k : KeptS) (view normal base : Int) (state : List UInt8) (es : List EntS) (ve' : Value) [rd : Rd F ve' (entR es)] (hx : x.ok) (hk : k.ok) (hf : k.fine) (hfe : ∀ e ∈ es, e.ok) (hl : es.length ≤ 1048576) (hst : state.length ≤ 140737488355000) (hs : sizeP x + 262152 ≤ 1000000000) :
    Fn Try.prog 13 [.pointer (some ⟨j, 0, none⟩), agg (kC view normal base state ve')] (jr j (p, k) :: pt p x :: F) fun w L' => w = .int .i64 (layT x k ⟨view, normal, base, state, es⟩).1 ∧ L' = jr j (p, (layT x k ⟨view, normal, base, state, es⟩).2.2) :: pt p (layT x k ⟨view, normal, base, state, es⟩).2.1 :: F := by
  refine Fn.exA fun ve => ?_
  haveI : Rd (rom [(ve, entR k.ents)] :: F) ve' (entR es) := rd.ent Ent.drop
  exact (Lay_c F j p x k ve [(ve, entR k.ents)] view normal base state es ve' hx hk hf hfe hl hst hs).pre (Ent.cons Ent.swap)
theorem Lay_nil (L : List Atom) (k : Value) : Fn Try.prog 13 [.pointer none, k] L fun w L' => w = .int .i64 7 ∧ L' = L := by
  refine fn_intro Try.func13 rfl Try.ntmps13 rfl (fun W0 => ?_)
  simp only [argE]
  refine r_seq ?_
  refine r_region (id := 0) ?_
  refine o_box1 (evv rfl) rfl (fun _ => ?_)
  refine o_box (evv rfl) rfl rfl (fun _ => ?_)
  refine o_give (g_assign (evv rfl)) rfl rfl ?_
  refine o_nil ?_
  refine c_code ?_
  refine r_seq ?_
  refine r_block ?_
  refine r_seq ?_
  refine r_region (id := 1) ?_
  refine o_give (g_load (evv rfl) (by rfl) (by rfl)) rfl rfl ?_
  refine o_give (g_pnil TyU.h (evv rfl) (evv rfl) (by simp) (by rfl)) rfl rfl ?_
  refine o_give (g_assign (evv rfl)) rfl rfl ?_
  refine o_nil ?_
  refine c_code ?_
  refine r_cond_true rfl ?_
  refine r_seq ?_
  refine r_region (id := 2) ?_
  refine o_give (g_assign (evv rfl)) rfl rfl ?_
  refine o_nil ?_
  refine c_code ?_
  first | refine r_ret (rs := [.tmp 4]) rfl rfl _ ((Lay.ent (L' := L))) ?_ | refine c_end (rs := [.tmp 4]) rfl rfl _ ((Lay.ent (L' := L))) ?_
  exact ⟨rfl, rfl⟩
end VK

namespace VK
open Go Go.Proofs
set_option linter.unusedSimpArgs false
set_option linter.unusedVariables false
set_option maxRecDepth 100000
set_option maxHeartbeats 40000000
theorem scan_len : ∀ (n : Nat) (b : List UInt8), b.length ≤ n → ∀ p ∈ (scanR b).1, p.length ≤ b.length
  | 0, b, h, p, hp => by
    have : b = [] := List.eq_nil_of_length_eq_zero (by omega)
    subst this
    rw [scan_stop next_nil] at hp
    cases hp
  | n + 1, b, h, p, hp => by
    by_cases h0 : (nextR b).2.2 = 0
    · rw [scan_go h0] at hp
      have hl := next_len h0
      rcases List.mem_cons.1 hp with rfl | hp
      · omega
      · have := scan_len n (b.drop (nextR b).2.1) (by rw [List.length_drop]; omega) p hp
        rw [List.length_drop] at this
        omega
    · rw [scan_stop h0] at hp
      cases hp
theorem foldsK_snoc {l : List (List UInt8)} {i : Nat} {k : KeptS} (h : i < l.length) (hk : foldsK zeroK (l.take i) = some k) : foldsK zeroK (l.take (i + 1)) = foldK k (l.getD i default) := by
  rw [List.take_succ_eq_append_getElem h, foldsK_app, hk]
  simp only [Option.bind_some, foldsK]
  rw [show l.getD i default = l[i] by simp [h]]
  cases foldK k l[i] <;> rfl
theorem foldsK_stop {l : List (List UInt8)} {i : Nat} (h : foldsK zeroK (l.take i) = none) : foldsK zeroK l = none := by
  conv => lhs; rw [← List.take_append_drop i l]
  rw [foldsK_app, h]
  rfl
theorem rom2 {a b : Value × Row} {l : List (Value × Row)} {L : List Atom} : Ent (rom (a :: b :: l) :: L) (rom (a :: l) :: L) := Ent.romSub fun h q => by
  unfold rom at *
  intro y hy
  rcases List.mem_cons.1 hy with rfl | hy
  · exact q _ (List.mem_cons_self ..)
  · exact q y (List.mem_cons_of_mem _ (List.mem_cons_of_mem _ hy))
def openV (e : Int) (jv : Value) (k : KeptS) (ve : Value) : Value := .tuple #[jv, agg (kC k.view k.normal k.base k.state ve), .int .i64 e]
theorem Open_c (F : List Atom) (p : Nat) (x : Pt) (hx : x.ok) (hs : sizeP x + 262152 ≤ 1000000000) :
    Fn Try.prog 10 [.pointer (some ⟨p, 0, none⟩)] (pt p x :: F) fun w L' => ((openT x).1 = 0 ∧ ∃ j ve, w = openV 0 (.pointer (some ⟨j, 0, none⟩)) (openT x).2.2 ve ∧ L' = sl ve (entR (openT x).2.2.ents) :: jr j (p, (openT x).2.2) :: pt p (openT x).2.1 :: F) ∨
      ((openT x).1 ≠ 0 ∧ w = openV (openT x).1 (.pointer none) zeroK (.slice none 0 0) ∧ L' = pt p (openT x).2.1 :: F) := by
  refine fn_intro Try.func10 rfl Try.ntmps10 rfl (fun W0 => ?_)
  simp only [argE]
  by_cases hd : x.down = true
  · have hT : openT x = (170, x, zeroK) := if_pos hd
    rw [hT]
    refine r_seq ?_
    refine r_region (id := 0) ?_
    refine o_give (g_assign (evv rfl)) rfl rfl ?_
    refine o_alloc rfl rfl (fun _ => ?_)
    refine o_give (g_assign (evv rfl)) rfl rfl ?_
    refine o_nil ?_
    refine c_code ?_
    refine r_seq ?_
    refine r_block ?_
    refine r_seq ?_
    refine r_region (id := 1) ?_
    refine o_give (g_move (evv rfl)) rfl rfl ?_
    refine o_give (g_pnil TyU.h (evv rfl) (evv rfl) (by simp) (by rfl)) rfl rfl ?_
    refine o_give (g_assign (evv rfl)) rfl rfl ?_
    refine o_nil ?_
    refine c_code ?_
    refine r_cond_false rfl ?_
    refine r_seq ?_
    refine r_region (id := 3) ?_
    refine o_give (g_move (evv rfl)) rfl rfl ?_
    (refine o_call rfl _ (PickR.ent (K := pt _)) (Down_c _ _ _) rfl ?_; rintro _ _ ⟨rfl, rfl⟩)
    refine o_give (g_assign (evv rfl)) rfl rfl ?_
    refine o_nil ?_
    refine c_code ?_
    simp only [hd]
    refine r_cond_true rfl ?_
    refine r_seq ?_
    refine r_region (id := 4) ?_
    refine o_give (v := agg [(Go.Value.int Go.IntKind.i64 0), (Go.Value.int Go.IntKind.i64 0), (Go.Value.int Go.IntKind.i64 0), (Go.Value.string { data := #[] }), (Go.Value.slice none 0 0)]) (g_buildC rfl (by rfl)) rfl rfl ?_
    refine o_give (g_assign (evv rfl)) rfl rfl ?_
    refine o_storeW (evv rfl) (evv rfl) (by first | rfl | assumption | exact LenC.h _ | (simp [bys, *]; done) | fail) (by first | (intro _ _ _; exact bys_one _) | exact AllOne.h | (intro _ _ _ u hu; simp at hu; rcases hu with rfl | rfl | rfl | rfl | rfl | rfl | rfl | rfl <;> rfl) | fail) (by first | rfl | exact (LenC.h _).trans rfl | exact (LenC.h _).trans (LenC.h _).symm | (simp [bys, *]; done) | (simp only [bys, List.length_map, *]; rfl) | fail) ?_
    refine o_give (g_assign (evv rfl)) rfl rfl ?_
    refine o_nil ?_
    refine c_code ?_
    first | refine r_retC (rs := [.tmp 2, .cell 3 28, .tmp 4]) rfl (ro_tmp rfl (by first | exact ro_agg rfl rfl (by first | rfl | exact LenC.h _ | (simp [bys, *]; done)) (ro_tmp rfl ro_nil) | exact ro_cell rfl rfl rfl (ro_tmp rfl ro_nil))) _ ((Lay.ent (L' := pt p x :: F))) ?_ | refine c_endC (rs := [.tmp 2, .cell 3 28, .tmp 4]) rfl (ro_tmp rfl (by first | exact ro_agg rfl rfl (by first | rfl | exact LenC.h _ | (simp [bys, *]; done)) (ro_tmp rfl ro_nil) | exact ro_cell rfl rfl rfl (ro_tmp rfl ro_nil))) _ ((Lay.ent (L' := pt p x :: F))) ?_
    exact .inr ⟨by decide, rfl, rfl⟩
  · have hd : x.down = false := by simpa using hd
    generalize hB : rdT x x.live = b
    have hN : foldsK zeroK (scanR b).1 = none → openT x = (180, x, zeroK) := fun h => by
      unfold openT
      rw [hd, if_neg (by decide), hB, h]
    have hS : ∀ k, foldsK zeroK (scanR b).1 = some k → openT x = if (scanR b).2 < b.length then ((layT x k k).1, (layT x k k).2.1, if (layT x k k).1 = 0 then k else zeroK) else (0, x, k) := fun k h => by
      unfold openT
      rw [hd, if_neg (by decide), hB, h]
    have hbl : b.length ≤ 1000000000 := by
      rw [← hB, rd_live hx]
      rcases hx.l with e | e <;> rw [e]
      · exact hx.n0
      · exact hx.n1
    refine r_seq ?_
    refine r_region (id := 0) ?_
    refine o_give (g_assign (evv rfl)) rfl rfl ?_
    refine o_alloc rfl rfl (fun _ => ?_)
    refine o_give (g_assign (evv rfl)) rfl rfl ?_
    refine o_nil ?_
    refine c_code ?_
    refine r_seq ?_
    refine r_block ?_
    refine r_seq ?_
    refine r_region (id := 1) ?_
    refine o_give (g_move (evv rfl)) rfl rfl ?_
    refine o_give (g_pnil TyU.h (evv rfl) (evv rfl) (by simp) (by rfl)) rfl rfl ?_
    refine o_give (g_assign (evv rfl)) rfl rfl ?_
    refine o_nil ?_
    refine c_code ?_
    refine r_cond_false rfl ?_
    refine r_seq ?_
    refine r_region (id := 3) ?_
    refine o_give (g_move (evv rfl)) rfl rfl ?_
    (refine o_call rfl _ (PickR.ent (K := pt _)) (Down_c _ _ _) rfl ?_; rintro _ _ ⟨rfl, rfl⟩)
    refine o_give (g_assign (evv rfl)) rfl rfl ?_
    refine o_nil ?_
    refine c_code ?_
    simp only [hd]
    refine r_cond_false rfl ?_
    refine r_skip ?_
    refine c_blk ?_
    refine c_code ?_
    refine r_seq ?_
    refine r_region (id := 5) ?_
    refine o_give (g_move (evv rfl)) rfl rfl ?_
    refine o_give (g_buildC rfl (by rfl)) rfl rfl ?_
    refine o_boxA (evv rfl) rfl (fun _ => ?_)
    refine o_give (g_assign (evv rfl)) rfl rfl ?_
    refine o_nil ?_
    refine c_code ?_
    refine r_seq ?_
    refine r_region (id := 6) ?_
    refine o_give (g_move (evv rfl)) rfl rfl ?_
    refine o_give (g_move (evv rfl)) rfl rfl ?_
    (refine o_call rfl _ (PickR.ent (K := pt _)) (Live_c _ _ _) rfl ?_; rintro _ _ ⟨rfl, rfl⟩)
    (refine o_call rfl _ (PickR.ent (K := pt _)) (pRead_c _ _ _ (by assumption) _) rfl ?_; rintro cw _ ⟨-, rfl⟩)
    refine o_give (g_assign (evv rfl)) rfl rfl ?_
    refine o_nil ?_
    refine c_code ?_
    refine r_seq ?_
    rw [hB]
    rename_i _ q j
    refine r_ent (blk j ⟨.pointer (some ⟨p, 0, none⟩) :: kC 0 0 0 [] (.slice none 0 0), 74⟩ :: blk q ⟨kC 0 0 0 [] (.slice none 0 0), 28⟩ :: sl cw (bR b) :: pt p x :: F) (Ent.trans (B := sl cw (bR b) :: pt p x :: blk j ⟨.pointer (some ⟨p, 0, none⟩) :: kC 0 0 0 [] (.slice none 0 0), 74⟩ :: blk q ⟨kC 0 0 0 [] (.slice none 0 0), 28⟩ :: F) (Ent.refl _) (Lay.ent)) ?_
    refine r_region (id := 7) ?_
    refine o_give (g_move (evv rfl)) rfl rfl ?_
    (refine o_call rfl _ (Ent.refl _) (Scan_c _ _ _ (by first | assumption | omega)) rfl ?_; rintro _ _ ⟨so, rs, rfl, hrs, rfl⟩)
    refine o_give (g_move (evv rfl)) rfl rfl ?_
    refine o_give (g_extract (evv rfl) (by rfl)) rfl rfl ?_
    refine o_give (g_extract (evv rfl) (by rfl)) rfl rfl ?_
    refine o_give (g_assign (evv rfl)) rfl rfl ?_
    refine o_give (g_assign (evv rfl)) rfl rfl ?_
    refine o_nil ?_
    refine c_code ?_
    refine r_seq ?_
    refine r_seq ?_
    refine r_region (id := 8) ?_
    refine o_give (g_move (evv rfl)) rfl rfl ?_
    refine o_give (g_lenM (evv rfl)) rfl rfl ?_
    refine o_give (g_move (evv rfl)) rfl rfl ?_
    refine o_nil ?_
    refine c_code ?_
    refine r_block ?_
    have hrl : rs.length = (scanR b).1.length := by rw [← hrs, List.length_map]
    refine r_ent (rom (((.slice none 0 0), entR []) :: pcR rs) :: sl so (mrow pcV 52 rs) :: blk j ⟨.pointer (some ⟨p, 0, none⟩) :: kC 0 0 0 [] (.slice none 0 0), 74⟩ :: blk q ⟨kC 0 0 0 [] (.slice none 0 0), 28⟩ :: sl cw (bR b) :: pt p x :: F) ((Ent.nilsl 50 8).trans ((Lay.ent (L' := sl (.slice none 0 0) ⟨50, 8, 0, []⟩ :: rom (pcR rs) :: sl so (mrow pcV 52 rs) :: blk j ⟨.pointer (some ⟨p, 0, none⟩) :: kC 0 0 0 [] (.slice none 0 0), 74⟩ :: blk q ⟨kC 0 0 0 [] (.slice none 0 0), 28⟩ :: sl cw (bR b) :: pt p x :: F)).trans Ent.romIn)) ?_
    refine r_lenM (f := pcV) (e := 52) (v := so) (l := rs) inferInstance fun hlm => ?_
    have hlm : rs.length ≤ 2 ^ 63 - 1 := hlm
    refine r_loopE (σ := Nat × KeptS × Value) (fun ⟨i, k, ve⟩ => i ≤ rs.length ∧ foldsK zeroK ((scanR b).1.take i) = some k) (fun ⟨i, k, ve⟩ => rs.length - i) (fun ⟨i, k, ve⟩ => [(36, .v (.int .i64 (i : Int)))]) [3, 5, 6, 8, 34, 35] (fun ⟨i, k, ve⟩ => rom ((ve, entR k.ents) :: pcR rs) :: sl so (mrow pcV 52 rs) :: blk j ⟨.pointer (some ⟨p, 0, none⟩) :: kC k.view k.normal k.base k.state ve, 74⟩ :: blk q ⟨kC 0 0 0 [] (.slice none 0 0), 28⟩ :: sl cw (bR b) :: pt p x :: F) (0, zeroK, .slice none 0 0) (by dsimp only [pickE, pick1, lk2, Nat.reduceBEq, Nat.reduceAdd, Nat.zero_add, cond_true, cond_false] <;> exact rfl) ?_ (by repeat (first | exact trivial | refine ⟨rfl, ?_⟩ | refine envsub_v rfl (by first | rfl | (refine int_eq ?_; first | omega | (simp; omega) | (simp; done)) | (refine bool_eq ?_; first | (simp [*]; done) | (simp; done)) | (refine str_eq ?_; simp; done) | (refine ptr_eq ?_; omega) | fail) ?_)) ?_ ?_
    · exact ⟨Nat.zero_le _, rfl⟩
    · exact Ent.refl _
    rintro ⟨i, k, ve⟩ ⟨hi, hI⟩; dsimp only [List.cons_append, List.nil_append]
    have hkk := foldsK_ok zeroK_ok hI
    have hkf := foldsK_fine zeroK_fine hI
    refine r_seq ?_
    refine r_region (id := 9) ?_
    refine o_give (g_bin (evv rfl) (evv rfl) (by rfl)) rfl rfl ?_
    refine o_nil ?_
    refine c_code ?_
    refine r_seq ?_
    refine r_cond rfl (fun hc => ?_) (fun hc => ?_) <;> (try simp only [decide_eq_true_eq, decide_eq_false_iff_not, Bool.and_eq_true, Bool.or_eq_true, Bool.not_eq_true', Bool.and_eq_false_iff, Bool.or_eq_false_iff, Bool.not_eq_false', Bool.not_eq_true, Bool.not_eq_false, Bool.true_eq_false, Bool.false_eq_true, Int.not_lt, Int.not_le, not_and, not_or, ne_eq] at hc)
    · have hi2 : i < rs.length := by omega
      have hmem : rs.getD i default ∈ rs := by rw [List.getD_eq_getElem?_getD, List.getElem?_eq_getElem hi2]; exact List.getElem_mem hi2
      haveI : InR (pcR rs) (pcV (rs.getD i default)) (bR (rs.getD i default).2) := pcR_in hmem
      have hpe : (scanR b).1.getD i default = (rs.getD i default).2 := by rw [← hrs]; simp [hi2]
      have hpl := scan_len b.length b (Nat.le_refl _) _ (show (rs.getD i default).2 ∈ (scanR b).1 by rw [← hrs]; exact List.mem_map_of_mem hmem)
      have hpl2 : (rs.getD i default).2.length ≤ 140737488355000 := by omega
      have hsn := foldsK_snoc (by rw [← hrl]; exact hi2) hI
      rw [hpe] at hsn
      have hkf2 : ∀ e ∈ k.ents, e.ok := hkf
      have hkk2 : KeptS.ok ⟨k.view, k.normal, k.base, k.state, k.ents⟩ := hkk
      refine r_skip ?_
      refine c_code ?_
      refine r_seq ?_
      refine r_block ?_
      refine r_seq ?_
      refine r_region (id := 10) ?_
      refine o_give (g_idxMN (evv rfl) (evv rfl) (by rfl) (by first | omega | (have := of_decide_eq_true hg; omega) | (simp at hg; omega) | (simp only [List.length_set, List.length_append, List.length_cons, List.length_nil, List.length_map, List.length_take, List.length_drop, List.length_replicate]; omega))) rfl rfl ?_
      refine o_give (g_loadM (evv rfl) (by rfl) (by first | omega | (have := of_decide_eq_true hg; omega) | (simp at hg; omega) | (simp only [List.length_set, List.length_append, List.length_cons, List.length_nil, List.length_map, List.length_take, List.length_drop, List.length_replicate]; omega))) rfl rfl ?_
      refine o_give (g_assign (evv rfl)) rfl rfl ?_
      refine o_nil ?_
      refine c_code ?_
      refine r_seq ?_
      refine r_region (id := 11) ?_
      refine o_give (g_move (evv rfl)) rfl rfl ?_
      refine o_give (g_nil (evv rfl)) rfl rfl ?_
      refine o_give (g_fld (evv rfl)) rfl rfl ?_
      refine o_give (g_loadF (evv rfl) (by rfl) (by rfl)) rfl rfl ?_
      refine o_give (g_move (evv rfl)) rfl rfl ?_
      (refine o_call rfl _ (PickR.ent (K := rom)) (fold_c _ _ _ _ _ _ _ _ _ _ (by first | assumption | omega) (by assumption) (by assumption)) rfl ?_; rintro _ _ ⟨fv, rfl, rfl⟩; simp only [foldV'])
      refine o_give (g_move (evv rfl)) rfl rfl ?_
      refine o_give (g_extract (evv rfl) (by rfl)) rfl rfl ?_
      refine o_give (g_extract (evv rfl) (by rfl)) rfl rfl ?_
      refine o_alloc rfl rfl (fun _ => ?_)
      refine o_storeW (evv rfl) (evv rfl) (by first | rfl | assumption | exact LenC.h _ | (simp [bys, *]; done) | fail) (by first | (intro _ _ _; exact bys_one _) | exact AllOne.h | (intro _ _ _ u hu; simp at hu; rcases hu with rfl | rfl | rfl | rfl | rfl | rfl | rfl | rfl <;> rfl) | fail) (by first | rfl | exact (LenC.h _).trans rfl | exact (LenC.h _).trans (LenC.h _).symm | (simp [bys, *]; done) | (simp only [bys, List.length_map, *]; rfl) | fail) ?_
      refine o_give (g_assign (evv rfl)) rfl rfl ?_
      refine o_nil ?_
      refine c_code ?_
      refine r_seq ?_
      refine r_seq ?_
      generalize hr : foldK k (rs.getD i default).2 = r at *
      rename_i c1
      cases r with
      | none =>
        have hT := hN (foldsK_stop (hsn.trans rfl))
        rw [hT]
        refine r_region (id := 12) ?_
        refine o_give (g_move (evv rfl)) rfl rfl ?_
        refine o_give (g_not (evv rfl)) rfl rfl ?_
        refine o_nil ?_
        refine c_code ?_
        refine r_cond_true rfl ?_
        refine r_seq ?_
        refine r_region (id := 13) ?_
        refine o_give (v := agg [(Go.Value.int Go.IntKind.i64 0), (Go.Value.int Go.IntKind.i64 0), (Go.Value.int Go.IntKind.i64 0), (Go.Value.string { data := #[] }), (Go.Value.slice none 0 0)]) (g_buildC rfl (by rfl)) rfl rfl ?_
        refine o_give (g_assign (evv rfl)) rfl rfl ?_
        refine o_storeW (evv rfl) (evv rfl) (by first | rfl | assumption | exact LenC.h _ | (simp [bys, *]; done) | fail) (by first | (intro _ _ _; exact bys_one _) | exact AllOne.h | (intro _ _ _ u hu; simp at hu; rcases hu with rfl | rfl | rfl | rfl | rfl | rfl | rfl | rfl <;> rfl) | fail) (by first | rfl | exact (LenC.h _).trans rfl | exact (LenC.h _).trans (LenC.h _).symm | (simp [bys, *]; done) | (simp only [bys, List.length_map, *]; rfl) | fail) ?_
        refine o_give (g_assign (evv rfl)) rfl rfl ?_
        refine o_nil ?_
        refine c_code ?_
        first | refine r_retC (rs := [.tmp 2, .cell 3 28, .tmp 4]) rfl (ro_tmp rfl (by first | exact ro_agg rfl rfl (by first | rfl | exact LenC.h _ | (simp [bys, *]; done)) (ro_tmp rfl ro_nil) | exact ro_cell rfl rfl rfl (ro_tmp rfl ro_nil))) _ ((Lay.ent (L' := pt p x :: F))) ?_ | refine c_endC (rs := [.tmp 2, .cell 3 28, .tmp 4]) rfl (ro_tmp rfl (by first | exact ro_agg rfl rfl (by first | rfl | exact LenC.h _ | (simp [bys, *]; done)) (ro_tmp rfl ro_nil) | exact ro_cell rfl rfl rfl (ro_tmp rfl ro_nil))) _ ((Lay.ent (L' := pt p x :: F))) ?_
        exact .inr ⟨(show (180 : Int) ≠ 0 by decide), rfl, rfl⟩
      | some k' =>
        simp only [Option.getD_some, Option.isSome_some]
        refine r_region (id := 12) ?_
        refine o_give (g_move (evv rfl)) rfl rfl ?_
        refine o_give (g_not (evv rfl)) rfl rfl ?_
        refine o_nil ?_
        refine c_code ?_
        refine r_cond_false rfl ?_
        refine r_skip ?_
        refine c_code ?_
        refine r_region (id := 14) ?_
        refine o_give (g_move (evv rfl)) rfl rfl ?_
        refine o_give (g_loadF (evv rfl) (by rfl) (by rfl)) rfl rfl ?_
        refine o_give (g_nil (evv rfl)) rfl rfl ?_
        refine o_give (g_fld (evv rfl)) rfl rfl ?_
        refine o_storeA (evv rfl) (evv rfl) (by first | rfl | assumption | exact LenC.h _ | (simp [bys, *]; done) | fail) (by first | (intro _ _ _; exact bys_one _) | exact AllOne.h | (intro _ _ _ u hu; simp at hu; rcases hu with rfl | rfl | rfl | rfl | rfl | rfl | rfl | rfl <;> rfl) | fail) (by rfl) (by rfl) ?_
        refine o_nil ?_
        refine c_blk ?_
        refine c_code ?_
        refine r_region (id := 15) ?_
        refine o_giveN (g_bin (evv rfl) (evv rfl) (by rfl)) (by simp only [inR]; omega) rfl ?_
        refine o_give (g_move (evv rfl)) rfl rfl ?_
        refine o_nil ?_
        refine c_loop (i + 1, k', fv) ?_ ?_ (by repeat (first | exact trivial | refine ⟨rfl, ?_⟩ | refine envsub_v rfl (by first | rfl | (refine int_eq ?_; first | omega | (simp; omega) | (simp; done)) | (refine bool_eq ?_; first | (simp [*]; done) | (simp; done)) | (refine str_eq ?_; simp; done) | (refine ptr_eq ?_; omega) | fail) ?_)) ?_ <;> (try dsimp only)
        · exact ⟨by omega, hsn⟩
        · omega
        · exact (Lay.ent (L' := rom ((fv, entR k'.ents) :: (ve, entR k.ents) :: pcR rs) :: sl so (mrow pcV 52 rs) :: blk j ⟨.pointer (some ⟨p, 0, none⟩) :: kC k'.view k'.normal k'.base k'.state fv, 74⟩ :: blk q ⟨kC 0 0 0 [] (.slice none 0 0), 28⟩ :: sl cw (bR b) :: pt p x :: F)).trans rom2
    · obtain rfl : i = rs.length := by omega
      rw [hrl, List.take_length] at hI
      have hT := hS k hI
      have hkf2 : ∀ e ∈ k.ents, e.ok := hkf
      have hk32 : k.ents.length ≤ 1048576 := by have := hkk.2.2.2.2.2.2.2.2.2.1; omega
      have hst : k.state.length ≤ 140737488355000 := by have := hkk.2.2.2.2.2.2.2.1; omega
      refine r_exit rfl ?_
      refine c_code ?_
      refine r_seq ?_
      refine r_seq ?_
      refine r_region (id := 16) ?_
      refine o_give (g_move (evv rfl)) rfl rfl ?_
      refine o_give (g_move (evv rfl)) rfl rfl ?_
      refine o_give (g_lenM (evv rfl)) rfl rfl ?_
      refine o_give (g_bin (evv rfl) (evv rfl) (by rfl)) rfl rfl ?_
      refine o_nil ?_
      refine c_code ?_
      refine r_cond rfl (fun hlt => ?_) (fun hlt => ?_) <;> (try simp only [decide_eq_true_eq, decide_eq_false_iff_not, Bool.and_eq_true, Bool.or_eq_true, Bool.not_eq_true', Bool.and_eq_false_iff, Bool.or_eq_false_iff, Bool.not_eq_false', Bool.not_eq_true, Bool.not_eq_false, Bool.true_eq_false, Bool.false_eq_true, Int.not_lt, Int.not_le, not_and, not_or, ne_eq] at hlt)
      · rw [if_pos (by omega)] at hT
        have hlk : (layT x k k).2.2.ok := (layT_fine (x := x) (k0 := k) (k := k) ⟨hkf, hkk⟩ hkf).2
        refine r_seq ?_
        refine r_region (id := 17) ?_
        refine o_give (g_move (evv rfl)) rfl rfl ?_
        refine o_give (g_move (evv rfl)) rfl rfl ?_
        refine o_give (g_nil (evv rfl)) rfl rfl ?_
        refine o_give (g_fld (evv rfl)) rfl rfl ?_
        refine o_give (g_loadF (evv rfl) (by rfl) (by rfl)) rfl rfl ?_
        refine o_call rfl _ (Lay.ent (L' := blk j ⟨.pointer (some ⟨p, 0, none⟩) :: kC k.view k.normal k.base k.state ve, 74⟩ :: pt p x :: rom ((ve, entR k.ents) :: pcR rs) :: blk q ⟨kC 0 0 0 [] (.slice none 0 0), 28⟩ :: F)) (Lay_c _ j p x k ve _ k.view k.normal k.base k.state k.ents ve hx hkk hkf hkf2 hk32 hst hs) rfl ?_
        rintro _ _ ⟨rfl, rfl⟩
        change Ops _ _ _ _ ((_, EV.v (Value.int IntKind.i64 (layT x k k).1)) :: _) (jr j (p, (layT x k k).2.2) :: pt p (layT x k k).2.1 :: _)
        have hK0 : (layT x k k).1 = 0 → (layT x k k).2.2 = k := fun h => by
          unfold layT at h ⊢
          split
          · rfl
          · split <;> rfl
        rcases hR : layT x k k with ⟨e, y, kk⟩
        rw [hR] at hT hlk hK0
        dsimp only at hT hlk hK0 ⊢
        refine o_give (g_assign (evv rfl)) rfl rfl ?_
        refine o_nil ?_
        refine c_code ?_
        refine r_seq ?_
        refine r_region (id := 18) ?_
        refine o_give (g_move (evv rfl)) rfl rfl ?_
        refine o_give (g_bin (evv rfl) (evv rfl) (by rfl)) rfl rfl ?_
        refine o_nil ?_
        refine c_code ?_
        by_cases he : e = 0
        · obtain rfl := he
          obtain rfl := hK0 rfl
          rw [if_pos rfl] at hT
          rw [hT]
          refine r_cond_false rfl ?_
          refine r_skip ?_
          refine c_code ?_
          refine r_seq ?_
          refine r_region (id := 20) ?_
          refine o_give (g_move (evv rfl)) rfl rfl ?_
          refine o_give (g_move (evv rfl)) rfl rfl ?_
          (refine o_call rfl _ (PickR.ent (K := jr _)) (Kept_c _ _ _ _ (by assumption)) rfl ?_; rintro _ _ ⟨kv, rfl, rfl⟩)
          refine o_give (g_assign (evv rfl)) rfl rfl ?_
          refine o_storeW (evv rfl) (evv rfl) (by first | rfl | assumption | exact LenC.h _ | (simp [bys, *]; done) | fail) (by first | (intro _ _ _; exact bys_one _) | exact AllOne.h | (intro _ _ _ u hu; simp at hu; rcases hu with rfl | rfl | rfl | rfl | rfl | rfl | rfl | rfl <;> rfl) | fail) (by first | rfl | exact (LenC.h _).trans rfl | exact (LenC.h _).trans (LenC.h _).symm | (simp [bys, *]; done) | (simp only [bys, List.length_map, *]; rfl) | fail) ?_
          refine o_give (g_assign (evv rfl)) rfl rfl ?_
          refine o_nil ?_
          refine c_code ?_
          first | refine r_retC (rs := [.tmp 2, .cell 3 28, .tmp 4]) rfl (ro_tmp rfl (by first | exact ro_agg rfl rfl (by first | rfl | exact LenC.h _ | (simp [bys, *]; done)) (ro_tmp rfl ro_nil) | exact ro_cell rfl rfl rfl (ro_tmp rfl ro_nil))) _ ((Lay.ent (L' := sl kv (entR kk.ents) :: jr j (p, kk) :: pt p y :: F))) ?_ | refine c_endC (rs := [.tmp 2, .cell 3 28, .tmp 4]) rfl (ro_tmp rfl (by first | exact ro_agg rfl rfl (by first | rfl | exact LenC.h _ | (simp [bys, *]; done)) (ro_tmp rfl ro_nil) | exact ro_cell rfl rfl rfl (ro_tmp rfl ro_nil))) _ ((Lay.ent (L' := sl kv (entR kk.ents) :: jr j (p, kk) :: pt p y :: F))) ?_
          exact .inl ⟨rfl, j, kv, rfl, rfl⟩
        · rw [if_neg he] at hT
          rw [hT]
          refine r_cond rfl (fun hg => ?_) (fun hg => ?_) <;> (try simp only [decide_eq_true_eq, decide_eq_false_iff_not, Bool.and_eq_true, Bool.or_eq_true, Bool.not_eq_true', Bool.and_eq_false_iff, Bool.or_eq_false_iff, Bool.not_eq_false', Bool.not_eq_true, Bool.not_eq_false, Bool.true_eq_false, Bool.false_eq_true, Int.not_lt, Int.not_le, not_and, not_or, ne_eq] at hg)
          · refine r_seq ?_
            refine r_region (id := 19) ?_
            refine o_give (v := agg [(Go.Value.int Go.IntKind.i64 0), (Go.Value.int Go.IntKind.i64 0), (Go.Value.int Go.IntKind.i64 0), (Go.Value.string { data := #[] }), (Go.Value.slice none 0 0)]) (g_buildC rfl (by rfl)) rfl rfl ?_
            refine o_give (g_move (evv rfl)) rfl rfl ?_
            refine o_give (g_assign (evv rfl)) rfl rfl ?_
            refine o_storeW (evv rfl) (evv rfl) (by first | rfl | assumption | exact LenC.h _ | (simp [bys, *]; done) | fail) (by first | (intro _ _ _; exact bys_one _) | exact AllOne.h | (intro _ _ _ u hu; simp at hu; rcases hu with rfl | rfl | rfl | rfl | rfl | rfl | rfl | rfl <;> rfl) | fail) (by first | rfl | exact (LenC.h _).trans rfl | exact (LenC.h _).trans (LenC.h _).symm | (simp [bys, *]; done) | (simp only [bys, List.length_map, *]; rfl) | fail) ?_
            refine o_give (g_assign (evv rfl)) rfl rfl ?_
            refine o_nil ?_
            refine c_code ?_
            first | refine r_retC (rs := [.tmp 2, .cell 3 28, .tmp 4]) rfl (ro_tmp rfl (by first | exact ro_agg rfl rfl (by first | rfl | exact LenC.h _ | (simp [bys, *]; done)) (ro_tmp rfl ro_nil) | exact ro_cell rfl rfl rfl (ro_tmp rfl ro_nil))) _ ((Lay.ent (L' := pt p y :: F))) ?_ | refine c_endC (rs := [.tmp 2, .cell 3 28, .tmp 4]) rfl (ro_tmp rfl (by first | exact ro_agg rfl rfl (by first | rfl | exact LenC.h _ | (simp [bys, *]; done)) (ro_tmp rfl ro_nil) | exact ro_cell rfl rfl rfl (ro_tmp rfl ro_nil))) _ ((Lay.ent (L' := pt p y :: F))) ?_
            exact .inr ⟨he, rfl, rfl⟩
          · exact absurd hg he
      · rw [if_neg (by omega)] at hT
        rw [hT]
        refine r_ent (jr j (p, k) :: pt p x :: blk q ⟨kC 0 0 0 [] (.slice none 0 0), 28⟩ :: F) ((Lay.ent (L' := blk j ⟨.pointer (some ⟨p, 0, none⟩) :: kC k.view k.normal k.base k.state ve, 74⟩ :: rom ((ve, entR k.ents) :: pcR rs) :: pt p x :: blk q ⟨kC 0 0 0 [] (.slice none 0 0), 28⟩ :: F)).trans jr_shut) ?_
        refine r_skip ?_
        refine c_code ?_
        refine r_seq ?_
        refine r_region (id := 20) ?_
        refine o_give (g_move (evv rfl)) rfl rfl ?_
        refine o_give (g_move (evv rfl)) rfl rfl ?_
        (refine o_call rfl _ (PickR.ent (K := jr _)) (Kept_c _ _ _ _ (by assumption)) rfl ?_; rintro _ _ ⟨kv, rfl, rfl⟩)
        refine o_give (g_assign (evv rfl)) rfl rfl ?_
        refine o_storeW (evv rfl) (evv rfl) (by first | rfl | assumption | exact LenC.h _ | (simp [bys, *]; done) | fail) (by first | (intro _ _ _; exact bys_one _) | exact AllOne.h | (intro _ _ _ u hu; simp at hu; rcases hu with rfl | rfl | rfl | rfl | rfl | rfl | rfl | rfl <;> rfl) | fail) (by first | rfl | exact (LenC.h _).trans rfl | exact (LenC.h _).trans (LenC.h _).symm | (simp [bys, *]; done) | (simp only [bys, List.length_map, *]; rfl) | fail) ?_
        refine o_give (g_assign (evv rfl)) rfl rfl ?_
        refine o_nil ?_
        refine c_code ?_
        first | refine r_retC (rs := [.tmp 2, .cell 3 28, .tmp 4]) rfl (ro_tmp rfl (by first | exact ro_agg rfl rfl (by first | rfl | exact LenC.h _ | (simp [bys, *]; done)) (ro_tmp rfl ro_nil) | exact ro_cell rfl rfl rfl (ro_tmp rfl ro_nil))) _ ((Lay.ent (L' := sl kv (entR k.ents) :: jr j (p, k) :: pt p x :: F))) ?_ | refine c_endC (rs := [.tmp 2, .cell 3 28, .tmp 4]) rfl (ro_tmp rfl (by first | exact ro_agg rfl rfl (by first | rfl | exact LenC.h _ | (simp [bys, *]; done)) (ro_tmp rfl ro_nil) | exact ro_cell rfl rfl rfl (ro_tmp rfl ro_nil))) _ ((Lay.ent (L' := sl kv (entR k.ents) :: jr j (p, k) :: pt p x :: F))) ?_
        exact .inl ⟨rfl, j, kv, rfl, rfl⟩
theorem Open_nil (F : List Atom) : Fn Try.prog 10 [.pointer none] F fun w L' => w = openV 7 (.pointer none) zeroK (.slice none 0 0) ∧ L' = F := by
  refine fn_intro Try.func10 rfl Try.ntmps10 rfl (fun W0 => ?_)
  simp only [argE]
  refine r_seq ?_
  refine r_region (id := 0) ?_
  refine o_give (g_assign (evv rfl)) rfl rfl ?_
  refine o_alloc rfl rfl (fun _ => ?_)
  refine o_give (g_assign (evv rfl)) rfl rfl ?_
  refine o_nil ?_
  refine c_code ?_
  refine r_seq ?_
  refine r_block ?_
  refine r_seq ?_
  refine r_region (id := 1) ?_
  refine o_give (g_move (evv rfl)) rfl rfl ?_
  refine o_give (g_pnil TyU.h (evv rfl) (evv rfl) (by simp) (by rfl)) rfl rfl ?_
  refine o_give (g_assign (evv rfl)) rfl rfl ?_
  refine o_nil ?_
  refine c_code ?_
  refine r_cond_true rfl ?_
  refine r_seq ?_
  refine r_region (id := 2) ?_
  refine o_give (v := agg [(Go.Value.int Go.IntKind.i64 0), (Go.Value.int Go.IntKind.i64 0), (Go.Value.int Go.IntKind.i64 0), (Go.Value.string { data := #[] }), (Go.Value.slice none 0 0)]) (g_buildC rfl (by rfl)) rfl rfl ?_
  refine o_give (g_assign (evv rfl)) rfl rfl ?_
  refine o_storeW (evv rfl) (evv rfl) (by first | rfl | assumption | exact LenC.h _ | (simp [bys, *]; done) | fail) (by first | (intro _ _ _; exact bys_one _) | exact AllOne.h | (intro _ _ _ u hu; simp at hu; rcases hu with rfl | rfl | rfl | rfl | rfl | rfl | rfl | rfl <;> rfl) | fail) (by first | rfl | exact (LenC.h _).trans rfl | exact (LenC.h _).trans (LenC.h _).symm | (simp [bys, *]; done) | (simp only [bys, List.length_map, *]; rfl) | fail) ?_
  refine o_give (g_assign (evv rfl)) rfl rfl ?_
  refine o_nil ?_
  refine c_code ?_
  first | refine r_retC (rs := [.tmp 2, .cell 3 28, .tmp 4]) rfl (ro_tmp rfl (by first | exact ro_agg rfl rfl (by first | rfl | exact LenC.h _ | (simp [bys, *]; done)) (ro_tmp rfl ro_nil) | exact ro_cell rfl rfl rfl (ro_tmp rfl ro_nil))) _ ((Lay.ent (L' := F))) ?_ | refine c_endC (rs := [.tmp 2, .cell 3 28, .tmp 4]) rfl (ro_tmp rfl (by first | exact ro_agg rfl rfl (by first | rfl | exact LenC.h _ | (simp [bys, *]; done)) (ro_tmp rfl ro_nil) | exact ro_cell rfl rfl rfl (ro_tmp rfl ro_nil))) _ ((Lay.ent (L' := F))) ?_
  exact ⟨rfl, rfl⟩
theorem Open_ok (F : List Atom) (p : Nat) (x : Pt) (k : KeptS) (y : Pt) (hx : x.ok) (hs : sizeP x + 262152 ≤ 1000000000) (ho : openT x = (0, y, k)) :
    Fn Try.prog 10 [.pointer (some ⟨p, 0, none⟩)] (pt p x :: F) fun w L' => ∃ j ve, w = openV 0 (.pointer (some ⟨j, 0, none⟩)) k ve ∧ L' = sl ve (entR k.ents) :: jr j (p, k) :: pt p y :: F := (Open_c F p x hx hs).mono fun v L' h => by
  rw [ho] at h
  rcases h with ⟨_, h⟩ | ⟨h, _⟩
  · exact h
  · exact absurd rfl h
end VK

namespace VK
open Go Go.Proofs
set_option linter.unusedSimpArgs false
set_option linter.unusedVariables false
set_option maxRecDepth 100000
set_option maxHeartbeats 40000000
theorem SameEntriesG_c (L : List Atom) (va vb : Value) (as1 bs : List EntS) [ra : Rd L va (entR as1)] [rb : Rd L vb (entR bs)] : Fn Try.prog 48 [va, vb] L fun w L' => w = .bool (decide (as1 = bs)) ∧ L' = L := by
  refine fn_lenF ra fun hlen => ?_
  have hlen : as1.length ≤ 2 ^ 63 - 1 := hlen
  refine fn_intro Try.func48 rfl Try.ntmps48 rfl (fun W0 => ?_)
  simp only [argE]
  refine r_seq ?_
  refine r_region (id := 0) ?_
  refine o_give (g_assign (evv rfl)) rfl rfl ?_
  refine o_nil ?_
  refine c_code ?_
  refine r_seq ?_
  refine r_seq ?_
  refine r_region (id := 1) ?_
  refine o_give (g_move (evv rfl)) rfl rfl ?_
  refine o_give (g_lenF (evv rfl)) rfl rfl ?_
  refine o_give (g_move (evv rfl)) rfl rfl ?_
  refine o_give (g_lenF (evv rfl)) rfl rfl ?_
  refine o_give (g_bin (evv rfl) (evv rfl) (by rfl)) rfl rfl ?_
  refine o_nil ?_
  refine c_code ?_
  refine r_cond rfl (fun hn => ?_) (fun hn => ?_) <;> (try simp only [decide_eq_true_eq, decide_eq_false_iff_not, Bool.and_eq_true, Bool.or_eq_true, Bool.not_eq_true', Bool.and_eq_false_iff, Bool.or_eq_false_iff, Bool.not_eq_false', Bool.not_eq_true, Bool.not_eq_false, Bool.true_eq_false, Bool.false_eq_true, Int.not_lt, Int.not_le, not_and, not_or, ne_eq] at hn)
  · rw [decide_eq_false (fun h : as1 = bs => hn (by rw [h]))]
    refine r_seq ?_
    refine r_region (id := 2) ?_
    refine o_give (g_assign (evv rfl)) rfl rfl ?_
    refine o_nil ?_
    refine c_code ?_
    first | refine r_ret (rs := [.tmp 4]) rfl rfl _ (Ent.refl _) ?_ | refine c_end (rs := [.tmp 4]) rfl rfl _ (Ent.refl _) ?_
    exact ⟨rfl, rfl⟩
  · have hn : as1.length = bs.length := by omega
    refine r_skip ?_
    refine c_code ?_
    refine r_seq ?_
    refine r_seq ?_
    refine r_region (id := 3) ?_
    refine o_give (g_assign (evv rfl)) rfl rfl ?_
    refine o_nil ?_
    refine c_code ?_
    refine r_block ?_
    refine r_loopE (σ := Nat) (fun i => i ≤ as1.length ∧ as1.take i = bs.take i) (fun i => as1.length - i) (fun i => [(5, .v (.int .i64 i))]) [0, 1] (fun i => L) 0 (by dsimp only [pickE, pick1, lk2, Nat.reduceBEq, Nat.reduceAdd, Nat.zero_add, cond_true, cond_false] <;> exact rfl) ?_ (by repeat (first | exact trivial | refine ⟨rfl, ?_⟩ | refine envsub_v rfl (by first | rfl | (refine int_eq ?_; first | omega | (simp; omega) | (simp; done)) | (refine bool_eq ?_; first | (simp [*]; done) | (simp; done)) | (refine str_eq ?_; simp; done) | (refine ptr_eq ?_; omega) | fail) ?_)) ?_ ?_
    · exact ⟨Nat.zero_le _, rfl⟩
    · exact Ent.refl _
    rintro i ⟨hi, hI⟩; dsimp only [List.cons_append, List.nil_append]
    refine r_seq ?_
    refine r_seq ?_
    refine r_region (id := 4) ?_
    refine o_give (g_move (evv rfl)) rfl rfl ?_
    refine o_give (g_move (evv rfl)) rfl rfl ?_
    refine o_give (g_lenF (evv rfl)) rfl rfl ?_
    refine o_give (g_bin (evv rfl) (evv rfl) (by rfl)) rfl rfl ?_
    refine o_nil ?_
    refine c_code ?_
    refine r_cond rfl (fun hc => ?_) (fun hc => ?_) <;> (try simp only [decide_eq_true_eq, decide_eq_false_iff_not, Bool.and_eq_true, Bool.or_eq_true, Bool.not_eq_true', Bool.and_eq_false_iff, Bool.or_eq_false_iff, Bool.not_eq_false', Bool.not_eq_true, Bool.not_eq_false, Bool.true_eq_false, Bool.false_eq_true, Int.not_lt, Int.not_le, not_and, not_or, ne_eq] at hc)
    · have h1 : i < as1.length := by omega
      have h2 : i < bs.length := by omega
      have ga : as1.getD i default = as1[i] := by simp [h1]
      have gb : bs.getD i default = bs[i] := by simp [h2]
      refine r_skip ?_
      refine c_code ?_
      refine r_seq ?_
      refine r_block ?_
      refine r_seq ?_
      refine r_quiet (id := 6) Mixed.h (by kernel_rfl) ?_
      refine q_give (g_move (evv rfl)) rfl rfl ?_
      refine q_give (g_move (evv rfl)) rfl rfl ?_
      refine q_give (g_idxFN (evv rfl) (evv rfl) (by rfl) (by rfl) (by first | omega | (have := of_decide_eq_true hg; omega) | (simp at hg; omega) | (simp only [List.length_set, List.length_append, List.length_cons, List.length_nil, List.length_map, List.length_take, List.length_drop, List.length_replicate]; omega))) rfl rfl ?_
      refine q_give (g_loadFr (evv rfl) (by rfl) (by first | (intro; rfl) | exact LenC.h) (by rfl) (by rfl) (by first | omega | (have := of_decide_eq_true hg; omega) | (simp at hg; omega) | (simp only [List.length_set, List.length_append, List.length_cons, List.length_nil, List.length_map, List.length_take, List.length_drop, List.length_replicate]; omega))) rfl rfl ?_
      refine q_give (g_move (evv rfl)) rfl rfl ?_
      refine q_give (g_move (evv rfl)) rfl rfl ?_
      refine q_give (g_idxFN (evv rfl) (evv rfl) (by rfl) (by rfl) (by first | omega | (have := of_decide_eq_true hg; omega) | (simp at hg; omega) | (simp only [List.length_set, List.length_append, List.length_cons, List.length_nil, List.length_map, List.length_take, List.length_drop, List.length_replicate]; omega))) rfl rfl ?_
      refine q_give (g_loadFr (evv rfl) (by rfl) (by first | (intro; rfl) | exact LenC.h) (by rfl) (by rfl) (by first | omega | (have := of_decide_eq_true hg; omega) | (simp at hg; omega) | (simp only [List.length_set, List.length_append, List.length_cons, List.length_nil, List.length_map, List.length_take, List.length_drop, List.length_replicate]; omega))) rfl rfl ?_
      refine q_give (g_eqS (by kernel_rfl) (evv rfl) (evv rfl) (by rfl)) rfl rfl ?_
      refine q_nil ?_
      refine c_code ?_
      refine r_cond rfl (fun hne => ?_) (fun hne => ?_) <;> (try simp only [decide_eq_true_eq, decide_eq_false_iff_not, Bool.and_eq_true, Bool.or_eq_true, Bool.not_eq_true', Bool.and_eq_false_iff, Bool.or_eq_false_iff, Bool.not_eq_false', Bool.not_eq_true, Bool.not_eq_false, Bool.true_eq_false, Bool.false_eq_true, Int.not_lt, Int.not_le, not_and, not_or, ne_eq] at hne)
      · rw [decide_eq_false (fun h : as1 = bs => hne (by subst h; rfl))]
        refine r_seq ?_
        refine r_region (id := 7) ?_
        refine o_give (g_assign (evv rfl)) rfl rfl ?_
        refine o_nil ?_
        refine c_code ?_
        first | refine r_ret (rs := [.tmp 4]) rfl rfl _ (Ent.refl _) ?_ | refine c_end (rs := [.tmp 4]) rfl rfl _ (Ent.refl _) ?_
        exact ⟨rfl, rfl⟩
      · have hne : as1.getD i default = bs.getD i default := by first | exact hne | exact Decidable.of_not_not hne
        refine r_skip ?_
        refine c_blk ?_
        refine c_code ?_
        refine r_region (id := 5) ?_
        refine o_give (g_move (evv rfl)) rfl rfl ?_
        refine o_giveN (g_bin (evv rfl) (evv rfl) (by rfl)) (by simp only [inR]; omega) rfl ?_
        refine o_give (g_assign (evv rfl)) rfl rfl ?_
        refine o_nil ?_
        refine c_loop (i + 1) ?_ ?_ (by repeat (first | exact trivial | refine ⟨rfl, ?_⟩ | refine envsub_v rfl (by first | rfl | (refine int_eq ?_; first | omega | (simp; omega) | (simp; done)) | (refine bool_eq ?_; first | (simp [*]; done) | (simp; done)) | (refine str_eq ?_; simp; done) | (refine ptr_eq ?_; omega) | fail) ?_)) ?_ <;> (try dsimp only)
        · refine ⟨by omega, ?_⟩
          rw [List.take_succ_eq_append_getElem h1, List.take_succ_eq_append_getElem h2, hI, ← ga, ← gb, hne]
        · omega
        · exact Ent.refl _
    · obtain rfl : i = as1.length := by omega
      rw [List.take_length, hn, List.take_length] at hI
      rw [decide_eq_true hI]
      refine r_exit rfl ?_
      refine c_code ?_
      refine r_seq ?_
      refine r_region (id := 8) ?_
      refine o_give (g_assign (evv rfl)) rfl rfl ?_
      refine o_nil ?_
      refine c_code ?_
      first | refine r_ret (rs := [.tmp 4]) rfl rfl _ (Ent.refl _) ?_ | refine c_end (rs := [.tmp 4]) rfl rfl _ (Ent.refl _) ?_
      exact ⟨rfl, rfl⟩
theorem SameK_c (L : List Atom) (a b : KeptS) (va vb : Value) [ra : Rd L va (entR a.ents)] [rb : Rd L vb (entR b.ents)] : Fn Try.prog 15 [agg (kC a.view a.normal a.base a.state va), agg (kC b.view b.normal b.base b.state vb)] L fun w L' => w = .bool (decide (a = b)) ∧ L' = L := by
  obtain ⟨v1, n1, b1, s1, e1⟩ := a
  obtain ⟨v2, n2, b2, s2, e2⟩ := b
  dsimp only at ra rb ⊢
  have hiff : (⟨v1, n1, b1, s1, e1⟩ : KeptS) = ⟨v2, n2, b2, s2, e2⟩ ↔ (v1 = v2 ∧ n1 = n2 ∧ b1 = b2 ∧ s1 = s2) ∧ e1 = e2 := by simp [and_assoc]
  refine fn_intro Try.func15 rfl Try.ntmps15 rfl (fun W0 => ?_)
  simp only [argE]
  refine r_seq ?_
  refine r_region (id := 0) ?_
  refine o_boxA (evv rfl) rfl (fun _ => ?_)
  refine o_boxA (evv rfl) rfl (fun _ => ?_)
  refine o_give (g_assign (evv rfl)) rfl rfl ?_
  refine o_nil ?_
  refine c_code ?_
  refine r_seq ?_
  refine r_region (id := 1) ?_
  refine o_give (g_fld (evv rfl)) rfl rfl ?_
  refine o_give (g_load (evv rfl) (by rfl) (by rfl)) rfl rfl ?_
  refine o_give (g_fld (evv rfl)) rfl rfl ?_
  refine o_give (g_load (evv rfl) (by rfl) (by rfl)) rfl rfl ?_
  refine o_give (g_bin (evv rfl) (evv rfl) (by rfl)) rfl rfl ?_
  refine o_give (g_move (evv rfl)) rfl rfl ?_
  refine o_lazy rfl (fun hg => g_fld (evv rfl)) rfl rfl ?_
  refine o_lazy rfl (fun hg => g_load (evg rfl hg) (by rfl) (by rfl)) rfl rfl ?_
  refine o_lazy rfl (fun hg => g_fld (evv rfl)) rfl rfl ?_
  refine o_lazy rfl (fun hg => g_load (evg rfl hg) (by rfl) (by rfl)) rfl rfl ?_
  refine o_lazy rfl (fun hg => g_bin (by first | exact evv rfl | exact evg rfl (by rw [hp]; rfl) | exact evg rfl hp | exact evg rfl hg | exact evg rfl (by first | (simp_all; done) | (simp [*]; done) | fail) | fail) (by first | exact evv rfl | exact evg rfl (by rw [hp]; rfl) | exact evg rfl hp | exact evg rfl hg | exact evg rfl (by first | (simp_all; done) | (simp [*]; done) | fail) | fail) (by rfl)) rfl rfl ?_
  refine o_give (g_pick_and (evv rfl) (evv rfl) (fun hp => (by first | exact evv rfl | exact evg rfl (by rw [hp]; rfl) | exact evg rfl hp | exact evg rfl hg | exact evg rfl (by first | (simp_all; done) | (simp [*]; done) | fail) | fail))) rfl rfl ?_
  refine o_give (g_move (evv rfl)) rfl rfl ?_
  refine o_lazy rfl (fun hg => g_fld (evv rfl)) rfl rfl ?_
  refine o_lazy rfl (fun hg => g_load (evg rfl hg) (by rfl) (by rfl)) rfl rfl ?_
  refine o_lazy rfl (fun hg => g_fld (evv rfl)) rfl rfl ?_
  refine o_lazy rfl (fun hg => g_load (evg rfl hg) (by rfl) (by rfl)) rfl rfl ?_
  refine o_lazy rfl (fun hg => g_bin (by first | exact evv rfl | exact evg rfl (by rw [hp]; rfl) | exact evg rfl hp | exact evg rfl hg | exact evg rfl (by first | (simp_all; done) | (simp [*]; done) | fail) | fail) (by first | exact evv rfl | exact evg rfl (by rw [hp]; rfl) | exact evg rfl hp | exact evg rfl hg | exact evg rfl (by first | (simp_all; done) | (simp [*]; done) | fail) | fail) (by rfl)) rfl rfl ?_
  refine o_give (g_pick_and (evv rfl) (evv rfl) (fun hp => (by first | exact evv rfl | exact evg rfl (by rw [hp]; rfl) | exact evg rfl hp | exact evg rfl hg | exact evg rfl (by first | (simp_all; done) | (simp [*]; done) | fail) | fail))) rfl rfl ?_
  refine o_give (g_move (evv rfl)) rfl rfl ?_
  refine o_lazy rfl (fun hg => g_fld (evv rfl)) rfl rfl ?_
  refine o_lazy rfl (fun hg => g_load (evg rfl hg) (by rfl) (by rfl)) rfl rfl ?_
  refine o_lazy rfl (fun hg => g_fld (evv rfl)) rfl rfl ?_
  refine o_lazy rfl (fun hg => g_load (evg rfl hg) (by rfl) (by rfl)) rfl rfl ?_
  refine o_lazy rfl (fun hg => g_binS (by first | exact evv rfl | exact evg rfl (by rw [hp]; rfl) | exact evg rfl hp | exact evg rfl hg | exact evg rfl (by first | (simp_all; done) | (simp [*]; done) | fail) | fail) (by first | exact evv rfl | exact evg rfl (by rw [hp]; rfl) | exact evg rfl hp | exact evg rfl hg | exact evg rfl (by first | (simp_all; done) | (simp [*]; done) | fail) | fail) (by rfl)) rfl rfl ?_
  refine o_give (g_pick_and (evv rfl) (evv rfl) (fun hp => (by first | exact evv rfl | exact evg rfl (by rw [hp]; rfl) | exact evg rfl hp | exact evg rfl hg | exact evg rfl (by first | (simp_all; done) | (simp [*]; done) | fail) | fail))) rfl rfl ?_
  refine o_give (g_move (evv rfl)) rfl rfl ?_
  refine o_lazy rfl (fun hg => g_fld (evv rfl)) rfl rfl ?_
  refine o_lazy rfl (fun hg => g_load (evg rfl hg) (by rfl) (by rfl)) rfl rfl ?_
  refine o_lazy rfl (fun hg => g_fld (evv rfl)) rfl rfl ?_
  refine o_lazy rfl (fun hg => g_load (evg rfl hg) (by rfl) (by rfl)) rfl rfl ?_
  by_cases h : v1 = v2 ∧ n1 = n2 ∧ b1 = b2 ∧ s1 = s2
  · obtain ⟨rfl, rfl, rfl, rfl⟩ := h
    simp only [decide_true, Bool.and_self]
    refine o_sure (t := 33) rfl rfl ?_
    refine o_sure (t := 35) rfl rfl ?_
    refine o_gyes rfl ?_
    refine o_call rfl _ (Ent.refl _) (SameEntriesG_c _ _ _ e1 e2) rfl ?_
    rintro _ _ ⟨rfl, hLz⟩
    obtain rfl := hLz.symm
    clear hLz
    refine o_give (g_pick (b := true) (evv rfl) (fun _ => (evv rfl)) (fun h => by cases h)) rfl rfl ?_
    refine o_give (g_assign (evv rfl)) rfl rfl ?_
    refine o_nil ?_
    refine c_code ?_
    skip
    first | refine r_ret (rs := [.tmp 4]) rfl rfl _ ((Lay.ent (L' := L))) ?_ | refine c_end (rs := [.tmp 4]) rfl rfl _ ((Lay.ent (L' := L))) ?_
    refine ⟨?_, rfl⟩
    exact bool_eq (by simp)
  · have hd : (decide (v1 = v2) && decide (n1 = n2) && decide (b1 = b2) && decide (s1 = s2)) = false := by
      rw [Bool.eq_false_iff]
      intro h2
      simp only [Bool.and_eq_true, decide_eq_true_eq] at h2
      exact h ⟨h2.1.1.1, h2.1.1.2, h2.1.2, h2.2⟩
    simp only [hd]
    refine o_lazy (v0 := undef) rfl (fun hg => absurd hg (by first | (simp; done) | fail)) rfl rfl ?_
    refine o_give (g_pick (b := false) (evv rfl) (fun h => by cases h) (fun _ => (evv rfl))) rfl rfl ?_
    refine o_give (g_assign (evv rfl)) rfl rfl ?_
    refine o_nil ?_
    refine c_code ?_
    skip
    first | refine r_ret (rs := [.tmp 4]) rfl rfl _ ((Lay.ent (L' := L))) ?_ | refine c_end (rs := [.tmp 4]) rfl rfl _ ((Lay.ent (L' := L))) ?_
    refine ⟨?_, rfl⟩
    exact bool_eq (decide_eq_false (fun q => h (hiff.1 q).1)).symm
instance (a : EntS) (v : Int) : SetF entC a 0 (.int .i64 v) { a with client := v } := ⟨rfl⟩
class RdA (L : List Atom) (a : ActJ) : Prop where
  e : Rd L a.ve (entR a.es)
  k : Rd L a.kv (mrow i64v 3 a.ks)
instance {L : List Atom} {a : ActJ} [h : RdA L a] : Rd L a.ve (entR a.es) := h.e
instance {L : List Atom} {a : ActJ} [h : RdA L a] : Rd L a.kv (mrow i64v 3 a.ks) := h.k
instance (priority := low) {A : Atom} {L : List Atom} {a : ActJ} [h : RdA L a] : RdA (A :: L) a := ⟨h.e.ent Ent.drop, h.k.ent Ent.drop⟩
end VK

namespace VK
open Go Go.Proofs
set_option linter.unusedSimpArgs false
set_option linter.unusedVariables false
set_option maxRecDepth 100000
set_option maxHeartbeats 40000000
class SubC (cs : List Value) (o : Nat) (vs : outParam (List Value)) : Prop where
  h : vs ≠ [] ∧ ∀ q u, vs[q]? = some u → cs[o + q]? = some u
theorem g_loadFP {c : Cx} {E : Env} {L : List Atom} {do_ : Option Nat} {ty : TypeId} {pos : String} {aft : Array Edge} {gd : Option (Nat × Bool)} {α : Type} [Inhabited α] {f : α → List Value} {sz : Nat} {t e' : TypeId} {ud : TypeDesc} {i : TI} {x : Operand} {v : Value} {us : List Value} {j fo : Nat} {l : List α} [tu : TyU c.P t ud] [ti : TyI c.P t i] (hx : Evs c E x (elemP v (j * sz + fo))) [rd : Rd L v (frow f sz e' l)]
    (hu : isAggD ud = true) (hj : j < l.length) (hf : ∀ a, (f a).length = sz) [pc : SubC (f (l.getD j default)) fo us] (hn : us.length = i.size) : Gives c E L ⟨do_, .load t x, ty, pos, aft, gd⟩ (agg us) :=
  g_loadEA (i := i) hx hu hn pc.h.1 (fun q u hq => by
    rw [Nat.add_assoc]
    simp only [frow]
    exact flatMap_at hf hj (fo + q) u (pc.h.2 q u hq))
instance (a : EntS) : SubC (entC a) 2 (opSC a.op) := ⟨List.cons_ne_nil _ _, fun q u h => by rw [Nat.add_comm]; exact h⟩
structure ScA (L : List Atom) (v : Value) (l : List ActJ) : Prop where
  rd : Rd L v (frow actC 10 37 l)
  el : ∀ a ∈ l, RdA L a ∧ a.ok
end VK

namespace VK
open Go Go.Proofs
set_option linter.unusedSimpArgs false
set_option linter.unusedVariables false
set_option maxRecDepth 100000
set_option maxHeartbeats 40000000
theorem decEntJ (W : World) : Dec (fun {H} => @Go.Proofs.Ytafofdcccmidmaa.Rows.uptoBulk H) Try.prog W 50 entC 8 EntS.ok (fun e => e.op.wt) :=
  (Dec.struct bulkC Try.underlying50 (by kernel_rfl)
    (DecF.cons bulkC rfl (Dec.int bulkC Try.underlying3 (by kernel_rfl)) (DecF.cons bulkC rfl (Dec.int bulkC Try.underlying2 (by kernel_rfl)) (DecF.cons bulkC rfl (decOpS bulkC W) DecF.nil)))).map
    (fun p => ⟨p.1, p.2.1, p.2.2.1⟩) (fun _ => rfl)
    (fun c hc u hu => (AllOne.h (L := []) (vs := entC c)) W W ⟨rfl, rfl, rfl, trivial⟩ u hu)
    (fun p hp => by simp [entC])
    (fun p hp => ⟨hp.1, hp.2.1, hp.2.2.1⟩)
    (fun p => by simp only; omega)
structure ActW (W : World) (a : ActJ) : Prop where
  v : inR .i64 a.view
  f : inR .i64 a.from_
  es : ∀ e ∈ a.es, e.ok
  fl : inR .i64 a.fail
  ks : ∀ z ∈ a.ks, inR .i64 z
  rv : RdW W a.ve (entR a.es)
  rk : RdW W a.kv (mrow i64v 3 a.ks)
def ActJ.wt (a : ActJ) : Nat := (a.es.map fun e => e.op.wt).sum + a.kstate.length
theorem len_wt : ∀ l : List EntS, l.length ≤ (l.map fun e => e.op.wt).sum
  | [] => by simp
  | a :: l => by have := len_wt l; simp only [List.map_cons, List.sum_cons, List.length_cons]; have : 1 ≤ a.op.wt := by { unfold OpS.wt; omega }; omega
end VK

namespace VK
open Go Go.Proofs
set_option linter.unusedSimpArgs false
set_option linter.unusedVariables false
set_option maxRecDepth 100000
set_option maxHeartbeats 40000000
theorem rjCheck_c (L : List Atom) (view normal base : Int) (state : List UInt8) (ve : Value) (es : List EntS) [rd : Rd L ve (entR es)] (hl : es.length ≤ 1048576) (hs : state.length ≤ 140737488355000) (hf : ∀ e ∈ es, e.ok) : Fn Try.prog 16 [agg (kC view normal base state ve)] L fun v L' => v = .bool (decide (KeptS.ok ⟨view, normal, base, state, es⟩)) ∧ L' = L := by
  have hgr : gr = 1099511627776 := rfl
  have hn := ok_num view normal base state es
  refine fn_intro Try.func16 rfl Try.ntmps16 rfl (fun W0 => ?_)
  simp only [argE]
  refine r_seq ?_
  refine r_region (id := 0) ?_
  refine o_boxA (evv rfl) rfl (fun _ => ?_)
  refine o_give (g_assign (evv rfl)) rfl rfl ?_
  refine o_nil ?_
  refine c_code ?_
  refine r_seq ?_
  refine r_seq ?_
  refine r_region (id := 1) ?_
  refine o_give (g_fld (evv rfl)) rfl rfl ?_
  refine o_give (g_load (evv rfl) (by rfl) (by rfl)) rfl rfl ?_
  refine o_give (g_bin (evv rfl) (evv rfl) (by rfl)) rfl rfl ?_
  refine o_give (g_move (evv rfl)) rfl rfl ?_
  refine o_lazy rfl (fun hg => g_fld (evv rfl)) rfl rfl ?_
  refine o_lazy rfl (fun hg => g_load (evg rfl hg) (by rfl) (by rfl)) rfl rfl ?_
  refine o_lazy rfl (fun hg => g_bin (by first | exact evv rfl | exact evg rfl (by rw [hp]; rfl) | exact evg rfl hp | exact evg rfl hg | exact evg rfl (by first | (simp_all; done) | (simp [*]; done) | fail) | fail) (by first | exact evv rfl | exact evg rfl (by rw [hp]; rfl) | exact evg rfl hp | exact evg rfl hg | exact evg rfl (by first | (simp_all; done) | (simp [*]; done) | fail) | fail) (by rfl)) rfl rfl ?_
  refine o_give (g_pick_or (evv rfl) (evv rfl) (fun hp => (by first | exact evv rfl | exact evg rfl (by rw [hp]; rfl) | exact evg rfl hp | exact evg rfl hg | exact evg rfl (by first | (simp_all; done) | (simp [*]; done) | fail) | fail))) rfl rfl ?_
  refine o_give (g_move (evv rfl)) rfl rfl ?_
  refine o_lazy rfl (fun hg => g_fld (evv rfl)) rfl rfl ?_
  refine o_lazy rfl (fun hg => g_load (evg rfl hg) (by rfl) (by rfl)) rfl rfl ?_
  refine o_lazy rfl (fun hg => g_bin (by first | exact evv rfl | exact evg rfl (by rw [hp]; rfl) | exact evg rfl hp | exact evg rfl hg | exact evg rfl (by first | (simp_all; done) | (simp [*]; done) | fail) | fail) (by first | exact evv rfl | exact evg rfl (by rw [hp]; rfl) | exact evg rfl hp | exact evg rfl hg | exact evg rfl (by first | (simp_all; done) | (simp [*]; done) | fail) | fail) (by rfl)) rfl rfl ?_
  refine o_give (g_pick_or (evv rfl) (evv rfl) (fun hp => (by first | exact evv rfl | exact evg rfl (by rw [hp]; rfl) | exact evg rfl hp | exact evg rfl hg | exact evg rfl (by first | (simp_all; done) | (simp [*]; done) | fail) | fail))) rfl rfl ?_
  refine o_give (g_move (evv rfl)) rfl rfl ?_
  refine o_lazy rfl (fun hg => g_fld (evv rfl)) rfl rfl ?_
  refine o_lazy rfl (fun hg => g_load (evg rfl hg) (by rfl) (by rfl)) rfl rfl ?_
  refine o_lazy rfl (fun hg => g_fld (evv rfl)) rfl rfl ?_
  refine o_lazy rfl (fun hg => g_load (evg rfl hg) (by rfl) (by rfl)) rfl rfl ?_
  refine o_lazy rfl (fun hg => g_bin (by first | exact evv rfl | exact evg rfl (by rw [hp]; rfl) | exact evg rfl hp | exact evg rfl hg | exact evg rfl (by first | (simp_all; done) | (simp [*]; done) | fail) | fail) (by first | exact evv rfl | exact evg rfl (by rw [hp]; rfl) | exact evg rfl hp | exact evg rfl hg | exact evg rfl (by first | (simp_all; done) | (simp [*]; done) | fail) | fail) (by rfl)) rfl rfl ?_
  refine o_give (g_pick_or (evv rfl) (evv rfl) (fun hp => (by first | exact evv rfl | exact evg rfl (by rw [hp]; rfl) | exact evg rfl hp | exact evg rfl hg | exact evg rfl (by first | (simp_all; done) | (simp [*]; done) | fail) | fail))) rfl rfl ?_
  refine o_give (g_move (evv rfl)) rfl rfl ?_
  refine o_lazy rfl (fun hg => g_fld (evv rfl)) rfl rfl ?_
  refine o_lazy rfl (fun hg => g_load (evg rfl hg) (by rfl) (by rfl)) rfl rfl ?_
  refine o_lazy rfl (fun hg => g_bin (by first | exact evv rfl | exact evg rfl (by rw [hp]; rfl) | exact evg rfl hp | exact evg rfl hg | exact evg rfl (by first | (simp_all; done) | (simp [*]; done) | fail) | fail) (by first | exact evv rfl | exact evg rfl (by rw [hp]; rfl) | exact evg rfl hp | exact evg rfl hg | exact evg rfl (by first | (simp_all; done) | (simp [*]; done) | fail) | fail) (by rfl)) rfl rfl ?_
  refine o_give (g_pick_or (evv rfl) (evv rfl) (fun hp => (by first | exact evv rfl | exact evg rfl (by rw [hp]; rfl) | exact evg rfl hp | exact evg rfl hg | exact evg rfl (by first | (simp_all; done) | (simp [*]; done) | fail) | fail))) rfl rfl ?_
  refine o_give (g_move (evv rfl)) rfl rfl ?_
  refine o_lazy rfl (fun hg => g_fld (evv rfl)) rfl rfl ?_
  refine o_lazy rfl (fun hg => g_load (evg rfl hg) (by rfl) (by rfl)) rfl rfl ?_
  refine o_lazy rfl (fun hg => g_bin (by first | exact evv rfl | exact evg rfl (by rw [hp]; rfl) | exact evg rfl hp | exact evg rfl hg | exact evg rfl (by first | (simp_all; done) | (simp [*]; done) | fail) | fail) (by first | exact evv rfl | exact evg rfl (by rw [hp]; rfl) | exact evg rfl hp | exact evg rfl hg | exact evg rfl (by first | (simp_all; done) | (simp [*]; done) | fail) | fail) (by rfl)) rfl rfl ?_
  refine o_give (g_pick_or (evv rfl) (evv rfl) (fun hp => (by first | exact evv rfl | exact evg rfl (by rw [hp]; rfl) | exact evg rfl hp | exact evg rfl hg | exact evg rfl (by first | (simp_all; done) | (simp [*]; done) | fail) | fail))) rfl rfl ?_
  refine o_nil ?_
  refine c_code ?_
  rename_i q
  refine r_cond rfl (fun h1 => ?_) (fun h1 => ?_) <;> (try simp only [decide_eq_true_eq, decide_eq_false_iff_not, Bool.and_eq_true, Bool.or_eq_true, Bool.not_eq_true', Bool.and_eq_false_iff, Bool.or_eq_false_iff, Bool.not_eq_false', Bool.not_eq_true, Bool.not_eq_false, Bool.true_eq_false, Bool.false_eq_true, Int.not_lt, Int.not_le, not_and, not_or, ne_eq] at h1)
  · rw [decide_eq_false (fun h => by obtain ⟨⟨a1, a2, a3, a4, a5, a6, _⟩, _⟩ := hn.1 h; omega)]
    refine r_seq ?_
    refine r_region (id := 2) ?_
    refine o_give (g_assign (evv rfl)) rfl rfl ?_
    refine o_nil ?_
    refine c_code ?_
    first | refine r_ret (rs := [.tmp 2]) rfl rfl _ ((Lay.ent (L' := L))) ?_ | refine c_end (rs := [.tmp 2]) rfl rfl _ ((Lay.ent (L' := L))) ?_
    exact ⟨rfl, rfl⟩
  · refine r_skip ?_
    refine c_code ?_
    refine r_seq ?_
    refine r_seq ?_
    refine r_region (id := 3) ?_
    refine o_give (g_fld (evv rfl)) rfl rfl ?_
    refine o_give (g_load (evv rfl) (by rfl) (by rfl)) rfl rfl ?_
    refine o_give (g_lenF (evv rfl)) rfl rfl ?_
    refine o_give (g_bin (evv rfl) (evv rfl) (by rfl)) rfl rfl ?_
    refine o_give (g_move (evv rfl)) rfl rfl ?_
    refine o_lazy rfl (fun hg => g_fld (evv rfl)) rfl rfl ?_
    refine o_lazy rfl (fun hg => g_load (evg rfl hg) (by rfl) (by rfl)) rfl rfl ?_
    refine o_lazy rfl (fun hg => g_fld (evv rfl)) rfl rfl ?_
    refine o_lazy rfl (fun hg => g_load (evg rfl hg) (by rfl) (by rfl)) rfl rfl ?_
    refine o_lazy rfl (fun hg => g_lenF (by first | exact evv rfl | exact evg rfl (by rw [hp]; rfl) | exact evg rfl hp | exact evg rfl hg | exact evg rfl (by first | (simp_all; done) | (simp [*]; done) | fail) | fail)) rfl rfl ?_
    refine o_lazy rfl (fun hg => Gives.as (g_bin (by first | exact evv rfl | exact evg rfl (by rw [hp]; rfl) | exact evg rfl hp | exact evg rfl hg | exact evg rfl (by first | (simp_all; done) | (simp [*]; done) | fail) | fail) (by first | exact evv rfl | exact evg rfl (by rw [hp]; rfl) | exact evg rfl hp | exact evg rfl hg | exact evg rfl (by first | (simp_all; done) | (simp [*]; done) | fail) | fail) (by rfl)) (by rw [wrap_in (by simp only [inR]; omega)])) rfl rfl ?_
    refine o_lazy rfl (fun hg => g_bin (by first | exact evv rfl | exact evg rfl (by rw [hp]; rfl) | exact evg rfl hp | exact evg rfl hg | exact evg rfl (by first | (simp_all; done) | (simp [*]; done) | fail) | fail) (by first | exact evv rfl | exact evg rfl (by rw [hp]; rfl) | exact evg rfl hp | exact evg rfl hg | exact evg rfl (by first | (simp_all; done) | (simp [*]; done) | fail) | fail) (by rfl)) rfl rfl ?_
    refine o_give (g_pick_or (evv rfl) (evv rfl) (fun hp => (by first | exact evv rfl | exact evg rfl (by rw [hp]; rfl) | exact evg rfl hp | exact evg rfl hg | exact evg rfl (by first | (simp_all; done) | (simp [*]; done) | fail) | fail))) rfl rfl ?_
    refine o_give (g_move (evv rfl)) rfl rfl ?_
    refine o_lazy rfl (fun hg => g_fld (evv rfl)) rfl rfl ?_
    refine o_lazy rfl (fun hg => g_load (evg rfl hg) (by rfl) (by rfl)) rfl rfl ?_
    refine o_lazy rfl (fun hg => g_lenS TyU.h (by first | exact evv rfl | exact evg rfl (by rw [hp]; rfl) | exact evg rfl hp | exact evg rfl hg | exact evg rfl (by first | (simp_all; done) | (simp [*]; done) | fail) | fail)) rfl rfl ?_
    refine o_lazy rfl (fun hg => g_bin (by first | exact evv rfl | exact evg rfl (by rw [hp]; rfl) | exact evg rfl hp | exact evg rfl hg | exact evg rfl (by first | (simp_all; done) | (simp [*]; done) | fail) | fail) (by first | exact evv rfl | exact evg rfl (by rw [hp]; rfl) | exact evg rfl hp | exact evg rfl hg | exact evg rfl (by first | (simp_all; done) | (simp [*]; done) | fail) | fail) (by rfl)) rfl rfl ?_
    refine o_give (g_pick_or (evv rfl) (evv rfl) (fun hp => (by first | exact evv rfl | exact evg rfl (by rw [hp]; rfl) | exact evg rfl hp | exact evg rfl hg | exact evg rfl (by first | (simp_all; done) | (simp [*]; done) | fail) | fail))) rfl rfl ?_
    refine o_give (g_move (evv rfl)) rfl rfl ?_
    refine o_lazy rfl (fun hg => g_fld (evv rfl)) rfl rfl ?_
    refine o_lazy rfl (fun hg => g_load (evg rfl hg) (by rfl) (by rfl)) rfl rfl ?_
    refine o_lazy rfl (fun hg => g_bin (by first | exact evv rfl | exact evg rfl (by rw [hp]; rfl) | exact evg rfl hp | exact evg rfl hg | exact evg rfl (by first | (simp_all; done) | (simp [*]; done) | fail) | fail) (by first | exact evv rfl | exact evg rfl (by rw [hp]; rfl) | exact evg rfl hp | exact evg rfl hg | exact evg rfl (by first | (simp_all; done) | (simp [*]; done) | fail) | fail) (by rfl)) rfl rfl ?_
    refine o_lazy rfl (fun hg => g_move (by first | exact evv rfl | exact evg rfl (by rw [hp]; rfl) | exact evg rfl hp | exact evg rfl hg | exact evg rfl (by first | (simp_all; done) | (simp [*]; done) | fail) | fail)) rfl rfl ?_
    refine o_lazy rfl (fun hg => g_fld (evv rfl)) rfl rfl ?_
    refine o_lazy rfl (fun hg => g_load (evg rfl hg) (by rfl) (by rfl)) rfl rfl ?_
    refine o_lazy rfl (fun hg => g_lenS TyU.h (by first | exact evv rfl | exact evg rfl (by rw [hp]; rfl) | exact evg rfl hp | exact evg rfl hg | exact evg rfl (by first | (simp_all; done) | (simp [*]; done) | fail) | fail)) rfl rfl ?_
    refine o_lazy rfl (fun hg => g_bin (by first | exact evv rfl | exact evg rfl (by rw [hp]; rfl) | exact evg rfl hp | exact evg rfl hg | exact evg rfl (by first | (simp_all; done) | (simp [*]; done) | fail) | fail) (by first | exact evv rfl | exact evg rfl (by rw [hp]; rfl) | exact evg rfl hp | exact evg rfl hg | exact evg rfl (by first | (simp_all; done) | (simp [*]; done) | fail) | fail) (by rfl)) rfl rfl ?_
    refine o_lazy rfl (fun hg => g_pick_and (by first | exact evv rfl | exact evg rfl (by rw [hp]; rfl) | exact evg rfl hp | exact evg rfl hg | exact evg rfl (by first | (simp_all; done) | (simp [*]; done) | fail) | fail) (by first | exact evv rfl | exact evg rfl (by rw [hp]; rfl) | exact evg rfl hp | exact evg rfl hg | exact evg rfl (by first | (simp_all; done) | (simp [*]; done) | fail) | fail) (fun hp => (by first | exact evv rfl | exact evg rfl (by rw [hp]; rfl) | exact evg rfl hp | exact evg rfl hg | exact evg rfl (by first | (simp_all; done) | (simp [*]; done) | fail) | fail))) rfl rfl ?_
    refine o_give (g_pick_or (evv rfl) (evv rfl) (fun hp => (by first | exact evv rfl | exact evg rfl (by rw [hp]; rfl) | exact evg rfl hp | exact evg rfl hg | exact evg rfl (by first | (simp_all; done) | (simp [*]; done) | fail) | fail))) rfl rfl ?_
    refine o_nil ?_
    refine c_code ?_
    refine r_cond rfl (fun h3 => ?_) (fun h3 => ?_) <;> (try simp only [decide_eq_true_eq, decide_eq_false_iff_not, Bool.and_eq_true, Bool.or_eq_true, Bool.not_eq_true', Bool.and_eq_false_iff, Bool.or_eq_false_iff, Bool.not_eq_false', Bool.not_eq_true, Bool.not_eq_false, Bool.true_eq_false, Bool.false_eq_true, Int.not_lt, Int.not_le, not_and, not_or, ne_eq] at h3)
    · rw [decide_eq_false (fun h => by
        obtain ⟨⟨a1, a2, a3, a4, a5, a6, a7, a8, a9, a10⟩, _⟩ := hn.1 h
        have a9' : base = 0 → state.length = 0 := fun h => by rw [a9 h]; rfl
        omega)]
      refine r_seq ?_
      refine r_region (id := 4) ?_
      refine o_give (g_assign (evv rfl)) rfl rfl ?_
      refine o_nil ?_
      refine c_code ?_
      first | refine r_ret (rs := [.tmp 2]) rfl rfl _ ((Lay.ent (L' := L))) ?_ | refine c_end (rs := [.tmp 2]) rfl rfl _ ((Lay.ent (L' := L))) ?_
      exact ⟨rfl, rfl⟩
    · have hnum : numK view normal base state es.length := ⟨by omega, by omega, by omega, by omega, by omega, by omega, by omega, by omega, fun h => List.eq_nil_of_length_eq_zero (by omega), by omega⟩
      refine r_skip ?_
      refine c_code ?_
      refine r_seq ?_
      refine r_seq ?_
      refine r_region (id := 5) ?_
      refine o_give (g_assign (evv rfl)) rfl rfl ?_
      refine o_nil ?_
      refine c_code ?_
      refine r_block ?_
      refine r_loopE (σ := Nat) (fun i => i ≤ es.length ∧ ∀ e ∈ es.take i, ¬ longOp e.op) (fun i => es.length - i) (fun i => [(3, .v (.int .i64 i))]) [1] (fun i => blk q ⟨kC view normal base state ve, 28⟩ :: L) 0 (by dsimp only [pickE, pick1, lk2, Nat.reduceBEq, Nat.reduceAdd, Nat.zero_add, cond_true, cond_false] <;> exact rfl) ?_ (by repeat (first | exact trivial | refine ⟨rfl, ?_⟩ | refine envsub_v rfl (by first | rfl | (refine int_eq ?_; first | omega | (simp; omega) | (simp; done)) | (refine bool_eq ?_; first | (simp [*]; done) | (simp; done)) | (refine str_eq ?_; simp; done) | (refine ptr_eq ?_; omega) | fail) ?_)) ?_ ?_
      · exact ⟨Nat.zero_le _, fun e he => by simp at he⟩
      · exact Lay.ent
      rintro i ⟨hi, hlong⟩; dsimp only [List.cons_append, List.nil_append]
      refine r_seq ?_
      refine r_seq ?_
      refine r_region (id := 6) ?_
      refine o_give (g_move (evv rfl)) rfl rfl ?_
      refine o_give (g_fld (evv rfl)) rfl rfl ?_
      refine o_give (g_load (evv rfl) (by rfl) (by rfl)) rfl rfl ?_
      refine o_give (g_lenF (evv rfl)) rfl rfl ?_
      refine o_give (g_bin (evv rfl) (evv rfl) (by rfl)) rfl rfl ?_
      refine o_nil ?_
      refine c_code ?_
      refine r_cond rfl (fun hc => ?_) (fun hc => ?_) <;> (try simp only [decide_eq_true_eq, decide_eq_false_iff_not, Bool.and_eq_true, Bool.or_eq_true, Bool.not_eq_true', Bool.and_eq_false_iff, Bool.or_eq_false_iff, Bool.not_eq_false', Bool.not_eq_true, Bool.not_eq_false, Bool.true_eq_false, Bool.false_eq_true, Int.not_lt, Int.not_le, not_and, not_or, ne_eq] at hc)
      · have hi2 : i < es.length := by omega
        have hmem : es.getD i default ∈ es := by rw [List.getD_eq_getElem?_getD, List.getElem?_eq_getElem hi2]; exact List.getElem_mem hi2
        have hop : (es.getD i default).op.ok := (hf _ hmem).2.2
        refine r_skip ?_
        refine c_code ?_
        refine r_seq ?_
        refine r_block ?_
        refine r_seq ?_
        refine r_region (id := 8) ?_
        refine o_give (g_fld (evv rfl)) rfl rfl ?_
        refine o_give (g_load (evv rfl) (by rfl) (by rfl)) rfl rfl ?_
        refine o_give (g_move (evv rfl)) rfl rfl ?_
        refine o_give (g_idxFN (evv rfl) (evv rfl) (by rfl) (by rfl) (by first | omega | (have := of_decide_eq_true hg; omega) | (simp at hg; omega) | (simp only [List.length_set, List.length_append, List.length_cons, List.length_nil, List.length_map, List.length_take, List.length_drop, List.length_replicate]; omega))) rfl rfl ?_
        refine o_give (g_fldE (evv rfl) (by first | (simp only [frow, mrow]; omega) | (simp only [frow, mrow, List.length_set, List.length_append, List.length_cons]; omega) | fail) (by first | exact Nat.succ_pos _ | decide)) rfl rfl ?_
        refine o_give (g_loadFP (evv rfl) (by rfl) (by first | omega | (have := of_decide_eq_true hg; omega) | (simp at hg; omega) | (simp only [List.length_set, List.length_append, List.length_cons, List.length_nil, List.length_map, List.length_take, List.length_drop, List.length_replicate]; omega)) (by first | (intro; rfl) | exact LenC.h) (by rfl)) rfl rfl ?_
        (refine o_call rfl _ (Ent.refl _) (ROpEnc_c _ _ (by assumption)) rfl ?_; rintro _ _ ⟨v, rfl, rfl⟩)
        refine o_give (g_move (evv rfl)) rfl rfl ?_
        refine o_give (g_extract (evv rfl) (by rfl)) rfl rfl ?_
        refine o_give (g_extract (evv rfl) (by rfl)) rfl rfl ?_
        refine o_give (g_assign (evv rfl)) rfl rfl ?_
        refine o_give (g_assign (evv rfl)) rfl rfl ?_
        refine o_nil ?_
        refine c_code ?_
        refine r_seq ?_
        refine r_region (id := 9) ?_
        refine o_give (g_move (evv rfl)) rfl rfl ?_
        refine o_give (g_bin (evv rfl) (evv rfl) (by rfl)) rfl rfl ?_
        refine o_nil ?_
        refine c_code ?_
        refine r_cond rfl (fun hg => ?_) (fun hg => ?_) <;> (try simp only [decide_eq_true_eq, decide_eq_false_iff_not, Bool.and_eq_true, Bool.or_eq_true, Bool.not_eq_true', Bool.and_eq_false_iff, Bool.or_eq_false_iff, Bool.not_eq_false', Bool.not_eq_true, Bool.not_eq_false, Bool.true_eq_false, Bool.false_eq_true, Int.not_lt, Int.not_le, not_and, not_or, ne_eq] at hg)
        · have hlo : longOp (es.getD i default).op := by
            by_cases h : longOp (es.getD i default).op
            · exact h
            · rw [if_neg h] at hg; exact absurd rfl hg
          rw [decide_eq_false (fun h => (hn.1 h).2 _ hmem hlo)]
          refine r_seq ?_
          refine r_region (id := 10) ?_
          refine o_give (g_assign (evv rfl)) rfl rfl ?_
          refine o_nil ?_
          refine c_code ?_
          first | refine r_ret (rs := [.tmp 2]) rfl rfl _ ((Lay.ent (L' := L))) ?_ | refine c_end (rs := [.tmp 2]) rfl rfl _ ((Lay.ent (L' := L))) ?_
          exact ⟨rfl, rfl⟩
        · have hlo : ¬ longOp (es.getD i default).op := fun h => by rw [if_pos h] at hg; exact absurd hg (by decide)
          refine r_skip ?_
          refine c_blk ?_
          refine c_code ?_
          refine r_region (id := 7) ?_
          refine o_give (g_move (evv rfl)) rfl rfl ?_
          refine o_giveN (g_bin (evv rfl) (evv rfl) (by rfl)) (by simp only [inR]; omega) rfl ?_
          refine o_give (g_assign (evv rfl)) rfl rfl ?_
          refine o_nil ?_
          refine c_loop (i + 1) ?_ ?_ (by repeat (first | exact trivial | refine ⟨rfl, ?_⟩ | refine envsub_v rfl (by first | rfl | (refine int_eq ?_; first | omega | (simp; omega) | (simp; done)) | (refine bool_eq ?_; first | (simp [*]; done) | (simp; done)) | (refine str_eq ?_; simp; done) | (refine ptr_eq ?_; omega) | fail) ?_)) ?_ <;> (try dsimp only)
          · refine ⟨by omega, fun e he => ?_⟩
            rw [List.take_succ_eq_append_getElem hi2, List.mem_append, List.mem_singleton] at he
            rcases he with he | rfl
            · exact hlong e he
            · simpa [hi2] using hlo
          · omega
          · exact Lay.ent
      · obtain rfl : i = es.length := by omega
        rw [List.take_length] at hlong
        rw [decide_eq_true (hn.2 ⟨hnum, hlong⟩)]
        refine r_exit rfl ?_
        refine c_code ?_
        refine r_seq ?_
        refine r_region (id := 11) ?_
        refine o_give (g_assign (evv rfl)) rfl rfl ?_
        refine o_nil ?_
        refine c_code ?_
        first | refine r_ret (rs := [.tmp 2]) rfl rfl _ ((Lay.ent (L' := L))) ?_ | refine c_end (rs := [.tmp 2]) rfl rfl _ ((Lay.ent (L' := L))) ?_
        exact ⟨rfl, rfl⟩
end VK

namespace VK
open Go Go.Proofs
set_option linter.unusedSimpArgs false
set_option linter.unusedVariables false
set_option maxRecDepth 100000
set_option maxHeartbeats 40000000
theorem wr_up {x : Pt} {k k' : KeptS} {p : List UInt8} (h : InvJ x k) (ha : x.armed = 0) (hv : x.live = 0) (hf : foldK k p = some k') (hl : p.length ≤ 180000) (hs : sizeP x + p.length + 8 ≤ 1000000000) :
    ∃ y, writeT x k p = (0, y, k') ∧ InvJ y k' ∧ y.armed = 0 ∧ y.live = 0 ∧ y.b0 = x.b0 ++ frameB p ∧ sizeP y ≤ sizeP x + p.length + 8 := by
  have h2 := (writeT_ok h.ok (k := k) (p := p) hs).2
  rcases write_up h hf (by omega) hs with ⟨e1, e2, e3, e4, e5, e6⟩ | ⟨_, _, _, h4⟩
  · rcases hw : writeT x k p with ⟨c, y, kk⟩
    rw [hw] at e1 e2 e3 e4 e5 e6 h2
    dsimp only at e1 e2 e3 e4 e5 e6 h2
    subst e1 e2
    rw [hv] at e4 e5
    exact ⟨y, rfl, e3, by omega, e4, e5, h2⟩
  · exact absurd ha h4
def ent0 : EntS := ⟨1, 1, ⟨1, [47, 97], [], [], 0, 0⟩⟩
theorem ent0_fit : ent0.ok ∧ ¬ longOp ent0.op := by
  refine ⟨⟨⟨by decide, by decide⟩, ⟨by decide, by decide⟩, ⟨⟨by decide, by decide⟩, by decide, by decide, by decide, ⟨by decide, by decide⟩, ⟨by decide, by decide⟩⟩⟩, by decide⟩
structure Awk (x1 x2 x3 : Pt) : Prop where
  v : viewT zeroPt zeroK 3 = (0, x1, ⟨3, 0, 0, [], []⟩)
  e : entT x1 ⟨3, 0, 0, [], []⟩ ent0 = (0, x2, ⟨3, 0, 0, [], [ent0]⟩)
  a : adoT x2 ⟨3, 0, 0, [], [ent0]⟩ 3 0 [] = (0, x3, ⟨3, 3, 0, [], []⟩)
  b : adoT x3 ⟨3, 3, 0, [], []⟩ 3 1 [] = (1, x3, ⟨3, 3, 0, [], []⟩)
  i1 : InvJ x1 ⟨3, 0, 0, [], []⟩
  i2 : InvJ x2 ⟨3, 0, 0, [], [ent0]⟩
  i3 : InvJ x3 ⟨3, 3, 0, [], []⟩
  n1 : sizeP x1 ≤ 200000
  n2 : sizeP x2 ≤ 400000
  n3 : sizeP x3 ≤ 600000
  l : 20 < (rdT x3 0).length
theorem awk_is : ∃ x1 x2 x3, Awk x1 x2 x3 := by
  have hz : sizeP zeroPt = 0 := rfl
  have lv := payV_len (v := 3) (by omega)
  have le := payE_len ent0_fit.1
  have la := payA_len (v := 3) (f := 0) (es := []) (by omega) (by omega) (by simp) (by simp)
  obtain ⟨x1, w1, i1, a1, l1, b1, s1⟩ := wr_up (k' := ⟨3, 0, 0, [], []⟩) inv_zero rfl rfl (p := payV 3) (by rw [foldK_V zeroK_ok (by omega), if_neg (by decide)]; rfl) lv (by omega)
  obtain ⟨x2, w2, i2, a2, l2, b2, s2⟩ := wr_up (k' := ⟨3, 0, 0, [], [ent0]⟩) i1 a1 l1 (p := payE ent0) (by rw [foldK_E ent0_fit.1 ent0_fit.2, if_pos (by decide)]; rfl) le (by omega)
  obtain ⟨x3, w3, i3, a3, l3, b3, s3⟩ := wr_up (k' := ⟨3, 3, 0, [], []⟩) i2 a2 l2 (p := payA 3 0 []) (by rw [foldK_A (by simp) (by simp) (by omega) (by omega), if_neg (by decide)]; rfl) la (by omega)
  refine ⟨x1, x2, x3, w1, ?_, ?_, ?_, i1, i2, i3, by omega, by omega, by omega, ?_⟩
  · unfold entT; rw [if_neg ent0_fit.2]; exact w2
  · unfold adoT; rw [if_pos ⟨by decide, by decide, by decide, by simp⟩]; exact w3
  · unfold adoT; rw [if_pos ⟨by decide, by decide, by decide, by simp⟩]
    exact writeT_none (by rw [show Int.toNat 3 = 3 from rfl, show Int.toNat 1 = 1 from rfl, foldK_A (by simp) (by simp) (by omega) (by omega), if_pos (.inl (by decide))])
  · show 20 < x3.b0.length
    rw [b3, b2, b1]
    simp only [List.length_append, frame_len]
    omega
end VK

namespace VK
open Go Go.Proofs
set_option linter.unusedSimpArgs false
set_option linter.unusedVariables false
set_option maxRecDepth 100000
set_option maxHeartbeats 40000000
theorem jawake_c (F : List Atom) : Fn Try.prog 8 [] F fun w L' => w = .bool true ∧ L' = F := by
  obtain ⟨x1, x2, x3, A⟩ := awk_is
  obtain ⟨hv, he, ha, hb, i1, i2, i3, n1, n2, n3, hl⟩ := A
  have n0 : sizeP zeroPt = 0 := rfl
  have hz := open_inv inv_zero
  have k0 : zeroPt.ok := inv_zero.ok
  have k1 : x1.ok := i1.ok
  have k2 : x2.ok := i2.ok
  have k3 : x3.ok := i3.ok
  obtain ⟨c0, f0⟩ := inv_zero.k
  obtain ⟨c1, f1⟩ := i1.k
  obtain ⟨c2, f2⟩ := i2.k
  obtain ⟨c3, f3⟩ := i3.k
  have he0 := ent0_fit.1
  have hnil : ∀ e ∈ ([] : List EntS), e.ok := by simp
  haveI rn : ∀ L, Rd L (.slice none 0 0) (entR []) := fun L => Rd.nilF entC 8 50
  have r3 : inR .i64 3 := ⟨by decide, by decide⟩
  have r0 : inR .i64 0 := ⟨by decide, by decide⟩
  have r1 : inR .i64 1 := ⟨by decide, by decide⟩
  refine fn_intro Try.func8 rfl Try.ntmps8 rfl (fun W0 => ?_)
  simp only [argE]
  refine r_seq ?_
  refine r_region (id := 0) ?_
  refine o_give (g_assign (evv rfl)) rfl rfl ?_
  refine o_nil ?_
  refine c_code ?_
  refine r_seq ?_
  refine r_region (id := 1) ?_
  (refine o_call rfl _ (Ent.refl _) (New_c _) rfl ?_; rintro _ _ ⟨np, rfl, rfl⟩)
  refine o_give (g_assign (evv rfl)) rfl rfl ?_
  refine o_nil ?_
  refine c_code ?_
  refine r_seq ?_
  refine r_region (id := 2) ?_
  refine o_give (g_move (evv rfl)) rfl rfl ?_
  (refine o_call rfl _ (PickR.ent (K := pt _)) (Open_ok _ _ _ _ _ (by assumption) (by first | assumption | omega) (by assumption)) rfl ?_; rintro _ _ ⟨oj, ov, rfl, rfl⟩; dsimp only [openV])
  refine o_give (g_move (evv rfl)) rfl rfl ?_
  refine o_give (g_extract (evv rfl) (by rfl)) rfl rfl ?_
  refine o_give (g_extract (evv rfl) (by rfl)) rfl rfl ?_
  refine o_give (g_extract (evv rfl) (by rfl)) rfl rfl ?_
  refine o_alloc rfl rfl (fun _ => ?_)
  refine o_give (g_assign (evv rfl)) rfl rfl ?_
  refine o_storeW (evv rfl) (evv rfl) (by first | rfl | assumption | exact LenC.h _ | (simp [bys, *]; done) | fail) (by first | (intro _ _ _; exact bys_one _) | exact AllOne.h | (intro _ _ _ u hu; simp at hu; rcases hu with rfl | rfl | rfl | rfl | rfl | rfl | rfl | rfl <;> rfl) | fail) (by first | rfl | exact (LenC.h _).trans rfl | exact (LenC.h _).trans (LenC.h _).symm | (simp [bys, *]; done) | (simp only [bys, List.length_map, *]; rfl) | fail) ?_
  refine o_give (g_assign (evv rfl)) rfl rfl ?_
  refine o_nil ?_
  refine c_code ?_
  refine r_seq ?_
  refine r_seq ?_
  refine r_region (id := 3) ?_
  refine o_give (g_move (evv rfl)) rfl rfl ?_
  refine o_give (g_bin (evv rfl) (evv rfl) (by rfl)) rfl rfl ?_
  refine o_give (g_move (evv rfl)) rfl rfl ?_
  refine o_gyes rfl ?_
  refine o_give (g_move (evv rfl)) rfl rfl ?_
  refine o_gyes rfl ?_
  refine o_give (g_pnil TyU.h (evv rfl) (evv rfl) (by simp) (by rfl)) rfl rfl ?_
  refine o_give (g_pick (b := false) (evv rfl) (fun h => by cases h) (fun _ => (evv rfl))) rfl rfl ?_
  refine o_give (g_move (evv rfl)) rfl rfl ?_
  refine o_gyes rfl ?_
  refine o_give (g_fld (evv rfl)) rfl rfl ?_
  refine o_gyes rfl ?_
  refine o_give (g_load (evv rfl) (by rfl) (by rfl)) rfl rfl ?_
  refine o_gyes rfl ?_
  refine o_give (g_bin (evv rfl) (evv rfl) (by rfl)) rfl rfl ?_
  refine o_give (g_pick (b := false) (evv rfl) (fun h => by cases h) (fun _ => (evv rfl))) rfl rfl ?_
  refine o_give (g_move (evv rfl)) rfl rfl ?_
  refine o_gyes rfl ?_
  refine o_give (g_fld (evv rfl)) rfl rfl ?_
  refine o_gyes rfl ?_
  refine o_give (g_load (evv rfl) (by rfl) (by rfl)) rfl rfl ?_
  refine o_gyes rfl ?_
  refine o_give (g_lenF (evv rfl)) rfl rfl ?_
  refine o_gyes rfl ?_
  refine o_give (g_bin (evv rfl) (evv rfl) (by rfl)) rfl rfl ?_
  refine o_give (g_pick (b := false) (evv rfl) (fun h => by cases h) (fun _ => (evv rfl))) rfl rfl ?_
  refine o_nil ?_
  refine c_code ?_
  refine r_cond_false rfl ?_
  refine r_skip ?_
  refine c_code ?_
  refine r_seq ?_
  refine r_region (id := 5) ?_
  refine o_give (g_move (evv rfl)) rfl rfl ?_
  (refine o_call rfl _ (pick2 (K1 := jr _) (K2 := pt _)) (View_c _ _ _ _ _ _ (by assumption) (by assumption) (by assumption) (by first | assumption | omega)) rfl ?_; rintro _ _ ⟨rfl, rfl⟩)
  refine o_give (g_assign (evv rfl)) rfl rfl ?_
  refine o_nil ?_
  refine c_code ?_
  refine r_seq ?_
  rw [hv]
  dsimp only
  refine r_region (id := 6) ?_
  refine o_give (g_move (evv rfl)) rfl rfl ?_
  refine o_give (g_buildC rfl (by rfl)) rfl rfl ?_
  refine o_give (g_buildC rfl (by rfl)) rfl rfl ?_
  refine o_call (vs := [.pointer (some ⟨oj, 0, none⟩), agg (entC ent0)]) rfl _ (pick2 (K1 := jr _) (K2 := pt _)) (Entry_c _ _ _ _ _ ent0 k1 c1 f1 he0 (by omega)) rfl ?_
  rintro _ _ ⟨rfl, rfl⟩
  rw [he]
  dsimp only
  refine o_give (g_assign (evv rfl)) rfl rfl ?_
  refine o_nil ?_
  refine c_code ?_
  refine r_seq ?_
  refine r_region (id := 7) ?_
  refine o_give (g_move (evv rfl)) rfl rfl ?_
  refine o_call (vs := [.pointer (some ⟨oj, 0, none⟩), .int .i64 3, .int .i64 0, .slice none 0 0]) rfl _ (pick2 (K1 := jr _) (K2 := pt _)) (Adopt_c _ _ _ _ _ 3 0 (.slice none 0 0) [] k2 c2 f2 hnil (by decide) (by omega) r3 r0) rfl ?_
  rintro _ _ ⟨rfl, rfl⟩
  rw [ha]
  dsimp only
  refine o_give (g_assign (evv rfl)) rfl rfl ?_
  refine o_nil ?_
  refine c_code ?_
  refine r_seq ?_
  refine r_region (id := 8) ?_
  refine o_give (g_move (evv rfl)) rfl rfl ?_
  refine o_call (vs := [.pointer (some ⟨oj, 0, none⟩), .int .i64 3, .int .i64 1, .slice none 0 0]) rfl _ (pick2 (K1 := jr _) (K2 := pt _)) (Adopt_c _ _ _ _ _ 3 1 (.slice none 0 0) [] k3 c3 f3 hnil (by decide) (by omega) r3 r1) rfl ?_
  rintro _ _ ⟨rfl, rfl⟩
  rw [hb]
  dsimp only
  refine o_give (g_assign (evv rfl)) rfl rfl ?_
  refine o_nil ?_
  refine c_code ?_
  refine r_seq ?_
  refine r_region (id := 9) ?_
  refine o_give (g_move (evv rfl)) rfl rfl ?_
  (refine o_call rfl _ (PickR.ent (K := jr _)) (Kept_c _ _ _ _ (by assumption)) rfl ?_; rintro _ _ ⟨kv, rfl, rfl⟩)
  refine o_storeW (evv rfl) (evv rfl) (by first | rfl | assumption | exact LenC.h _ | (simp [bys, *]; done) | fail) (by first | (intro _ _ _; exact bys_one _) | exact AllOne.h | (intro _ _ _ u hu; simp at hu; rcases hu with rfl | rfl | rfl | rfl | rfl | rfl | rfl | rfl <;> rfl) | fail) (by first | rfl | exact (LenC.h _).trans rfl | exact (LenC.h _).trans (LenC.h _).symm | (simp [bys, *]; done) | (simp only [bys, List.length_map, *]; rfl) | fail) ?_
  refine o_nil ?_
  refine c_code ?_
  refine r_seq ?_
  refine r_region (id := 10) ?_
  refine o_give (g_move (evv rfl)) rfl rfl ?_
  refine o_give (g_bin (evv rfl) (evv rfl) (by rfl)) rfl rfl ?_
  refine o_give (g_move (evv rfl)) rfl rfl ?_
  refine o_gyes rfl ?_
  refine o_give (g_move (evv rfl)) rfl rfl ?_
  refine o_gyes rfl ?_
  refine o_give (g_bin (evv rfl) (evv rfl) (by rfl)) rfl rfl ?_
  refine o_give (g_pick (b := true) (evv rfl) (fun _ => (evv rfl)) (fun h => by cases h)) rfl rfl ?_
  refine o_give (g_move (evv rfl)) rfl rfl ?_
  refine o_gyes rfl ?_
  refine o_give (g_move (evv rfl)) rfl rfl ?_
  refine o_gyes rfl ?_
  refine o_give (g_bin (evv rfl) (evv rfl) (by rfl)) rfl rfl ?_
  refine o_give (g_pick (b := true) (evv rfl) (fun _ => (evv rfl)) (fun h => by cases h)) rfl rfl ?_
  refine o_give (g_move (evv rfl)) rfl rfl ?_
  refine o_gyes rfl ?_
  refine o_give (g_move (evv rfl)) rfl rfl ?_
  refine o_gyes rfl ?_
  refine o_give (g_bin (evv rfl) (evv rfl) (by rfl)) rfl rfl ?_
  refine o_give (g_pick (b := true) (evv rfl) (fun _ => (evv rfl)) (fun h => by cases h)) rfl rfl ?_
  refine o_give (g_move (evv rfl)) rfl rfl ?_
  refine o_gyes rfl ?_
  refine o_give (g_fld (evv rfl)) rfl rfl ?_
  refine o_gyes rfl ?_
  refine o_give (g_load (evv rfl) (by rfl) (by rfl)) rfl rfl ?_
  refine o_gyes rfl ?_
  refine o_give (g_bin (evv rfl) (evv rfl) (by rfl)) rfl rfl ?_
  refine o_give (g_pick (b := true) (evv rfl) (fun _ => (evv rfl)) (fun h => by cases h)) rfl rfl ?_
  refine o_give (g_move (evv rfl)) rfl rfl ?_
  refine o_gyes rfl ?_
  refine o_give (g_fld (evv rfl)) rfl rfl ?_
  refine o_gyes rfl ?_
  refine o_give (g_load (evv rfl) (by rfl) (by rfl)) rfl rfl ?_
  refine o_gyes rfl ?_
  refine o_give (g_bin (evv rfl) (evv rfl) (by rfl)) rfl rfl ?_
  refine o_give (g_pick (b := true) (evv rfl) (fun _ => (evv rfl)) (fun h => by cases h)) rfl rfl ?_
  refine o_give (g_move (evv rfl)) rfl rfl ?_
  refine o_gyes rfl ?_
  refine o_give (g_fld (evv rfl)) rfl rfl ?_
  refine o_gyes rfl ?_
  refine o_give (g_load (evv rfl) (by rfl) (by rfl)) rfl rfl ?_
  refine o_gyes rfl ?_
  refine o_give (g_lenF (evv rfl)) rfl rfl ?_
  refine o_gyes rfl ?_
  refine o_give (g_bin (evv rfl) (evv rfl) (by rfl)) rfl rfl ?_
  refine o_give (g_pick (b := true) (evv rfl) (fun _ => (evv rfl)) (fun h => by cases h)) rfl rfl ?_
  refine o_give (g_move (evv rfl)) rfl rfl ?_
  refine o_gyes rfl ?_
  refine o_give (g_move (evv rfl)) rfl rfl ?_
  refine o_gyes rfl ?_
  (refine o_call rfl _ (PickR.ent (K := pt _)) (pRead_c _ _ _ (by assumption) _) rfl ?_; rintro cw _ ⟨-, rfl⟩)
  refine o_gyes rfl ?_
  refine o_give (g_lenM (evv rfl)) rfl rfl ?_
  refine o_gyes rfl ?_
  refine o_give (g_bin (evv rfl) (evv rfl) (by rfl)) rfl rfl ?_
  refine o_give (g_pick (b := true) (evv rfl) (fun _ => (evv rfl)) (fun h => by cases h)) rfl rfl ?_
  refine o_give (g_assign (evv rfl)) rfl rfl ?_
  refine o_nil ?_
  refine c_code ?_
  skip
  skip
  first | refine r_ret (rs := [.tmp 0]) rfl rfl _ ((Lay.ent (L' := F))) ?_ | refine c_end (rs := [.tmp 0]) rfl rfl _ ((Lay.ent (L' := F))) ?_
  exact ⟨congrArg Value.bool (decide_eq_true (by omega)), rfl⟩
end VK

namespace VK
open Go Go.Proofs
set_option linter.unusedSimpArgs false
set_option linter.unusedVariables false
set_option maxRecDepth 100000
set_option maxHeartbeats 40000000
theorem arm_size (x : Pt) (c : Int) : sizeP (armT x c) = sizeP x := by unfold armT; split <;> rfl
theorem DownJ.arm {x : Pt} {k k' : KeptS} (h : DownJ x k k') (c : Int) : DownJ (armT x c) k k' := by rw [arm_down h.down]; exact h
end VK

namespace VK
open Go Go.Proofs
set_option linter.unusedSimpArgs false
set_option linter.unusedVariables false
set_option maxRecDepth 100000
set_option maxHeartbeats 40000000
instance (L : List Atom) (a : ActJ) [RdA L a] : AllOne L (actC a) := by
  haveI : OneC L a.ve := inferInstance
  unfold actC
  infer_instance
end VK

namespace VK
open Go Go.Proofs
set_option linter.unusedSimpArgs false
set_option linter.unusedVariables false
set_option maxRecDepth 100000
set_option maxHeartbeats 40000000
end VK

namespace VK
open Go Go.Proofs
set_option linter.unusedSimpArgs false
set_option linter.unusedVariables false
set_option maxRecDepth 100000
set_option maxHeartbeats 40000000
theorem Open_dn (F : List Atom) (p : Nat) (x : Pt) (hx : x.ok) (hs : sizeP x + 262152 ≤ 1000000000) (hd : x.down = true) :
    Fn Try.prog 10 [.pointer (some ⟨p, 0, none⟩)] (pt p x :: F) fun w L' => w = openV 170 (.pointer none) zeroK (.slice none 0 0) ∧ L' = pt p x :: F := (Open_c F p x hx hs).mono fun v L' h => by
  have ho : openT x = (170, x, zeroK) := if_pos hd
  rw [ho] at h
  rcases h with ⟨h, _⟩ | ⟨_, h⟩
  · exact absurd h (show ¬ (170 : Int) = 0 by decide)
  · exact h
theorem arm1_down {y : Pt} (hd : y.down = false) : (synT (armT y 1) 0).2.down = true := by
  have h : armT y 1 = { y with armed := 1 } := by unfold armT; rw [if_neg (by simp [hd])]; rfl
  have h2 := syn_at (x := armT y 1) (i := 0) (.inl rfl) (by rw [h]; exact hd)
  rw [show (0 : Int) = ((0 : Nat) : Int) from rfl, h2, if_pos (by rw [h])]
  rw [h]
  rfl
theorem arm1_all {y : Pt} {k : KeptS} (h : InvJ y k) (hs : sizeP y ≤ 180008) : (synT (armT y 1) 0).2.down = true ∧ (armT y 1).ok ∧ (synT (armT y 1) 0).2.ok ∧ sizeP (synT (armT y 1) 0).2 + 262152 ≤ 1000000000 ∧ sizeP (armT y 1) ≤ 180008 := by
  have hdn := arm1_down h.down
  have hao := (h.arm (c := 1) ⟨by decide, by decide⟩).ok
  have has : sizeP (armT y 1) ≤ 180008 := by rw [arm_size]; exact hs
  obtain ⟨hso, hss⟩ := synT_ok hao (i := 0) (by omega)
  exact ⟨hdn, hao, hso, by omega, has⟩
theorem JournalChecks_c (W : World) (k : KeptS) (ve : Value) [rd : Rd [base W] ve (entR k.ents)] (hkf : k.fine) (hl : k.ents.length ≤ 1048576) (hst : k.state.length ≤ 140737488355000) :
    Fn Try.prog 4 [agg (kC k.view k.normal k.base k.state ve)] [base W] fun w L' => w = .bool true ∧ L' = [base W] := by
  have n0 : sizeP zeroPt = 0 := rfl
  have hz := open_inv inv_zero
  have k0 : zeroPt.ok := inv_zero.ok
  have kz := zeroK_ok
  have kf := zeroK_fine
  have hkf2 : ∀ e ∈ k.ents, e.ok := hkf
  have hke : (⟨k.view, k.normal, k.base, k.state, k.ents⟩ : KeptS) = k := rfl
  refine fn_intro Try.func4 rfl Try.ntmps4 rfl (fun W0 => ?_)
  simp only [argE]
  refine r_seq ?_
  refine r_region (id := 0) ?_
  refine o_boxA (evv rfl) rfl (fun _ => ?_)
  refine o_give (g_assign (evv rfl)) rfl rfl ?_
  refine o_nil ?_
  refine c_code ?_
  refine r_seq ?_
  refine r_seq ?_
  refine r_region (id := 1) ?_
  (refine o_call rfl _ (Ent.refl _) (jawake_c _) rfl ?_; rintro _ _ ⟨rfl, hLz⟩; obtain rfl := hLz.symm; clear hLz)
  refine o_give (g_not (evv rfl)) rfl rfl ?_
  refine o_nil ?_
  refine c_code ?_
  refine r_cond_false rfl ?_
  refine r_skip ?_
  refine c_code ?_
  refine r_seq ?_
  refine r_seq ?_
  refine r_region (id := 3) ?_
  refine o_give (g_fld (evv rfl)) rfl rfl ?_
  refine o_give (g_load (evv rfl) (by rfl) (by rfl)) rfl rfl ?_
  refine o_give (g_lenF (evv rfl)) rfl rfl ?_
  refine o_give (g_bin (evv rfl) (evv rfl) (by rfl)) rfl rfl ?_
  refine o_nil ?_
  refine c_code ?_
  rename_i q
  refine r_cond rfl (fun hbig => ?_) (fun hbig => ?_) <;> (try simp only [decide_eq_true_eq, decide_eq_false_iff_not, Bool.and_eq_true, Bool.or_eq_true, Bool.not_eq_true', Bool.and_eq_false_iff, Bool.or_eq_false_iff, Bool.not_eq_false', Bool.not_eq_true, Bool.not_eq_false, Bool.true_eq_false, Bool.false_eq_true, Int.not_lt, Int.not_le, not_and, not_or, ne_eq] at hbig)
  · refine r_seq ?_
    refine r_region (id := 4) ?_
    refine o_give (g_assign (evv rfl)) rfl rfl ?_
    refine o_nil ?_
    refine c_code ?_
    first | refine r_ret (rs := [.tmp 2]) rfl rfl _ ((Lay.ent (L' := [base W]))) ?_ | refine c_end (rs := [.tmp 2]) rfl rfl _ ((Lay.ent (L' := [base W]))) ?_
    exact ⟨rfl, rfl⟩
  by_cases hK : k.ok
  · obtain ⟨y, hL, hIy, hay⟩ := lay_free (k0 := zeroK) k0 rfl rfl hK hkf (by omega)
    have hsy := (layT_ok k0 (k0 := zeroK) hkf (by omega)).2
    rw [hL] at hsy
    dsimp only at hsy
    have hoy := open_inv hIy
    have hyo := hIy.ok
    refine r_skip ?_
    refine c_code ?_
    refine r_seq ?_
    refine r_region (id := 5) ?_
    refine o_give (g_loadF (evv rfl) (by rfl) (by rfl)) rfl rfl ?_
    (refine o_call rfl _ (Ent.refl _) (rjCheck_c _ _ _ _ _ _ _ (by first | assumption | omega) (by first | assumption | omega) (by assumption)) rfl ?_; rintro _ _ ⟨rfl, hLz⟩; obtain rfl := hLz.symm; clear hLz)
    refine o_give (g_assign (evv rfl)) rfl rfl ?_
    refine o_nil ?_
    refine c_code ?_
    refine r_seq ?_
    refine r_region (id := 6) ?_
    (refine o_call rfl _ (Ent.refl _) (New_c _) rfl ?_; rintro _ _ ⟨np, rfl, rfl⟩)
    refine o_give (g_assign (evv rfl)) rfl rfl ?_
    refine o_nil ?_
    refine c_code ?_
    refine r_seq ?_
    refine r_region (id := 7) ?_
    refine o_give (g_move (evv rfl)) rfl rfl ?_
    (refine o_call rfl _ (PickR.ent (K := pt _)) (Open_ok _ _ _ _ _ (by assumption) (by first | assumption | omega) (by assumption)) rfl ?_; rintro _ _ ⟨oj, ov, rfl, rfl⟩; dsimp only [openV])
    refine o_give (g_move (evv rfl)) rfl rfl ?_
    refine o_give (g_extract (evv rfl) (by rfl)) rfl rfl ?_
    refine o_give (g_extract (evv rfl) (by rfl)) rfl rfl ?_
    refine o_give (g_extract (evv rfl) (by rfl)) rfl rfl ?_
    refine o_alloc rfl rfl (fun _ => ?_)
    refine o_give (g_assign (evv rfl)) rfl rfl ?_
    refine o_storeW (evv rfl) (evv rfl) (by first | rfl | assumption | exact LenC.h _ | (simp [bys, *]; done) | fail) (by first | (intro _ _ _; exact bys_one _) | exact AllOne.h | (intro _ _ _ u hu; simp at hu; rcases hu with rfl | rfl | rfl | rfl | rfl | rfl | rfl | rfl <;> rfl) | fail) (by first | rfl | exact (LenC.h _).trans rfl | exact (LenC.h _).trans (LenC.h _).symm | (simp [bys, *]; done) | (simp only [bys, List.length_map, *]; rfl) | fail) ?_
    refine o_give (g_assign (evv rfl)) rfl rfl ?_
    refine o_nil ?_
    refine c_code ?_
    refine r_seq ?_
    refine r_region (id := 8) ?_
    refine o_give (g_move (evv rfl)) rfl rfl ?_
    refine o_give (g_loadF (evv rfl) (by rfl) (by rfl)) rfl rfl ?_
    (refine o_call rfl _ (pick2 (K1 := jr _) (K2 := pt _)) (LayC_c _ _ _ _ _ _ _ _ _ _ _ (by assumption) (by assumption) (by assumption) (by assumption) (by first | assumption | omega) (by first | assumption | omega) (by first | assumption | omega)) rfl ?_; rintro _ _ ⟨rfl, rfl⟩)
    refine o_give (g_assign (evv rfl)) rfl rfl ?_
    refine o_nil ?_
    refine c_code ?_
    refine r_seq ?_
    rw [hke, hL]
    dsimp only
    simp only [decide_eq_true hK]
    refine r_region (id := 9) ?_
    refine o_give (g_move (evv rfl)) rfl rfl ?_
    (refine o_call rfl _ (PickR.ent (K := pt _)) (Open_ok _ _ _ _ _ (by assumption) (by first | assumption | omega) (by assumption)) rfl ?_; rintro _ _ ⟨oj, ov, rfl, rfl⟩; dsimp only [openV])
    refine o_give (g_move (evv rfl)) rfl rfl ?_
    refine o_give (g_extract (evv rfl) (by rfl)) rfl rfl ?_
    refine o_give (g_extract (evv rfl) (by rfl)) rfl rfl ?_
    refine o_give (g_extract (evv rfl) (by rfl)) rfl rfl ?_
    refine o_alloc rfl rfl (fun _ => ?_)
    refine o_give (g_assign (evv rfl)) rfl rfl ?_
    refine o_storeW (evv rfl) (evv rfl) (by first | rfl | assumption | exact LenC.h _ | (simp [bys, *]; done) | fail) (by first | (intro _ _ _; exact bys_one _) | exact AllOne.h | (intro _ _ _ u hu; simp at hu; rcases hu with rfl | rfl | rfl | rfl | rfl | rfl | rfl | rfl <;> rfl) | fail) (by first | rfl | exact (LenC.h _).trans rfl | exact (LenC.h _).trans (LenC.h _).symm | (simp [bys, *]; done) | (simp only [bys, List.length_map, *]; rfl) | fail) ?_
    refine o_give (g_assign (evv rfl)) rfl rfl ?_
    refine o_nil ?_
    refine c_code ?_
    refine r_seq ?_
    refine r_seq ?_
    refine r_region (id := 10) ?_
    refine o_give (g_loadF (evv rfl) (by rfl) (by rfl)) rfl rfl ?_
    (refine o_call rfl _ (Ent.refl _) (jCheck_c _ _ _ _ _ _ _ (by first | assumption | omega) (by first | assumption | omega) (by assumption)) rfl ?_; rintro _ _ ⟨rfl, hLz⟩; obtain rfl := hLz.symm; clear hLz)
    refine o_give (g_bin (evv rfl) (evv rfl) (by rfl)) rfl rfl ?_
    refine o_give (g_move (evv rfl)) rfl rfl ?_
    refine o_give (g_binB TyU.h (evv rfl) (evv rfl) (by rfl)) rfl rfl ?_
    refine o_give (g_move (evv rfl)) rfl rfl ?_
    refine o_lazy rfl (fun hg => g_move (by first | exact evv rfl | exact evg rfl (by rw [hp]; rfl) | exact evg rfl hp | exact evg rfl hg | exact evg rfl (by first | (simp_all; done) | (simp [*]; done) | fail) | fail)) rfl rfl ?_
    refine o_lazy rfl (fun hg => g_not (by first | exact evv rfl | exact evg rfl (by rw [hp]; rfl) | exact evg rfl hp | exact evg rfl hg | exact evg rfl (by first | (simp_all; done) | (simp [*]; done) | fail) | fail)) rfl rfl ?_
    refine o_lazy rfl (fun hg => g_move (by first | exact evv rfl | exact evg rfl (by rw [hp]; rfl) | exact evg rfl hp | exact evg rfl hg | exact evg rfl (by first | (simp_all; done) | (simp [*]; done) | fail) | fail)) rfl rfl ?_
    refine o_lazy rfl (fun hg => g_loadF (evv rfl) (by rfl) (by rfl)) rfl rfl ?_
    refine o_lazy (v0 := undef) rfl (fun hg => absurd hg (by first | (simp; done) | fail)) rfl rfl ?_
    refine o_lazy (v0 := undef) rfl (fun hg => absurd hg (by first | (simp; done) | fail)) rfl rfl ?_
    refine o_lazy rfl (fun hg => g_move (by first | exact evv rfl | exact evg rfl (by rw [hp]; rfl) | exact evg rfl hp | exact evg rfl hg | exact evg rfl (by first | (simp_all; done) | (simp [*]; done) | fail) | fail)) rfl rfl ?_
    simp only [hke, if_pos hK, decide_true, bne_self_eq_false]
    refine o_off rfl rfl rfl ?_
    refine o_off rfl rfl rfl ?_
    refine o_lazy (v0 := undef) rfl (fun hg => absurd hg (by first | (simp; done) | fail)) rfl rfl ?_
    refine o_lazy rfl (fun hg => g_move (by first | exact evv rfl | exact evg rfl (by rw [hp]; rfl) | exact evg rfl hp | exact evg rfl hg | exact evg rfl (by first | (simp_all; done) | (simp [*]; done) | fail) | fail)) rfl rfl ?_
    refine o_off rfl rfl rfl ?_
    refine o_off rfl rfl rfl ?_
    refine o_off rfl rfl rfl ?_
    refine o_off rfl rfl rfl ?_
    refine o_lazy (v0 := undef) rfl (fun hg => absurd hg (by first | (simp; done) | fail)) rfl rfl ?_
    refine o_lazy rfl (fun hg => g_pick (b := false) (by first | exact evv rfl | exact evg rfl (by rw [hp]; rfl) | exact evg rfl hp | exact evg rfl hg | exact evg rfl (by first | (simp_all; done) | (simp [*]; done) | fail) | fail) (fun h => by cases h) (fun _ => (by first | exact evv rfl | exact evg rfl (by rw [hp]; rfl) | exact evg rfl hp | exact evg rfl hg | exact evg rfl (by first | (simp_all; done) | (simp [*]; done) | fail) | fail))) rfl rfl ?_
    refine o_give (g_pick_or (evv rfl) (evv rfl) (fun hp => (by first | exact evv rfl | exact evg rfl (by rw [hp]; rfl) | exact evg rfl hp | exact evg rfl hg | exact evg rfl (by first | (simp_all; done) | (simp [*]; done) | fail) | fail))) rfl rfl ?_
    refine o_give (g_move (evv rfl)) rfl rfl ?_
    refine o_gyes rfl ?_
    refine o_give (g_move (evv rfl)) rfl rfl ?_
    refine o_gyes rfl ?_
    refine o_give (g_move (evv rfl)) rfl rfl ?_
    refine o_gyes rfl ?_
    refine o_give (g_move (evv rfl)) rfl rfl ?_
    refine o_gyes rfl ?_
    refine o_give (g_bin (evv rfl) (evv rfl) (by rfl)) rfl rfl ?_
    refine o_gyes rfl ?_
    refine o_give (g_move (evv rfl)) rfl rfl ?_
    refine o_gyes rfl ?_
    refine o_give (g_loadF (evv rfl) (by rfl) (by rfl)) rfl rfl ?_
    refine o_gyes rfl ?_
    refine o_give (g_loadF (evv rfl) (by rfl) (by rfl)) rfl rfl ?_
    refine o_gyes rfl ?_
    (refine o_call rfl _ (Ent.refl _) (SameK_c _ _ _ _ _) rfl ?_; rintro _ _ ⟨rfl, hLz⟩; obtain rfl := hLz.symm; clear hLz)
    refine o_gyes rfl ?_
    refine o_give (g_not (evv rfl)) rfl rfl ?_
    refine o_gyes rfl ?_
    refine o_give (g_pick (b := false) (evv rfl) (fun h => by cases h) (fun _ => (evv rfl))) rfl rfl ?_
    refine o_gyes rfl ?_
    refine o_give (g_pick (b := true) (evv rfl) (fun _ => (evv rfl)) (fun h => by cases h)) rfl rfl ?_
    refine o_give (g_pick (b := false) (evv rfl) (fun h => by cases h) (fun _ => (evv rfl))) rfl rfl ?_
    refine o_give (g_move (evv rfl)) rfl rfl ?_
    refine o_lazy rfl (fun hg => g_move (by first | exact evv rfl | exact evg rfl (by rw [hp]; rfl) | exact evg rfl hp | exact evg rfl hg | exact evg rfl (by first | (simp_all; done) | (simp [*]; done) | fail) | fail)) rfl rfl ?_
    refine o_lazy rfl (fun hg => g_bin (by first | exact evv rfl | exact evg rfl (by rw [hp]; rfl) | exact evg rfl hp | exact evg rfl hg | exact evg rfl (by first | (simp_all; done) | (simp [*]; done) | fail) | fail) (by first | exact evv rfl | exact evg rfl (by rw [hp]; rfl) | exact evg rfl hp | exact evg rfl hg | exact evg rfl (by first | (simp_all; done) | (simp [*]; done) | fail) | fail) (by rfl)) rfl rfl ?_
    refine o_give (g_pick_or (evv rfl) (evv rfl) (fun hp => (by first | exact evv rfl | exact evg rfl (by rw [hp]; rfl) | exact evg rfl hp | exact evg rfl hg | exact evg rfl (by first | (simp_all; done) | (simp [*]; done) | fail) | fail))) rfl rfl ?_
    refine o_nil ?_
    refine c_code ?_
    refine r_cond rfl (fun hbad => ?_) (fun hbad => ?_) <;> (try simp only [decide_eq_true_eq, decide_eq_false_iff_not, Bool.and_eq_true, Bool.or_eq_true, Bool.not_eq_true', Bool.and_eq_false_iff, Bool.or_eq_false_iff, Bool.not_eq_false', Bool.not_eq_true, Bool.not_eq_false, Bool.true_eq_false, Bool.false_eq_true, Int.not_lt, Int.not_le, not_and, not_or, ne_eq] at hbad)
    · exact absurd hbad (by simp)
    obtain ⟨hdn, hao, hso, hss2, has⟩ := arm1_all hIy (by omega)
    refine r_skip ?_
    refine c_code ?_
    refine r_seq ?_
    refine r_region (id := 12) ?_
    refine o_give (g_assign (evv rfl)) rfl rfl ?_
    refine o_nil ?_
    refine c_code ?_
    refine r_seq ?_
    refine r_region (id := 13) ?_
    (refine o_call rfl _ (Ent.refl _) (Open_nil _) rfl ?_; rintro _ _ ⟨rfl, hLz⟩; obtain rfl := hLz.symm; clear hLz; dsimp only [openV])
    refine o_give (g_move (evv rfl)) rfl rfl ?_
    refine o_give (g_extract (evv rfl) (by rfl)) rfl rfl ?_
    refine o_give (g_extract (evv rfl) (by rfl)) rfl rfl ?_
    refine o_give (g_extract (evv rfl) (by rfl)) rfl rfl ?_
    refine o_alloc rfl rfl (fun _ => ?_)
    refine o_give (g_assign (evv rfl)) rfl rfl ?_
    refine o_storeW (evv rfl) (evv rfl) (by first | rfl | assumption | exact LenC.h _ | (simp [bys, *]; done) | fail) (by first | (intro _ _ _; exact bys_one _) | exact AllOne.h | (intro _ _ _ u hu; simp at hu; rcases hu with rfl | rfl | rfl | rfl | rfl | rfl | rfl | rfl <;> rfl) | fail) (by first | rfl | exact (LenC.h _).trans rfl | exact (LenC.h _).trans (LenC.h _).symm | (simp [bys, *]; done) | (simp only [bys, List.length_map, *]; rfl) | fail) ?_
    refine o_give (g_assign (evv rfl)) rfl rfl ?_
    refine o_nil ?_
    refine c_code ?_
    refine r_seq ?_
    refine r_region (id := 14) ?_
    refine o_give (g_move (evv rfl)) rfl rfl ?_
    (refine o_call rfl _ (PickR.ent (K := pt _)) (Arm_c _ _ _ _) rfl ?_; rintro _ _ ⟨rfl, rfl⟩)
    refine o_nil ?_
    refine c_code ?_
    refine r_seq ?_
    refine r_region (id := 15) ?_
    refine o_give (g_move (evv rfl)) rfl rfl ?_
    (refine o_call rfl _ (PickR.ent (K := pt _)) (Sync_c _ _ _ (by assumption) _) rfl ?_; rintro _ _ ⟨rfl, rfl⟩)
    refine o_nil ?_
    refine c_code ?_
    refine r_seq ?_
    refine r_region (id := 16) ?_
    refine o_give (g_move (evv rfl)) rfl rfl ?_
    (refine o_call rfl _ (PickR.ent (K := pt _)) (Open_dn _ _ _ (by assumption) (by first | assumption | omega) (by assumption)) rfl ?_; rintro _ _ ⟨rfl, rfl⟩; dsimp only [openV])
    refine o_give (g_move (evv rfl)) rfl rfl ?_
    refine o_give (g_extract (evv rfl) (by rfl)) rfl rfl ?_
    refine o_give (g_extract (evv rfl) (by rfl)) rfl rfl ?_
    refine o_give (g_extract (evv rfl) (by rfl)) rfl rfl ?_
    refine o_alloc rfl rfl (fun _ => ?_)
    refine o_give (g_assign (evv rfl)) rfl rfl ?_
    refine o_storeW (evv rfl) (evv rfl) (by first | rfl | assumption | exact LenC.h _ | (simp [bys, *]; done) | fail) (by first | (intro _ _ _; exact bys_one _) | exact AllOne.h | (intro _ _ _ u hu; simp at hu; rcases hu with rfl | rfl | rfl | rfl | rfl | rfl | rfl | rfl <;> rfl) | fail) (by first | rfl | exact (LenC.h _).trans rfl | exact (LenC.h _).trans (LenC.h _).symm | (simp [bys, *]; done) | (simp only [bys, List.length_map, *]; rfl) | fail) ?_
    refine o_give (g_assign (evv rfl)) rfl rfl ?_
    refine o_nil ?_
    refine c_code ?_
    refine r_seq ?_
    refine r_region (id := 17) ?_
    refine o_give (g_move (evv rfl)) rfl rfl ?_
    refine o_give (g_pnil TyU.h (evv rfl) (evv rfl) (by simp) (by rfl)) rfl rfl ?_
    refine o_give (g_move (evv rfl)) rfl rfl ?_
    refine o_gyes rfl ?_
    refine o_give (g_move (evv rfl)) rfl rfl ?_
    refine o_gyes rfl ?_
    refine o_give (g_bin (evv rfl) (evv rfl) (by rfl)) rfl rfl ?_
    refine o_give (g_pick (b := true) (evv rfl) (fun _ => (evv rfl)) (fun h => by cases h)) rfl rfl ?_
    refine o_give (g_move (evv rfl)) rfl rfl ?_
    refine o_gyes rfl ?_
    refine o_give (g_move (evv rfl)) rfl rfl ?_
    refine o_gyes rfl ?_
    refine o_give (g_bin (evv rfl) (evv rfl) (by rfl)) rfl rfl ?_
    refine o_give (g_pick (b := true) (evv rfl) (fun _ => (evv rfl)) (fun h => by cases h)) rfl rfl ?_
    refine o_give (g_move (evv rfl)) rfl rfl ?_
    refine o_gyes rfl ?_
    refine o_give (g_move (evv rfl)) rfl rfl ?_
    refine o_gyes rfl ?_
    (refine o_call rfl _ (Ent.refl _) (View_nil _ _) rfl ?_; rintro _ _ ⟨rfl, hLz⟩; obtain rfl := hLz.symm; clear hLz)
    refine o_gyes rfl ?_
    refine o_give (g_bin (evv rfl) (evv rfl) (by rfl)) rfl rfl ?_
    refine o_give (g_pick (b := true) (evv rfl) (fun _ => (evv rfl)) (fun h => by cases h)) rfl rfl ?_
    refine o_give (g_move (evv rfl)) rfl rfl ?_
    refine o_gyes rfl ?_
    refine o_give (g_move (evv rfl)) rfl rfl ?_
    refine o_gyes rfl ?_
    refine o_give (v := agg [(Go.Value.int Go.IntKind.i64 0), (Go.Value.int Go.IntKind.i64 0), (Go.Value.int Go.IntKind.i64 0), (Go.Value.string { data := #[] }), (Go.Value.string { data := #[] }), (Go.Value.string { data := #[] }), (Go.Value.int Go.IntKind.i64 0), (Go.Value.int Go.IntKind.i64 0)]) (g_buildC rfl (by rfl)) rfl rfl ?_
    refine o_gyes rfl ?_
    (refine o_call (vs := [.pointer none, agg (entC default)]) rfl _ (Ent.refl _) (Entry_nil _ default ent0_ok) rfl ?_; rintro _ _ ⟨rfl, hLz⟩; obtain rfl := hLz.symm; clear hLz)
    refine o_gyes rfl ?_
    refine o_give (g_bin (evv rfl) (evv rfl) (by rfl)) rfl rfl ?_
    refine o_give (g_pick (b := true) (evv rfl) (fun _ => (evv rfl)) (fun h => by cases h)) rfl rfl ?_
    refine o_give (g_move (evv rfl)) rfl rfl ?_
    refine o_gyes rfl ?_
    refine o_give (g_move (evv rfl)) rfl rfl ?_
    refine o_gyes rfl ?_
    (refine o_call rfl _ (Ent.refl _) (Adopt_nil _) rfl ?_; rintro _ _ ⟨rfl, hLz⟩; obtain rfl := hLz.symm; clear hLz)
    refine o_gyes rfl ?_
    refine o_give (g_bin (evv rfl) (evv rfl) (by rfl)) rfl rfl ?_
    refine o_give (g_pick (b := true) (evv rfl) (fun _ => (evv rfl)) (fun h => by cases h)) rfl rfl ?_
    refine o_give (g_move (evv rfl)) rfl rfl ?_
    refine o_gyes rfl ?_
    refine o_give (g_move (evv rfl)) rfl rfl ?_
    refine o_gyes rfl ?_
    refine o_give (g_loadF (evv rfl) (by rfl) (by rfl)) rfl rfl ?_
    refine o_gyes rfl ?_
    (refine o_call rfl _ (Ent.refl _) (Lay_nil _ _) rfl ?_; rintro _ _ ⟨rfl, hLz⟩; obtain rfl := hLz.symm; clear hLz)
    refine o_gyes rfl ?_
    refine o_give (g_bin (evv rfl) (evv rfl) (by rfl)) rfl rfl ?_
    refine o_give (g_pick (b := true) (evv rfl) (fun _ => (evv rfl)) (fun h => by cases h)) rfl rfl ?_
    refine o_give (g_move (evv rfl)) rfl rfl ?_
    refine o_gyes rfl ?_
    refine o_give (g_move (evv rfl)) rfl rfl ?_
    refine o_gyes rfl ?_
    (refine o_call rfl _ (Ent.refl _) (Kept_nil _) rfl ?_; rintro _ _ ⟨rfl, hLz⟩; obtain rfl := hLz.symm; clear hLz)
    refine o_gyes rfl ?_
    refine o_give (v := agg [(Go.Value.int Go.IntKind.i64 0), (Go.Value.int Go.IntKind.i64 0), (Go.Value.int Go.IntKind.i64 0), (Go.Value.string { data := #[] }), (Go.Value.slice none 0 0)]) (g_buildC rfl (by rfl)) rfl rfl ?_
    refine o_gyes rfl ?_
    (refine o_call (vs := [agg (kC 0 0 0 [] (.slice none 0 0)), agg (kC 0 0 0 [] (.slice none 0 0))]) rfl _ (Ent.refl _) (SameK_c _ zeroK zeroK (.slice none 0 0) (.slice none 0 0) (ra := Rd.nilF entC 8 _) (rb := Rd.nilF entC 8 _)) rfl ?_; rintro _ _ ⟨rfl, hLz⟩; obtain rfl := hLz.symm; clear hLz)
    refine o_give (g_pick (b := true) (evv rfl) (fun _ => (evv rfl)) (fun h => by cases h)) rfl rfl ?_
    refine o_give (g_assign (evv rfl)) rfl rfl ?_
    refine o_nil ?_
    refine c_code ?_
    first | refine r_ret (rs := [.tmp 2]) rfl rfl _ ((Lay.ent (L' := [base W]))) ?_ | refine c_end (rs := [.tmp 2]) rfl rfl _ ((Lay.ent (L' := [base W]))) ?_
    exact ⟨congrArg Value.bool (decide_eq_true rfl), rfl⟩
  · have hL : layT zeroPt zeroK k = (1, zeroPt, zeroK) := if_pos hK
    have hIy := inv_zero
    refine r_skip ?_
    refine c_code ?_
    refine r_seq ?_
    refine r_region (id := 5) ?_
    refine o_give (g_loadF (evv rfl) (by rfl) (by rfl)) rfl rfl ?_
    (refine o_call rfl _ (Ent.refl _) (rjCheck_c _ _ _ _ _ _ _ (by first | assumption | omega) (by first | assumption | omega) (by assumption)) rfl ?_; rintro _ _ ⟨rfl, hLz⟩; obtain rfl := hLz.symm; clear hLz)
    refine o_give (g_assign (evv rfl)) rfl rfl ?_
    refine o_nil ?_
    refine c_code ?_
    refine r_seq ?_
    refine r_region (id := 6) ?_
    (refine o_call rfl _ (Ent.refl _) (New_c _) rfl ?_; rintro _ _ ⟨np, rfl, rfl⟩)
    refine o_give (g_assign (evv rfl)) rfl rfl ?_
    refine o_nil ?_
    refine c_code ?_
    refine r_seq ?_
    refine r_region (id := 7) ?_
    refine o_give (g_move (evv rfl)) rfl rfl ?_
    (refine o_call rfl _ (PickR.ent (K := pt _)) (Open_ok _ _ _ _ _ (by assumption) (by first | assumption | omega) (by assumption)) rfl ?_; rintro _ _ ⟨oj, ov, rfl, rfl⟩; dsimp only [openV])
    refine o_give (g_move (evv rfl)) rfl rfl ?_
    refine o_give (g_extract (evv rfl) (by rfl)) rfl rfl ?_
    refine o_give (g_extract (evv rfl) (by rfl)) rfl rfl ?_
    refine o_give (g_extract (evv rfl) (by rfl)) rfl rfl ?_
    refine o_alloc rfl rfl (fun _ => ?_)
    refine o_give (g_assign (evv rfl)) rfl rfl ?_
    refine o_storeW (evv rfl) (evv rfl) (by first | rfl | assumption | exact LenC.h _ | (simp [bys, *]; done) | fail) (by first | (intro _ _ _; exact bys_one _) | exact AllOne.h | (intro _ _ _ u hu; simp at hu; rcases hu with rfl | rfl | rfl | rfl | rfl | rfl | rfl | rfl <;> rfl) | fail) (by first | rfl | exact (LenC.h _).trans rfl | exact (LenC.h _).trans (LenC.h _).symm | (simp [bys, *]; done) | (simp only [bys, List.length_map, *]; rfl) | fail) ?_
    refine o_give (g_assign (evv rfl)) rfl rfl ?_
    refine o_nil ?_
    refine c_code ?_
    refine r_seq ?_
    refine r_region (id := 8) ?_
    refine o_give (g_move (evv rfl)) rfl rfl ?_
    refine o_give (g_loadF (evv rfl) (by rfl) (by rfl)) rfl rfl ?_
    (refine o_call rfl _ (pick2 (K1 := jr _) (K2 := pt _)) (LayC_c _ _ _ _ _ _ _ _ _ _ _ (by assumption) (by assumption) (by assumption) (by assumption) (by first | assumption | omega) (by first | assumption | omega) (by first | assumption | omega)) rfl ?_; rintro _ _ ⟨rfl, rfl⟩)
    refine o_give (g_assign (evv rfl)) rfl rfl ?_
    refine o_nil ?_
    refine c_code ?_
    refine r_seq ?_
    rw [hke, hL]
    dsimp only
    simp only [decide_eq_false hK]
    refine r_region (id := 9) ?_
    refine o_give (g_move (evv rfl)) rfl rfl ?_
    (refine o_call rfl _ (PickR.ent (K := pt _)) (Open_ok _ _ _ _ _ (by assumption) (by first | assumption | omega) (by assumption)) rfl ?_; rintro _ _ ⟨oj, ov, rfl, rfl⟩; dsimp only [openV])
    refine o_give (g_move (evv rfl)) rfl rfl ?_
    refine o_give (g_extract (evv rfl) (by rfl)) rfl rfl ?_
    refine o_give (g_extract (evv rfl) (by rfl)) rfl rfl ?_
    refine o_give (g_extract (evv rfl) (by rfl)) rfl rfl ?_
    refine o_alloc rfl rfl (fun _ => ?_)
    refine o_give (g_assign (evv rfl)) rfl rfl ?_
    refine o_storeW (evv rfl) (evv rfl) (by first | rfl | assumption | exact LenC.h _ | (simp [bys, *]; done) | fail) (by first | (intro _ _ _; exact bys_one _) | exact AllOne.h | (intro _ _ _ u hu; simp at hu; rcases hu with rfl | rfl | rfl | rfl | rfl | rfl | rfl | rfl <;> rfl) | fail) (by first | rfl | exact (LenC.h _).trans rfl | exact (LenC.h _).trans (LenC.h _).symm | (simp [bys, *]; done) | (simp only [bys, List.length_map, *]; rfl) | fail) ?_
    refine o_give (g_assign (evv rfl)) rfl rfl ?_
    refine o_nil ?_
    refine c_code ?_
    refine r_seq ?_
    refine r_seq ?_
    refine r_region (id := 10) ?_
    refine o_give (g_loadF (evv rfl) (by rfl) (by rfl)) rfl rfl ?_
    (refine o_call rfl _ (Ent.refl _) (jCheck_c _ _ _ _ _ _ _ (by first | assumption | omega) (by first | assumption | omega) (by assumption)) rfl ?_; rintro _ _ ⟨rfl, hLz⟩; obtain rfl := hLz.symm; clear hLz)
    refine o_give (g_bin (evv rfl) (evv rfl) (by rfl)) rfl rfl ?_
    refine o_give (g_move (evv rfl)) rfl rfl ?_
    refine o_give (g_binB TyU.h (evv rfl) (evv rfl) (by rfl)) rfl rfl ?_
    refine o_give (g_move (evv rfl)) rfl rfl ?_
    refine o_lazy rfl (fun hg => g_move (by first | exact evv rfl | exact evg rfl (by rw [hp]; rfl) | exact evg rfl hp | exact evg rfl hg | exact evg rfl (by first | (simp_all; done) | (simp [*]; done) | fail) | fail)) rfl rfl ?_
    refine o_lazy rfl (fun hg => g_not (by first | exact evv rfl | exact evg rfl (by rw [hp]; rfl) | exact evg rfl hp | exact evg rfl hg | exact evg rfl (by first | (simp_all; done) | (simp [*]; done) | fail) | fail)) rfl rfl ?_
    refine o_lazy rfl (fun hg => g_move (by first | exact evv rfl | exact evg rfl (by rw [hp]; rfl) | exact evg rfl hp | exact evg rfl hg | exact evg rfl (by first | (simp_all; done) | (simp [*]; done) | fail) | fail)) rfl rfl ?_
    refine o_lazy rfl (fun hg => g_loadF (evv rfl) (by rfl) (by rfl)) rfl rfl ?_
    simp only [hke, if_neg hK, show decide ((1 : Int) = 0) = false from rfl, bne_self_eq_false, Bool.not_false, Bool.and_self]
    refine o_sure (t := 51) rfl rfl ?_
    refine o_sure (t := 52) rfl rfl ?_
    refine o_gyes rfl ?_
    (refine o_call rfl _ (Ent.refl _) (jCheck_c _ _ _ _ _ _ _ (by first | assumption | omega) (by first | assumption | omega) (by assumption)) rfl ?_; rintro _ _ ⟨rfl, hLz⟩; obtain rfl := hLz.symm; clear hLz)
    refine o_gyes rfl ?_
    refine o_give (g_bin (evv rfl) (evv rfl) (by rfl)) rfl rfl ?_
    refine o_gyes rfl ?_
    refine o_give (g_move (evv rfl)) rfl rfl ?_
    refine o_lazy rfl (fun hg => g_move (by first | exact evv rfl | exact evg rfl (by rw [hp]; rfl) | exact evg rfl hp | exact evg rfl hg | exact evg rfl (by first | (simp_all; done) | (simp [*]; done) | fail) | fail)) rfl rfl ?_
    refine o_lazy rfl (fun hg => g_bin (by first | exact evv rfl | exact evg rfl (by rw [hp]; rfl) | exact evg rfl hp | exact evg rfl hg | exact evg rfl (by first | (simp_all; done) | (simp [*]; done) | fail) | fail) (by first | exact evv rfl | exact evg rfl (by rw [hp]; rfl) | exact evg rfl hp | exact evg rfl hg | exact evg rfl (by first | (simp_all; done) | (simp [*]; done) | fail) | fail) (by rfl)) rfl rfl ?_
    refine o_gyes rfl ?_
    refine o_give (g_pick_or (evv rfl) (evv rfl) (fun hp => (by first | exact evv rfl | exact evg rfl (by rw [hp]; rfl) | exact evg rfl hp | exact evg rfl hg | exact evg rfl (by first | (simp_all; done) | (simp [*]; done) | fail) | fail))) rfl rfl ?_
    refine o_gyes rfl ?_
    refine o_give (g_move (evv rfl)) rfl rfl ?_
    refine o_lazy rfl (fun hg => g_loadF (evv rfl) (by rfl) (by rfl)) rfl rfl ?_
    simp only [hke, if_neg hK, show decide ((1 : Int) = 1) = true from rfl, show decide ((0 : Int) = 0) = true from rfl, bne_self_eq_false, Bool.not_false, Bool.not_true, Bool.and_self, Bool.or_self, Bool.false_or, Bool.or_false, Bool.true_and]
    refine o_sure (t := 60) rfl rfl ?_
    refine o_gyes rfl ?_
    refine o_give (v := agg [(Go.Value.int Go.IntKind.i64 0), (Go.Value.int Go.IntKind.i64 0), (Go.Value.int Go.IntKind.i64 0), (Go.Value.string { data := #[] }), (Go.Value.slice none 0 0)]) (g_buildC rfl (by rfl)) rfl rfl ?_
    refine o_gyes rfl ?_
    (refine o_call (vs := [agg (kC 0 0 0 [] _), agg (kC 0 0 0 [] (.slice none 0 0))]) rfl _ (Ent.refl _) (SameK_c _ zeroK zeroK _ (.slice none 0 0) (rb := Rd.nilF entC 8 _)) rfl ?_; rintro _ _ ⟨rfl, hLz⟩; obtain rfl := hLz.symm; clear hLz)
    refine o_gyes rfl ?_
    refine o_give (g_not (evv rfl)) rfl rfl ?_
    refine o_gyes rfl ?_
    refine o_give (g_pick (b := false) (evv rfl) (fun h => by cases h) (fun _ => (evv rfl))) rfl rfl ?_
    refine o_gyes rfl ?_
    refine o_give (g_pick (b := true) (evv rfl) (fun _ => (evv rfl)) (fun h => by cases h)) rfl rfl ?_
    refine o_give (g_pick (b := false) (evv rfl) (fun h => by cases h) (fun _ => (evv rfl))) rfl rfl ?_
    refine o_give (g_move (evv rfl)) rfl rfl ?_
    refine o_gyes rfl ?_
    refine o_give (g_move (evv rfl)) rfl rfl ?_
    refine o_gyes rfl ?_
    refine o_give (g_move (evv rfl)) rfl rfl ?_
    refine o_lazy rfl (fun hg => g_move (by first | exact evv rfl | exact evg rfl (by rw [hp]; rfl) | exact evg rfl hp | exact evg rfl hg | exact evg rfl (by first | (simp_all; done) | (simp [*]; done) | fail) | fail)) rfl rfl ?_
    refine o_lazy rfl (fun hg => g_bin (by first | exact evv rfl | exact evg rfl (by rw [hp]; rfl) | exact evg rfl hp | exact evg rfl hg | exact evg rfl (by first | (simp_all; done) | (simp [*]; done) | fail) | fail) (by first | exact evv rfl | exact evg rfl (by rw [hp]; rfl) | exact evg rfl hp | exact evg rfl hg | exact evg rfl (by first | (simp_all; done) | (simp [*]; done) | fail) | fail) (by rfl)) rfl rfl ?_
    refine o_lazy rfl (fun hg => g_move (by first | exact evv rfl | exact evg rfl (by rw [hp]; rfl) | exact evg rfl hp | exact evg rfl hg | exact evg rfl (by first | (simp_all; done) | (simp [*]; done) | fail) | fail)) rfl rfl ?_
    refine o_lazy rfl (fun hg => g_loadF (evv rfl) (by rfl) (by rfl)) rfl rfl ?_
    refine o_lazy rfl (fun hg => g_loadF (evv rfl) (by rfl) (by rfl)) rfl rfl ?_
    refine o_lazy (v0 := undef) rfl (fun hg => absurd hg (by first | (simp; done) | fail)) rfl rfl ?_
    refine o_lazy (v0 := undef) rfl (fun hg => absurd hg (by first | (simp; done) | fail)) rfl rfl ?_
    refine o_lazy rfl (fun hg => g_pick (b := true) (by first | exact evv rfl | exact evg rfl (by rw [hp]; rfl) | exact evg rfl hp | exact evg rfl hg | exact evg rfl (by first | (simp_all; done) | (simp [*]; done) | fail) | fail) (fun _ => (by first | exact evv rfl | exact evg rfl (by rw [hp]; rfl) | exact evg rfl hp | exact evg rfl hg | exact evg rfl (by first | (simp_all; done) | (simp [*]; done) | fail) | fail)) (fun h => by cases h)) rfl rfl ?_
    refine o_gyes rfl ?_
    refine o_give (g_pick (b := false) (evv rfl) (fun h => by cases h) (fun _ => (evv rfl))) rfl rfl ?_
    refine o_give (g_pick (b := false) (evv rfl) (fun h => by cases h) (fun _ => (evv rfl))) rfl rfl ?_
    refine o_give (g_move (evv rfl)) rfl rfl ?_
    refine o_gyes rfl ?_
    refine o_give (g_move (evv rfl)) rfl rfl ?_
    refine o_gyes rfl ?_
    refine o_give (g_bin (evv rfl) (evv rfl) (by rfl)) rfl rfl ?_
    refine o_give (g_pick (b := false) (evv rfl) (fun h => by cases h) (fun _ => (evv rfl))) rfl rfl ?_
    refine o_nil ?_
    refine c_code ?_
    refine r_cond_false rfl ?_
    refine r_skip ?_
    refine c_code ?_
    refine r_seq ?_
    obtain ⟨hdn, hao, hso, hss2, has⟩ := arm1_all hIy (Nat.zero_le _)
    refine r_region (id := 12) ?_
    refine o_give (g_assign (evv rfl)) rfl rfl ?_
    refine o_nil ?_
    refine c_code ?_
    refine r_seq ?_
    refine r_region (id := 13) ?_
    (refine o_call rfl _ (Ent.refl _) (Open_nil _) rfl ?_; rintro _ _ ⟨rfl, hLz⟩; obtain rfl := hLz.symm; clear hLz; dsimp only [openV])
    refine o_give (g_move (evv rfl)) rfl rfl ?_
    refine o_give (g_extract (evv rfl) (by rfl)) rfl rfl ?_
    refine o_give (g_extract (evv rfl) (by rfl)) rfl rfl ?_
    refine o_give (g_extract (evv rfl) (by rfl)) rfl rfl ?_
    refine o_alloc rfl rfl (fun _ => ?_)
    refine o_give (g_assign (evv rfl)) rfl rfl ?_
    refine o_storeW (evv rfl) (evv rfl) (by first | rfl | assumption | exact LenC.h _ | (simp [bys, *]; done) | fail) (by first | (intro _ _ _; exact bys_one _) | exact AllOne.h | (intro _ _ _ u hu; simp at hu; rcases hu with rfl | rfl | rfl | rfl | rfl | rfl | rfl | rfl <;> rfl) | fail) (by first | rfl | exact (LenC.h _).trans rfl | exact (LenC.h _).trans (LenC.h _).symm | (simp [bys, *]; done) | (simp only [bys, List.length_map, *]; rfl) | fail) ?_
    refine o_give (g_assign (evv rfl)) rfl rfl ?_
    refine o_nil ?_
    refine c_code ?_
    refine r_seq ?_
    refine r_region (id := 14) ?_
    refine o_give (g_move (evv rfl)) rfl rfl ?_
    (refine o_call rfl _ (PickR.ent (K := pt _)) (Arm_c _ _ _ _) rfl ?_; rintro _ _ ⟨rfl, rfl⟩)
    refine o_nil ?_
    refine c_code ?_
    refine r_seq ?_
    refine r_region (id := 15) ?_
    refine o_give (g_move (evv rfl)) rfl rfl ?_
    (refine o_call rfl _ (PickR.ent (K := pt _)) (Sync_c _ _ _ (by assumption) _) rfl ?_; rintro _ _ ⟨rfl, rfl⟩)
    refine o_nil ?_
    refine c_code ?_
    refine r_seq ?_
    refine r_region (id := 16) ?_
    refine o_give (g_move (evv rfl)) rfl rfl ?_
    (refine o_call rfl _ (PickR.ent (K := pt _)) (Open_dn _ _ _ (by assumption) (by first | assumption | omega) (by assumption)) rfl ?_; rintro _ _ ⟨rfl, rfl⟩; dsimp only [openV])
    refine o_give (g_move (evv rfl)) rfl rfl ?_
    refine o_give (g_extract (evv rfl) (by rfl)) rfl rfl ?_
    refine o_give (g_extract (evv rfl) (by rfl)) rfl rfl ?_
    refine o_give (g_extract (evv rfl) (by rfl)) rfl rfl ?_
    refine o_alloc rfl rfl (fun _ => ?_)
    refine o_give (g_assign (evv rfl)) rfl rfl ?_
    refine o_storeW (evv rfl) (evv rfl) (by first | rfl | assumption | exact LenC.h _ | (simp [bys, *]; done) | fail) (by first | (intro _ _ _; exact bys_one _) | exact AllOne.h | (intro _ _ _ u hu; simp at hu; rcases hu with rfl | rfl | rfl | rfl | rfl | rfl | rfl | rfl <;> rfl) | fail) (by first | rfl | exact (LenC.h _).trans rfl | exact (LenC.h _).trans (LenC.h _).symm | (simp [bys, *]; done) | (simp only [bys, List.length_map, *]; rfl) | fail) ?_
    refine o_give (g_assign (evv rfl)) rfl rfl ?_
    refine o_nil ?_
    refine c_code ?_
    refine r_seq ?_
    refine r_region (id := 17) ?_
    refine o_give (g_move (evv rfl)) rfl rfl ?_
    refine o_give (g_pnil TyU.h (evv rfl) (evv rfl) (by simp) (by rfl)) rfl rfl ?_
    refine o_give (g_move (evv rfl)) rfl rfl ?_
    refine o_gyes rfl ?_
    refine o_give (g_move (evv rfl)) rfl rfl ?_
    refine o_gyes rfl ?_
    refine o_give (g_bin (evv rfl) (evv rfl) (by rfl)) rfl rfl ?_
    refine o_give (g_pick (b := true) (evv rfl) (fun _ => (evv rfl)) (fun h => by cases h)) rfl rfl ?_
    refine o_give (g_move (evv rfl)) rfl rfl ?_
    refine o_gyes rfl ?_
    refine o_give (g_move (evv rfl)) rfl rfl ?_
    refine o_gyes rfl ?_
    refine o_give (g_bin (evv rfl) (evv rfl) (by rfl)) rfl rfl ?_
    refine o_give (g_pick (b := true) (evv rfl) (fun _ => (evv rfl)) (fun h => by cases h)) rfl rfl ?_
    refine o_give (g_move (evv rfl)) rfl rfl ?_
    refine o_gyes rfl ?_
    refine o_give (g_move (evv rfl)) rfl rfl ?_
    refine o_gyes rfl ?_
    (refine o_call rfl _ (Ent.refl _) (View_nil _ _) rfl ?_; rintro _ _ ⟨rfl, hLz⟩; obtain rfl := hLz.symm; clear hLz)
    refine o_gyes rfl ?_
    refine o_give (g_bin (evv rfl) (evv rfl) (by rfl)) rfl rfl ?_
    refine o_give (g_pick (b := true) (evv rfl) (fun _ => (evv rfl)) (fun h => by cases h)) rfl rfl ?_
    refine o_give (g_move (evv rfl)) rfl rfl ?_
    refine o_gyes rfl ?_
    refine o_give (g_move (evv rfl)) rfl rfl ?_
    refine o_gyes rfl ?_
    refine o_give (v := agg [(Go.Value.int Go.IntKind.i64 0), (Go.Value.int Go.IntKind.i64 0), (Go.Value.int Go.IntKind.i64 0), (Go.Value.string { data := #[] }), (Go.Value.string { data := #[] }), (Go.Value.string { data := #[] }), (Go.Value.int Go.IntKind.i64 0), (Go.Value.int Go.IntKind.i64 0)]) (g_buildC rfl (by rfl)) rfl rfl ?_
    refine o_gyes rfl ?_
    (refine o_call (vs := [.pointer none, agg (entC default)]) rfl _ (Ent.refl _) (Entry_nil _ default ent0_ok) rfl ?_; rintro _ _ ⟨rfl, hLz⟩; obtain rfl := hLz.symm; clear hLz)
    refine o_gyes rfl ?_
    refine o_give (g_bin (evv rfl) (evv rfl) (by rfl)) rfl rfl ?_
    refine o_give (g_pick (b := true) (evv rfl) (fun _ => (evv rfl)) (fun h => by cases h)) rfl rfl ?_
    refine o_give (g_move (evv rfl)) rfl rfl ?_
    refine o_gyes rfl ?_
    refine o_give (g_move (evv rfl)) rfl rfl ?_
    refine o_gyes rfl ?_
    (refine o_call rfl _ (Ent.refl _) (Adopt_nil _) rfl ?_; rintro _ _ ⟨rfl, hLz⟩; obtain rfl := hLz.symm; clear hLz)
    refine o_gyes rfl ?_
    refine o_give (g_bin (evv rfl) (evv rfl) (by rfl)) rfl rfl ?_
    refine o_give (g_pick (b := true) (evv rfl) (fun _ => (evv rfl)) (fun h => by cases h)) rfl rfl ?_
    refine o_give (g_move (evv rfl)) rfl rfl ?_
    refine o_gyes rfl ?_
    refine o_give (g_move (evv rfl)) rfl rfl ?_
    refine o_gyes rfl ?_
    refine o_give (g_loadF (evv rfl) (by rfl) (by rfl)) rfl rfl ?_
    refine o_gyes rfl ?_
    (refine o_call rfl _ (Ent.refl _) (Lay_nil _ _) rfl ?_; rintro _ _ ⟨rfl, hLz⟩; obtain rfl := hLz.symm; clear hLz)
    refine o_gyes rfl ?_
    refine o_give (g_bin (evv rfl) (evv rfl) (by rfl)) rfl rfl ?_
    refine o_give (g_pick (b := true) (evv rfl) (fun _ => (evv rfl)) (fun h => by cases h)) rfl rfl ?_
    refine o_give (g_move (evv rfl)) rfl rfl ?_
    refine o_gyes rfl ?_
    refine o_give (g_move (evv rfl)) rfl rfl ?_
    refine o_gyes rfl ?_
    (refine o_call rfl _ (Ent.refl _) (Kept_nil _) rfl ?_; rintro _ _ ⟨rfl, hLz⟩; obtain rfl := hLz.symm; clear hLz)
    refine o_gyes rfl ?_
    refine o_give (v := agg [(Go.Value.int Go.IntKind.i64 0), (Go.Value.int Go.IntKind.i64 0), (Go.Value.int Go.IntKind.i64 0), (Go.Value.string { data := #[] }), (Go.Value.slice none 0 0)]) (g_buildC rfl (by rfl)) rfl rfl ?_
    refine o_gyes rfl ?_
    (refine o_call (vs := [agg (kC 0 0 0 [] (.slice none 0 0)), agg (kC 0 0 0 [] (.slice none 0 0))]) rfl _ (Ent.refl _) (SameK_c _ zeroK zeroK (.slice none 0 0) (.slice none 0 0) (ra := Rd.nilF entC 8 _) (rb := Rd.nilF entC 8 _)) rfl ?_; rintro _ _ ⟨rfl, hLz⟩; obtain rfl := hLz.symm; clear hLz)
    refine o_give (g_pick (b := true) (evv rfl) (fun _ => (evv rfl)) (fun h => by cases h)) rfl rfl ?_
    refine o_give (g_assign (evv rfl)) rfl rfl ?_
    refine o_nil ?_
    refine c_code ?_
    first | refine r_ret (rs := [.tmp 2]) rfl rfl _ ((Lay.ent (L' := [base W]))) ?_ | refine c_end (rs := [.tmp 2]) rfl rfl _ ((Lay.ent (L' := [base W]))) ?_
    exact ⟨congrArg Value.bool (decide_eq_true rfl), rfl⟩
end VK
