/- What the proof rests on, part 6 of 6: the walker's lemmas, the walks of the functions and the plain laws. Conditions: none. -/
import Derived.Test.YtafofdcccmidmaaM5
namespace VK
open Go Go.Proofs
set_option linter.unusedSimpArgs false
set_option linter.unusedVariables false
set_option maxRecDepth 100000
set_option maxHeartbeats 40000000
theorem romJoin {fl l : List (Value × Row)} {v : Value} {r : Row} {L : List Atom} (h : InR fl v r) : Ent (rom fl :: rom l :: L) (rom ((v, r) :: l) :: L) := by
  unfold Ent
  intro h0 hs
  refine star_join (A := rom fl) (B := rom l) (C := rom ((v, r) :: l)) (fun g a b ha hb hA hB => ?_) hs
  unfold rom at *
  intro x hx
  rcases List.mem_cons.1 hx with rfl | hx
  · exact (h.h a (by unfold rom; exact hA)).mono ha
  · exact (hB x hx).mono hb
theorem lieRom {ve fv : Value} {es es' : List EntS} {fl l : List (Value × Row)} {L : List Atom} (h : LieE ve es fl fv es') : Ent (rom fl :: rom ((ve, entR es) :: l) :: L) (rom ((fv, entR es') :: l) :: L) := by
  rcases h with ⟨rfl, rfl⟩ | h
  · exact Ent.drop
  · exact (romJoin h).trans rom2
def OpenR (F : List Atom) (r : Nat) (t : Int × Pt × KeptS) : Value → List Atom → Prop := fun w L' =>
  (t.1 = 0 ∧ ∃ j ve l2, w = .tuple #[.pointer (some ⟨j, 0, none⟩), .int .i64 0] ∧ L' = rjo j r t.2.2 ve :: rpo r t.2.1 :: rom l2 :: F ∧ InR l2 ve (entR t.2.2.ents)) ∨
  (t.1 ≠ 0 ∧ w = .tuple #[.pointer none, .int .i64 t.1] ∧ L' = rpo r t.2.1 :: F)
theorem rjOpen_c (F : List Atom) (r : Nat) (x : Pt) (hx : x.ok) (hs : sizeP x + 262152 ≤ 1000000000) :
    Fn Try.prog 25 [.pointer (some ⟨r, 0, none⟩)] (rpo r x :: F) (OpenR F r (openT x)) := by
  obtain ⟨b0, s0, b1, s1, lv, am, dn⟩ := x
  have hlv := hx.l
  have hn0 := hx.n0
  have hn1 := hx.n1
  dsimp only at hlv hn0 hn1
  refine fn_intro Try.func25 rfl Try.ntmps25 rfl (fun W0 => ?_)
  simp only [argE]
  by_cases hd : dn = true
  · subst hd
    have hT : openT ⟨b0, s0, b1, s1, lv, am, true⟩ = (170, ⟨b0, s0, b1, s1, lv, am, true⟩, zeroK) := if_pos rfl
    rw [hT]
    refine rS ?_
    refine rR (id := 0) ?_
    refine oG (gA (evv rfl)) rfl rfl ?_
    refine oG (gA (evv rfl)) rfl rfl ?_
    refine oN ?_
    refine cC ?_
    refine rS ?_
    refine rS ?_
    refine rR (id := 1) ?_
    refine oG (gM (evv rfl)) rfl rfl ?_
    refine oG (g_nil (evv rfl)) rfl rfl ?_
    refine oG (g_fld (evv rfl)) rfl rfl ?_
    refine oG (g_load (evv rfl) (by rfl) (by rfl)) rfl rfl ?_
    refine oN ?_
    refine cC ?_
    refine r_cond_true rfl ?_
    refine rS ?_
    refine rR (id := 2) ?_
    refine oG (gA (evv rfl)) rfl rfl ?_
    refine oG (gA (evv rfl)) rfl rfl ?_
    refine oN ?_
    refine cC ?_
    first | refine r_ret (rs := [.tmp 2, .tmp 3]) rfl rfl _ ((Lay.ent (L' := rpo r ⟨b0, s0, b1, s1, lv, am, true⟩ :: F))) ?_ | refine c_end (rs := [.tmp 2, .tmp 3]) rfl rfl _ ((Lay.ent (L' := rpo r ⟨b0, s0, b1, s1, lv, am, true⟩ :: F))) ?_
    exact .inr ⟨(show (170 : Int) ≠ 0 by decide), rfl, rfl⟩
  have hd : dn = false := by simpa using hd
  subst hd
  rcases hlv with rfl | rfl
  · have hN : foldsK zeroK (scanR b0).1 = none → openT ⟨b0, s0, b1, s1, 0, am, false⟩ = (180, ⟨b0, s0, b1, s1, 0, am, false⟩, zeroK) := fun h => by
      unfold openT
      rw [if_neg (show ¬ (false = true) by decide)]
      show (match foldsK zeroK (scanR b0).1 with | none => _ | some k => _) = _
      rw [h]
    have hS : ∀ k, foldsK zeroK (scanR b0).1 = some k → openT ⟨b0, s0, b1, s1, 0, am, false⟩ = if (scanR b0).2 < b0.length then ((layT ⟨b0, s0, b1, s1, 0, am, false⟩ k k).1, (layT ⟨b0, s0, b1, s1, 0, am, false⟩ k k).2.1, if (layT ⟨b0, s0, b1, s1, 0, am, false⟩ k k).1 = 0 then k else zeroK) else (0, ⟨b0, s0, b1, s1, 0, am, false⟩, k) := fun k h => by
      unfold openT
      rw [if_neg (show ¬ (false = true) by decide)]
      show (match foldsK zeroK (scanR b0).1 with | none => _ | some k => _) = _
      rw [h]
      rfl
    generalize openT ⟨b0, s0, b1, s1, 0, am, false⟩ = T at *
    refine rS ?_
    refine rR (id := 0) ?_
    refine oG (gA (evv rfl)) rfl rfl ?_
    refine oG (gA (evv rfl)) rfl rfl ?_
    refine oN ?_
    refine cC ?_
    refine rS ?_
    refine rS ?_
    refine rR (id := 1) ?_
    refine oG (gM (evv rfl)) rfl rfl ?_
    refine oG (g_nil (evv rfl)) rfl rfl ?_
    refine oG (g_fld (evv rfl)) rfl rfl ?_
    refine oG (g_load (evv rfl) (by rfl) (by rfl)) rfl rfl ?_
    refine oN ?_
    refine cC ?_
    refine r_cond_false rfl ?_
    refine r_skip ?_
    refine cC ?_
    refine rS ?_
    refine rR (id := 3) ?_
    refine oG (gM (evv rfl)) rfl rfl ?_
    refine oG (g_buildC rfl (by rfl)) rfl rfl ?_
    refine o_boxA (evv rfl) rfl (fun _ => ?_)
    refine oG (gA (evv rfl)) rfl rfl ?_
    refine oN ?_
    refine cC ?_
    refine rS ?_
    rename_i j
    refine r_ent (blk j ⟨.pointer (some ⟨r, 0, none⟩) :: kC 0 0 0 [] (.slice none 0 0), 67⟩ :: blk r (rpB b0 b1 s0 s1 0 am false) :: F) (Ent.refl _) ?_
    repeat (first | refine rS ?_ | refine cC ?_ | refine c_blk ?_ | refine r_block ?_ | refine r_skip ?_)
    refine r_held (id := 4) ([blk r (rpB b0 b1 s0 s1 0 am false)]) Mixed.h ?_
    refine h_give (i := 0) (by kernel_rfl) rfl (gM (evv rfl)) rfl rfl ?_
    refine h_give (i := 1) (by kernel_rfl) rfl (gM (evv rfl)) rfl rfl ?_
    refine h_give (i := 2) (by kernel_rfl) rfl (g_nil (evv rfl)) rfl rfl ?_
    refine h_give (i := 3) (by kernel_rfl) rfl (g_fld (evv rfl)) rfl rfl ?_
    refine h_give (i := 4) (by kernel_rfl) rfl (g_load (evv rfl) (by rfl) (by rfl)) rfl rfl ?_
    refine h_give (i := 5) (by kernel_rfl) rfl (g_nil (evv rfl)) rfl rfl ?_
    refine h_give (i := 6) (by kernel_rfl) rfl (g_fld (evv rfl)) rfl rfl ?_
    refine h_give (i := 7) (by kernel_rfl) rfl (g_idxAN (evv rfl) (evv rfl) (by omega)) rfl rfl ?_
    refine h_give (i := 8) (by kernel_rfl) rfl (g_load (evv rfl) (by rfl) (by rfl)) rfl rfl ?_
    refine h_one (i := 9) (by kernel_rfl) rfl (Lay.ent) ?_
    refine o_s2bM (evv rfl) (by (try simp only [bsOf, List.length_append, List.length_cons, List.length_nil]); omega) rfl (fun _ => ?_)
    refine oN ?_
    refine h_give (i := 10) (by kernel_rfl) rfl (gA (evv rfl)) rfl rfl ?_
    refine h_done (by kernel_rfl) (Lay.ent) ?_
    rename_i bv
    refine cC ?_
    refine rS ?_
    refine rR (id := 5) ?_
    refine oG (gM (evv rfl)) rfl rfl ?_
    (refine o_call rfl _ (Ent.refl _) (rScan_c _ _ _ (by first | assumption | omega)) rfl ?_; rintro _ _ ⟨so', rs', rfl, hrs', rfl⟩)
    refine oG (gM (evv rfl)) rfl rfl ?_
    refine oG (g_extract (evv rfl) (by rfl)) rfl rfl ?_
    refine oG (g_extract (evv rfl) (by rfl)) rfl rfl ?_
    refine oG (gA (evv rfl)) rfl rfl ?_
    refine oG (gA (evv rfl)) rfl rfl ?_
    refine oN ?_
    refine cC ?_
    refine rS ?_
    refine rS ?_
    refine rR (id := 6) ?_
    refine oG (gA (evv rfl)) rfl rfl ?_
    refine oN ?_
    refine cC ?_
    refine r_block ?_
    have hrl : rs'.length = (scanR b0).1.length := by rw [← hrs', List.length_map]
    refine r_ent (rom (((.slice none 0 0), entR []) :: pcR rs') :: sl so' (mrow pcV 52 rs') :: blk j ⟨.pointer (some ⟨r, 0, none⟩) :: kC 0 0 0 [] (.slice none 0 0), 67⟩ :: blk r (rpB b0 b1 s0 s1 0 am false) :: sl bv (bR b0) :: F) ((Ent.nilsl 50 8).trans ((Lay.ent (L' := sl (.slice none 0 0) ⟨50, 8, 0, []⟩ :: rom (pcR rs') :: sl so' (mrow pcV 52 rs') :: blk j ⟨.pointer (some ⟨r, 0, none⟩) :: kC 0 0 0 [] (.slice none 0 0), 67⟩ :: blk r (rpB b0 b1 s0 s1 0 am false) :: sl bv (bR b0) :: F)).trans Ent.romIn)) ?_
    refine r_lenM (f := pcV) (e := 52) (v := so') (l := rs') inferInstance fun hlm => ?_
    have hlm : rs'.length ≤ 2 ^ 63 - 1 := hlm
    refine r_loopE (σ := Nat × KeptS × Value) (fun ⟨i, k, ve⟩ => i ≤ rs'.length ∧ foldsK zeroK ((scanR b0).1.take i) = some k) (fun ⟨i, k, ve⟩ => rs'.length - i) (fun ⟨i, k, ve⟩ => [(8, .v (.int .i64 (i : Int)))]) [4, 5, 6, 7] (fun ⟨i, k, ve⟩ => rom ((ve, entR k.ents) :: pcR rs') :: sl so' (mrow pcV 52 rs') :: rjo j r k ve :: rpo r ⟨b0, s0, b1, s1, 0, am, false⟩ :: sl bv (bR b0) :: F) (0, zeroK, .slice none 0 0) (by dsimp only [pickE, pick1, lk2, Nat.reduceBEq, Nat.reduceAdd, Nat.zero_add, cond_true, cond_false] <;> exact rfl) ?_ (by repeat (first | exact trivial | refine ⟨rfl, ?_⟩ | refine envsub_v rfl (by first | rfl | (refine int_eq ?_; first | omega | (simp; omega) | (simp; done)) | (refine bool_eq ?_; first | (simp [*]; done) | (simp; done)) | (refine str_eq ?_; simp; done) | (refine ptr_eq ?_; omega) | fail) ?_)) ?_ ?_
    · exact ⟨Nat.zero_le _, rfl⟩
    · exact Ent.refl _
    rintro ⟨i, k, ve⟩ ⟨hi, hI⟩; dsimp only [List.cons_append, List.nil_append]
    have hkk := foldsK_ok zeroK_ok hI
    have hkf := foldsK_fine zeroK_fine hI
    have hkf2 : ∀ e ∈ k.ents, e.ok := hkf
    have hkk2 : KeptS.ok ⟨k.view, k.normal, k.base, k.state, k.ents⟩ := hkk
    refine rS ?_
    refine rS ?_
    refine rR (id := 7) ?_
    refine oG (gM (evv rfl)) rfl rfl ?_
    refine oG (gM (evv rfl)) rfl rfl ?_
    refine oG (g_lenM (evv rfl)) rfl rfl ?_
    refine oG (g_bin (evv rfl) (evv rfl) (by rfl)) rfl rfl ?_
    refine oN ?_
    refine cC ?_
    refine r_cond rfl (fun hc => ?_) (fun hc => ?_) <;> (try simp only [decide_eq_true_eq, decide_eq_false_iff_not, Bool.and_eq_true, Bool.or_eq_true, Bool.not_eq_true', Bool.and_eq_false_iff, Bool.or_eq_false_iff, Bool.not_eq_false', Bool.not_eq_true, Bool.not_eq_false, Bool.true_eq_false, Bool.false_eq_true, Int.not_lt, Int.not_le, not_and, not_or, ne_eq] at hc)
    · have hi2 : i < rs'.length := by omega
      have hmem : rs'.getD i default ∈ rs' := by rw [List.getD_eq_getElem?_getD, List.getElem?_eq_getElem hi2]; exact List.getElem_mem hi2
      haveI : InR (pcR rs') (pcV (rs'.getD i default)) (bR (rs'.getD i default).2) := pcR_in hmem
      have hpe : (scanR b0).1.getD i default = (rs'.getD i default).2 := by rw [← hrs']; simp [hi2]
      have hpl := scan_len b0.length b0 (Nat.le_refl _) _ (show (rs'.getD i default).2 ∈ (scanR b0).1 by rw [← hrs']; exact List.mem_map_of_mem hmem)
      have hpl2 : (rs'.getD i default).2.length ≤ 140737488355000 := by omega
      have hsn := foldsK_snoc (by rw [← hrl]; exact hi2) hI
      rw [hpe] at hsn
      repeat (first | refine rS ?_ | refine cC ?_ | refine c_blk ?_ | refine r_block ?_ | refine r_skip ?_)
      refine r_cutE (σ := Nat × {q : Value × List (Value × Row) // LieE ve k.ents q.2 q.1 ((foldK k (rs'.getD i default).2).getD zeroK).ents}) (fun x => [(9, .v (.pointer (some ⟨x.1, 0, none⟩))), (10, .v (.bool (foldK k (rs'.getD i default).2).isSome))]) [4, 5, 6, 7, 8, 34, 35, 36, 37] (fun x => blk x.1 ⟨kC ((foldK k (rs'.getD i default).2).getD zeroK).view ((foldK k (rs'.getD i default).2).getD zeroK).normal ((foldK k (rs'.getD i default).2).getD zeroK).base ((foldK k (rs'.getD i default).2).getD zeroK).state x.2.1.1, 28⟩ :: rom x.2.1.2 :: rom ((ve, entR k.ents) :: pcR rs') :: sl so' (mrow pcV 52 rs') :: rjo j r k ve :: rpo r ⟨b0, s0, b1, s1, 0, am, false⟩ :: sl bv (bR b0) :: F) (by dsimp only [pickE, pick1, lk2, Nat.reduceBEq, Nat.reduceAdd, Nat.zero_add, cond_true, cond_false] <;> exact rfl) ?_ ?_
      · refine r_held (id := 9) ([rjo j r k ve, rom ((ve, entR k.ents) :: pcR rs'), sl so' (mrow pcV 52 rs')]) Mixed.h ?_
        (refine h_give (i := 0) (by kernel_rfl) rfl (gM (evv rfl)) rfl rfl ?_)
        (refine h_give (i := 1) (by kernel_rfl) rfl (g_nil (evv rfl)) rfl rfl ?_)
        (refine h_give (i := 2) (by kernel_rfl) rfl (g_fld (evv rfl)) rfl rfl ?_)
        (refine h_give (i := 3) (by kernel_rfl) rfl (g_loadF (evv rfl) (by rfl) (by rfl)) rfl rfl ?_)
        (refine h_give (i := 4) (by kernel_rfl) rfl (gM (evv rfl)) rfl rfl ?_)
        (refine h_give (i := 5) (by kernel_rfl) rfl (gM (evv rfl)) rfl rfl ?_)
        (refine h_give (i := 6) (by kernel_rfl) rfl (g_idxMN (evv rfl) (evv rfl) (by rfl) (by first | omega | (have := of_decide_eq_true hg; omega) | (simp at hg; omega) | (simp only [List.length_set, List.length_append, List.length_cons, List.length_nil, List.length_map, List.length_take, List.length_drop, List.length_replicate]; omega))) rfl rfl ?_)
        (refine h_give (i := 7) (by kernel_rfl) rfl (g_loadM (evv rfl) (by rfl) (by first | omega | (have := of_decide_eq_true hg; omega) | (simp at hg; omega) | (simp only [List.length_set, List.length_append, List.length_cons, List.length_nil, List.length_map, List.length_take, List.length_drop, List.length_replicate]; omega))) rfl rfl ?_)
        refine h_two (i := 8) (j := 12) (by kernel_rfl) rfl rfl (Lay.ent) ?_ ?_
        · ((refine o_call rfl _ (Ent.refl _) (rjFold_c _ _ _ _ _ _ _ _ _ (by first | assumption | omega) (by assumption) (by assumption)) rfl ?_; rintro _ _ ⟨fv, fl, rfl, rfl, hfr⟩; simp only [foldV']; refine o_rdI hfr fun hfi => ?_)); refine oN ?_
          (refine h_give (i := 9) (by kernel_rfl) rfl (gM (evv rfl)) rfl rfl ?_)
          (refine h_give (i := 10) (by kernel_rfl) rfl (g_extract (evv rfl) (by rfl)) rfl rfl ?_)
          (refine h_give (i := 11) (by kernel_rfl) rfl (g_extract (evv rfl) (by rfl)) rfl rfl ?_)
          refine h_one (i := 12) (by kernel_rfl) rfl (Lay.ent) ?_
          (refine o_alloc rfl rfl (fun _ => ?_)); refine oN ?_
          refine h_one (i := 13) (by kernel_rfl) rfl (Lay.ent) ?_
          (refine o_storeW (evv rfl) (evv rfl) (by first | rfl | assumption | exact LenC.h _ | (simp [bys, *]; done) | fail) (by first | (intro _ _ _; exact bys_one _) | exact AllOne.h | (intro _ _ _ u hu; simp at hu; rcases hu with rfl | rfl | rfl | rfl | rfl | rfl | rfl | rfl <;> rfl) | fail) (by first | rfl | exact (LenC.h _).trans rfl | exact (LenC.h _).trans (LenC.h _).symm | (simp [bys, *]; done) | (simp only [bys, List.length_map, *]; rfl) | fail) ?_); refine oN ?_
          (refine h_give (i := 14) (by kernel_rfl) rfl (gA (evv rfl)) rfl rfl ?_)
          refine h_done (by kernel_rfl) (Lay.ent) ?_
          exact c_cut (by assumption, ⟨(fv, fl), hfr⟩) (by repeat (first | exact trivial | refine ⟨rfl, ?_⟩ | refine envsub_v rfl (by first | rfl | (refine int_eq ?_; first | omega | (simp; omega) | (simp; done)) | (refine bool_eq ?_; first | (simp [*]; done) | (simp; done)) | (refine str_eq ?_; simp; done) | (refine ptr_eq ?_; omega) | fail) ?_)) (Lay.ent)
        · (refine o_alloc rfl rfl (fun _ => ?_)); refine oN ?_
          refine h_one (i := 8) (by kernel_rfl) rfl (Lay.ent) ?_
          ((refine o_call rfl _ (Ent.refl _) (rjFold_c _ _ _ _ _ _ _ _ _ (by first | assumption | omega) (by assumption) (by assumption)) rfl ?_; rintro _ _ ⟨fv, fl, rfl, rfl, hfr⟩; simp only [foldV']; refine o_rdI hfr fun hfi => ?_)); refine oN ?_
          (refine h_give (i := 9) (by kernel_rfl) rfl (gM (evv rfl)) rfl rfl ?_)
          (refine h_give (i := 10) (by kernel_rfl) rfl (g_extract (evv rfl) (by rfl)) rfl rfl ?_)
          (refine h_give (i := 11) (by kernel_rfl) rfl (g_extract (evv rfl) (by rfl)) rfl rfl ?_)
          refine h_one (i := 13) (by kernel_rfl) rfl (Lay.ent) ?_
          (refine o_storeW (evv rfl) (evv rfl) (by first | rfl | assumption | exact LenC.h _ | (simp [bys, *]; done) | fail) (by first | (intro _ _ _; exact bys_one _) | exact AllOne.h | (intro _ _ _ u hu; simp at hu; rcases hu with rfl | rfl | rfl | rfl | rfl | rfl | rfl | rfl <;> rfl) | fail) (by first | rfl | exact (LenC.h _).trans rfl | exact (LenC.h _).trans (LenC.h _).symm | (simp [bys, *]; done) | (simp only [bys, List.length_map, *]; rfl) | fail) ?_); refine oN ?_
          (refine h_give (i := 14) (by kernel_rfl) rfl (gA (evv rfl)) rfl rfl ?_)
          refine h_done (by kernel_rfl) (Lay.ent) ?_
          exact c_cut (by assumption, ⟨(fv, fl), hfr⟩) (by repeat (first | exact trivial | refine ⟨rfl, ?_⟩ | refine envsub_v rfl (by first | rfl | (refine int_eq ?_; first | omega | (simp; omega) | (simp; done)) | (refine bool_eq ?_; first | (simp [*]; done) | (simp; done)) | (refine str_eq ?_; simp; done) | (refine ptr_eq ?_; omega) | fail) ?_)) (Lay.ent)
      rintro ⟨c, ⟨⟨fv, fl⟩, hl⟩⟩
      dsimp only [List.cons_append, List.nil_append] at hl ⊢
      generalize foldK k (rs'.getD i default).2 = rr at *
      have hls := hl.rd (F := rom ((ve, entR k.ents) :: pcR rs') :: sl so' (mrow pcV 52 rs') :: rjo j r k ve :: rpo r ⟨b0, s0, b1, s1, 0, am, false⟩ :: sl bv (bR b0) :: F)
      cases rr with
      | none =>
        have hT := hN (foldsK_stop hsn)
        rw [hT]
        simp only [Option.isSome_none]
        refine cC ?_
        refine rS ?_
        refine rS ?_
        refine rR (id := 10) ?_
        refine oG (gM (evv rfl)) rfl rfl ?_
        refine oG (g_not (evv rfl)) rfl rfl ?_
        refine oN ?_
        refine cC ?_
        refine r_cond_true rfl ?_
        refine rS ?_
        refine rR (id := 11) ?_
        refine oG (gA (evv rfl)) rfl rfl ?_
        refine oG (gA (evv rfl)) rfl rfl ?_
        refine oN ?_
        refine cC ?_
        first | refine r_ret (rs := [.tmp 2, .tmp 3]) rfl rfl _ ((Lay.ent (L' := rpo r ⟨b0, s0, b1, s1, 0, am, false⟩ :: F))) ?_ | refine c_end (rs := [.tmp 2, .tmp 3]) rfl rfl _ ((Lay.ent (L' := rpo r ⟨b0, s0, b1, s1, 0, am, false⟩ :: F))) ?_
        exact .inr ⟨(show (180 : Int) ≠ 0 by decide), rfl, rfl⟩
      | some k' =>
        simp only [Option.getD_some, Option.isSome_some] at hl hls ⊢
        refine cC ?_
        refine rS ?_
        refine rS ?_
        refine rR (id := 10) ?_
        refine oG (gM (evv rfl)) rfl rfl ?_
        refine oG (g_not (evv rfl)) rfl rfl ?_
        refine oN ?_
        refine cC ?_
        refine r_cond_false rfl ?_
        refine r_skip ?_
        refine cC ?_
        refine rR (id := 12) ?_
        refine oG (gM (evv rfl)) rfl rfl ?_
        refine oG (g_loadF (evv rfl) (by rfl) (by rfl)) rfl rfl ?_
        refine oG (g_nil (evv rfl)) rfl rfl ?_
        refine oG (g_fld (evv rfl)) rfl rfl ?_
        refine o_storeA (evv rfl) (evv rfl) (by first | rfl | assumption | exact LenC.h _ | (simp [bys, *]; done) | fail) (by first | (intro _ _ _; exact bys_one _) | exact AllOne.h | (intro _ _ _ u hu; simp at hu; rcases hu with rfl | rfl | rfl | rfl | rfl | rfl | rfl | rfl <;> rfl) | fail) (by rfl) (by rfl) ?_
        refine oN ?_
        refine c_blk ?_
        refine cC ?_
        refine rR (id := 8) ?_
        refine oG (gM (evv rfl)) rfl rfl ?_
        refine o_giveN (g_bin (evv rfl) (evv rfl) (by rfl)) (by simp only [inR]; omega) rfl ?_
        refine oG (gA (evv rfl)) rfl rfl ?_
        refine oN ?_
        refine c_loop (i + 1, k', fv) ?_ ?_ (by repeat (first | exact trivial | refine ⟨rfl, ?_⟩ | refine envsub_v rfl (by first | rfl | (refine int_eq ?_; first | omega | (simp; omega) | (simp; done)) | (refine bool_eq ?_; first | (simp [*]; done) | (simp; done)) | (refine str_eq ?_; simp; done) | (refine ptr_eq ?_; omega) | fail) ?_)) ?_ <;> (try dsimp only)
        · exact ⟨by omega, hsn⟩
        · omega
        · exact (Lay.ent (L' := rom fl :: rom ((ve, entR k.ents) :: pcR rs') :: sl so' (mrow pcV 52 rs') :: rjo j r k' fv :: rpo r ⟨b0, s0, b1, s1, 0, am, false⟩ :: sl bv (bR b0) :: F)).trans (lieRom hl)
    · obtain rfl : i = rs'.length := by omega
      rw [hrl, List.take_length] at hI
      have hT := hS k hI
      have hk32 : k.ents.length ≤ 1048576 := by have := hkk.2.2.2.2.2.2.2.2.2.1; omega
      have hst : k.state.length ≤ 140737488355000 := by have := hkk.2.2.2.2.2.2.2.1; omega
      refine r_exit rfl ?_
      refine cC ?_
      refine rS ?_
      refine rS ?_
      refine rR (id := 13) ?_
      refine oG (gM (evv rfl)) rfl rfl ?_
      refine oG (gM (evv rfl)) rfl rfl ?_
      refine oG (g_lenM (evv rfl)) rfl rfl ?_
      refine oG (g_bin (evv rfl) (evv rfl) (by rfl)) rfl rfl ?_
      refine oN ?_
      refine cC ?_
      refine r_cond rfl (fun hlt => ?_) (fun hlt => ?_) <;> (try simp only [decide_eq_true_eq, decide_eq_false_iff_not, Bool.and_eq_true, Bool.or_eq_true, Bool.not_eq_true', Bool.and_eq_false_iff, Bool.or_eq_false_iff, Bool.not_eq_false', Bool.not_eq_true, Bool.not_eq_false, Bool.true_eq_false, Bool.false_eq_true, Int.not_lt, Int.not_le, not_and, not_or, ne_eq] at hlt)
      · rw [if_pos (by omega)] at hT
        have hK0 : (layT ⟨b0, s0, b1, s1, 0, am, false⟩ k k).1 = 0 → (layT ⟨b0, s0, b1, s1, 0, am, false⟩ k k).2.2 = k := fun h => by
          unfold layT at h ⊢
          split
          · rfl
          · split <;> rfl
        refine rS ?_
        refine rR (id := 14) ?_
        refine oG (gM (evv rfl)) rfl rfl ?_
        refine oG (gM (evv rfl)) rfl rfl ?_
        refine oG (g_nil (evv rfl)) rfl rfl ?_
        refine oG (g_fld (evv rfl)) rfl rfl ?_
        refine oG (g_loadF (evv rfl) (by rfl) (by rfl)) rfl rfl ?_
        refine o_call (vs := [.pointer (some ⟨j, 0, none⟩), agg (kC k.view k.normal k.base k.state ve)]) rfl _ (Lay.ent (L' := rjo j r k ve :: rpo r ⟨b0, s0, b1, s1, 0, am, false⟩ :: rom ((ve, entR k.ents) :: pcR rs') :: F)) (rjLay_c (rom ((ve, entR k.ents) :: pcR rs') :: F) j r ⟨b0, s0, b1, s1, 0, am, false⟩ k k ve ve hx hkf hk32 hst hs) rfl ?_
        rintro _ _ ⟨rfl, rfl⟩
        rw [ite_self]
        rcases hR : layT ⟨b0, s0, b1, s1, 0, am, false⟩ k k with ⟨e, y, kk⟩
        rw [hR] at hT hK0
        dsimp only at hT hK0 ⊢
        refine oG (gA (evv rfl)) rfl rfl ?_
        refine oN ?_
        refine cC ?_
        refine rS ?_
        by_cases he : e = 0
        · subst he
          obtain rfl := hK0 rfl
          rw [if_pos rfl] at hT
          rw [hT]
          refine rR (id := 15) ?_
          refine oG (gM (evv rfl)) rfl rfl ?_
          refine oG (g_bin (evv rfl) (evv rfl) (by rfl)) rfl rfl ?_
          refine oN ?_
          refine cC ?_
          refine r_cond_false rfl ?_
          refine r_skip ?_
          refine cC ?_
          refine rS ?_
          refine rR (id := 17) ?_
          refine oG (gM (evv rfl)) rfl rfl ?_
          refine oG (gA (evv rfl)) rfl rfl ?_
          refine oG (gA (evv rfl)) rfl rfl ?_
          refine oN ?_
          refine cC ?_
          first | refine r_ret (rs := [.tmp 2, .tmp 3]) rfl rfl _ ((Lay.ent (L' := rjo j r kk ve :: rpo r y :: rom ((ve, entR kk.ents) :: pcR rs') :: F))) ?_ | refine c_end (rs := [.tmp 2, .tmp 3]) rfl rfl _ ((Lay.ent (L' := rjo j r kk ve :: rpo r y :: rom ((ve, entR kk.ents) :: pcR rs') :: F))) ?_
          exact .inl ⟨rfl, j, ve, _, rfl, rfl, inferInstance⟩
        · rw [if_neg he] at hT
          rw [hT]
          refine rR (id := 15) ?_
          refine oG (gM (evv rfl)) rfl rfl ?_
          refine oG (g_bin (evv rfl) (evv rfl) (by rfl)) rfl rfl ?_
          refine oN ?_
          refine cC ?_
          refine r_cond rfl (fun hg => ?_) (fun hg => ?_) <;> (try simp only [decide_eq_true_eq, decide_eq_false_iff_not, Bool.and_eq_true, Bool.or_eq_true, Bool.not_eq_true', Bool.and_eq_false_iff, Bool.or_eq_false_iff, Bool.not_eq_false', Bool.not_eq_true, Bool.not_eq_false, Bool.true_eq_false, Bool.false_eq_true, Int.not_lt, Int.not_le, not_and, not_or, ne_eq] at hg)
          · refine rS ?_
            refine rR (id := 16) ?_
            refine oG (gM (evv rfl)) rfl rfl ?_
            refine oG (gA (evv rfl)) rfl rfl ?_
            refine oG (gA (evv rfl)) rfl rfl ?_
            refine oN ?_
            refine cC ?_
            first | refine r_ret (rs := [.tmp 2, .tmp 3]) rfl rfl _ ((Lay.ent (L' := rpo r y :: F))) ?_ | refine c_end (rs := [.tmp 2, .tmp 3]) rfl rfl _ ((Lay.ent (L' := rpo r y :: F))) ?_
            exact .inr ⟨he, rfl, rfl⟩
          · exact absurd hg he
      · rw [if_neg (by omega)] at hT
        rw [hT]
        refine r_skip ?_
        refine cC ?_
        refine rS ?_
        refine rR (id := 17) ?_
        refine oG (gM (evv rfl)) rfl rfl ?_
        refine oG (gA (evv rfl)) rfl rfl ?_
        refine oG (gA (evv rfl)) rfl rfl ?_
        refine oN ?_
        refine cC ?_
        first | refine r_ret (rs := [.tmp 2, .tmp 3]) rfl rfl _ (((Lay.ent (L' := rom ((ve, entR k.ents) :: pcR rs') :: rjo j r k ve :: rpo r ⟨b0, s0, b1, s1, 0, am, false⟩ :: F)).trans (Lay.ent (L' := rjo j r k ve :: rpo r ⟨b0, s0, b1, s1, 0, am, false⟩ :: rom ((ve, entR k.ents) :: pcR rs') :: F)))) ?_ | refine c_end (rs := [.tmp 2, .tmp 3]) rfl rfl _ (((Lay.ent (L' := rom ((ve, entR k.ents) :: pcR rs') :: rjo j r k ve :: rpo r ⟨b0, s0, b1, s1, 0, am, false⟩ :: F)).trans (Lay.ent (L' := rjo j r k ve :: rpo r ⟨b0, s0, b1, s1, 0, am, false⟩ :: rom ((ve, entR k.ents) :: pcR rs') :: F)))) ?_
        exact .inl ⟨rfl, j, ve, _, rfl, rfl, inferInstance⟩
  · have hN : foldsK zeroK (scanR b1).1 = none → openT ⟨b0, s0, b1, s1, 1, am, false⟩ = (180, ⟨b0, s0, b1, s1, 1, am, false⟩, zeroK) := fun h => by
      unfold openT
      rw [if_neg (show ¬ (false = true) by decide)]
      show (match foldsK zeroK (scanR b1).1 with | none => _ | some k => _) = _
      rw [h]
    have hS : ∀ k, foldsK zeroK (scanR b1).1 = some k → openT ⟨b0, s0, b1, s1, 1, am, false⟩ = if (scanR b1).2 < b1.length then ((layT ⟨b0, s0, b1, s1, 1, am, false⟩ k k).1, (layT ⟨b0, s0, b1, s1, 1, am, false⟩ k k).2.1, if (layT ⟨b0, s0, b1, s1, 1, am, false⟩ k k).1 = 0 then k else zeroK) else (0, ⟨b0, s0, b1, s1, 1, am, false⟩, k) := fun k h => by
      unfold openT
      rw [if_neg (show ¬ (false = true) by decide)]
      show (match foldsK zeroK (scanR b1).1 with | none => _ | some k => _) = _
      rw [h]
      rfl
    generalize openT ⟨b0, s0, b1, s1, 1, am, false⟩ = T at *
    refine rS ?_
    refine rR (id := 0) ?_
    refine oG (gA (evv rfl)) rfl rfl ?_
    refine oG (gA (evv rfl)) rfl rfl ?_
    refine oN ?_
    refine cC ?_
    refine rS ?_
    refine rS ?_
    refine rR (id := 1) ?_
    refine oG (gM (evv rfl)) rfl rfl ?_
    refine oG (g_nil (evv rfl)) rfl rfl ?_
    refine oG (g_fld (evv rfl)) rfl rfl ?_
    refine oG (g_load (evv rfl) (by rfl) (by rfl)) rfl rfl ?_
    refine oN ?_
    refine cC ?_
    refine r_cond_false rfl ?_
    refine r_skip ?_
    refine cC ?_
    refine rS ?_
    refine rR (id := 3) ?_
    refine oG (gM (evv rfl)) rfl rfl ?_
    refine oG (g_buildC rfl (by rfl)) rfl rfl ?_
    refine o_boxA (evv rfl) rfl (fun _ => ?_)
    refine oG (gA (evv rfl)) rfl rfl ?_
    refine oN ?_
    refine cC ?_
    refine rS ?_
    rename_i j
    refine r_ent (blk j ⟨.pointer (some ⟨r, 0, none⟩) :: kC 0 0 0 [] (.slice none 0 0), 67⟩ :: blk r (rpB b0 b1 s0 s1 1 am false) :: F) (Ent.refl _) ?_
    repeat (first | refine rS ?_ | refine cC ?_ | refine c_blk ?_ | refine r_block ?_ | refine r_skip ?_)
    refine r_held (id := 4) ([blk r (rpB b0 b1 s0 s1 1 am false)]) Mixed.h ?_
    refine h_give (i := 0) (by kernel_rfl) rfl (gM (evv rfl)) rfl rfl ?_
    refine h_give (i := 1) (by kernel_rfl) rfl (gM (evv rfl)) rfl rfl ?_
    refine h_give (i := 2) (by kernel_rfl) rfl (g_nil (evv rfl)) rfl rfl ?_
    refine h_give (i := 3) (by kernel_rfl) rfl (g_fld (evv rfl)) rfl rfl ?_
    refine h_give (i := 4) (by kernel_rfl) rfl (g_load (evv rfl) (by rfl) (by rfl)) rfl rfl ?_
    refine h_give (i := 5) (by kernel_rfl) rfl (g_nil (evv rfl)) rfl rfl ?_
    refine h_give (i := 6) (by kernel_rfl) rfl (g_fld (evv rfl)) rfl rfl ?_
    refine h_give (i := 7) (by kernel_rfl) rfl (g_idxAN (evv rfl) (evv rfl) (by omega)) rfl rfl ?_
    refine h_give (i := 8) (by kernel_rfl) rfl (g_load (evv rfl) (by rfl) (by rfl)) rfl rfl ?_
    refine h_one (i := 9) (by kernel_rfl) rfl (Lay.ent) ?_
    refine o_s2bM (evv rfl) (by (try simp only [bsOf, List.length_append, List.length_cons, List.length_nil]); omega) rfl (fun _ => ?_)
    refine oN ?_
    refine h_give (i := 10) (by kernel_rfl) rfl (gA (evv rfl)) rfl rfl ?_
    refine h_done (by kernel_rfl) (Lay.ent) ?_
    rename_i bv
    refine cC ?_
    refine rS ?_
    refine rR (id := 5) ?_
    refine oG (gM (evv rfl)) rfl rfl ?_
    (refine o_call rfl _ (Ent.refl _) (rScan_c _ _ _ (by first | assumption | omega)) rfl ?_; rintro _ _ ⟨so', rs', rfl, hrs', rfl⟩)
    refine oG (gM (evv rfl)) rfl rfl ?_
    refine oG (g_extract (evv rfl) (by rfl)) rfl rfl ?_
    refine oG (g_extract (evv rfl) (by rfl)) rfl rfl ?_
    refine oG (gA (evv rfl)) rfl rfl ?_
    refine oG (gA (evv rfl)) rfl rfl ?_
    refine oN ?_
    refine cC ?_
    refine rS ?_
    refine rS ?_
    refine rR (id := 6) ?_
    refine oG (gA (evv rfl)) rfl rfl ?_
    refine oN ?_
    refine cC ?_
    refine r_block ?_
    have hrl : rs'.length = (scanR b1).1.length := by rw [← hrs', List.length_map]
    refine r_ent (rom (((.slice none 0 0), entR []) :: pcR rs') :: sl so' (mrow pcV 52 rs') :: blk j ⟨.pointer (some ⟨r, 0, none⟩) :: kC 0 0 0 [] (.slice none 0 0), 67⟩ :: blk r (rpB b0 b1 s0 s1 1 am false) :: sl bv (bR b1) :: F) ((Ent.nilsl 50 8).trans ((Lay.ent (L' := sl (.slice none 0 0) ⟨50, 8, 0, []⟩ :: rom (pcR rs') :: sl so' (mrow pcV 52 rs') :: blk j ⟨.pointer (some ⟨r, 0, none⟩) :: kC 0 0 0 [] (.slice none 0 0), 67⟩ :: blk r (rpB b0 b1 s0 s1 1 am false) :: sl bv (bR b1) :: F)).trans Ent.romIn)) ?_
    refine r_lenM (f := pcV) (e := 52) (v := so') (l := rs') inferInstance fun hlm => ?_
    have hlm : rs'.length ≤ 2 ^ 63 - 1 := hlm
    refine r_loopE (σ := Nat × KeptS × Value) (fun ⟨i, k, ve⟩ => i ≤ rs'.length ∧ foldsK zeroK ((scanR b1).1.take i) = some k) (fun ⟨i, k, ve⟩ => rs'.length - i) (fun ⟨i, k, ve⟩ => [(8, .v (.int .i64 (i : Int)))]) [4, 5, 6, 7] (fun ⟨i, k, ve⟩ => rom ((ve, entR k.ents) :: pcR rs') :: sl so' (mrow pcV 52 rs') :: rjo j r k ve :: rpo r ⟨b0, s0, b1, s1, 1, am, false⟩ :: sl bv (bR b1) :: F) (0, zeroK, .slice none 0 0) (by dsimp only [pickE, pick1, lk2, Nat.reduceBEq, Nat.reduceAdd, Nat.zero_add, cond_true, cond_false] <;> exact rfl) ?_ (by repeat (first | exact trivial | refine ⟨rfl, ?_⟩ | refine envsub_v rfl (by first | rfl | (refine int_eq ?_; first | omega | (simp; omega) | (simp; done)) | (refine bool_eq ?_; first | (simp [*]; done) | (simp; done)) | (refine str_eq ?_; simp; done) | (refine ptr_eq ?_; omega) | fail) ?_)) ?_ ?_
    · exact ⟨Nat.zero_le _, rfl⟩
    · exact Ent.refl _
    rintro ⟨i, k, ve⟩ ⟨hi, hI⟩; dsimp only [List.cons_append, List.nil_append]
    have hkk := foldsK_ok zeroK_ok hI
    have hkf := foldsK_fine zeroK_fine hI
    have hkf2 : ∀ e ∈ k.ents, e.ok := hkf
    have hkk2 : KeptS.ok ⟨k.view, k.normal, k.base, k.state, k.ents⟩ := hkk
    refine rS ?_
    refine rS ?_
    refine rR (id := 7) ?_
    refine oG (gM (evv rfl)) rfl rfl ?_
    refine oG (gM (evv rfl)) rfl rfl ?_
    refine oG (g_lenM (evv rfl)) rfl rfl ?_
    refine oG (g_bin (evv rfl) (evv rfl) (by rfl)) rfl rfl ?_
    refine oN ?_
    refine cC ?_
    refine r_cond rfl (fun hc => ?_) (fun hc => ?_) <;> (try simp only [decide_eq_true_eq, decide_eq_false_iff_not, Bool.and_eq_true, Bool.or_eq_true, Bool.not_eq_true', Bool.and_eq_false_iff, Bool.or_eq_false_iff, Bool.not_eq_false', Bool.not_eq_true, Bool.not_eq_false, Bool.true_eq_false, Bool.false_eq_true, Int.not_lt, Int.not_le, not_and, not_or, ne_eq] at hc)
    · have hi2 : i < rs'.length := by omega
      have hmem : rs'.getD i default ∈ rs' := by rw [List.getD_eq_getElem?_getD, List.getElem?_eq_getElem hi2]; exact List.getElem_mem hi2
      haveI : InR (pcR rs') (pcV (rs'.getD i default)) (bR (rs'.getD i default).2) := pcR_in hmem
      have hpe : (scanR b1).1.getD i default = (rs'.getD i default).2 := by rw [← hrs']; simp [hi2]
      have hpl := scan_len b1.length b1 (Nat.le_refl _) _ (show (rs'.getD i default).2 ∈ (scanR b1).1 by rw [← hrs']; exact List.mem_map_of_mem hmem)
      have hpl2 : (rs'.getD i default).2.length ≤ 140737488355000 := by omega
      have hsn := foldsK_snoc (by rw [← hrl]; exact hi2) hI
      rw [hpe] at hsn
      repeat (first | refine rS ?_ | refine cC ?_ | refine c_blk ?_ | refine r_block ?_ | refine r_skip ?_)
      refine r_cutE (σ := Nat × {q : Value × List (Value × Row) // LieE ve k.ents q.2 q.1 ((foldK k (rs'.getD i default).2).getD zeroK).ents}) (fun x => [(9, .v (.pointer (some ⟨x.1, 0, none⟩))), (10, .v (.bool (foldK k (rs'.getD i default).2).isSome))]) [4, 5, 6, 7, 8, 34, 35, 36, 37] (fun x => blk x.1 ⟨kC ((foldK k (rs'.getD i default).2).getD zeroK).view ((foldK k (rs'.getD i default).2).getD zeroK).normal ((foldK k (rs'.getD i default).2).getD zeroK).base ((foldK k (rs'.getD i default).2).getD zeroK).state x.2.1.1, 28⟩ :: rom x.2.1.2 :: rom ((ve, entR k.ents) :: pcR rs') :: sl so' (mrow pcV 52 rs') :: rjo j r k ve :: rpo r ⟨b0, s0, b1, s1, 1, am, false⟩ :: sl bv (bR b1) :: F) (by dsimp only [pickE, pick1, lk2, Nat.reduceBEq, Nat.reduceAdd, Nat.zero_add, cond_true, cond_false] <;> exact rfl) ?_ ?_
      · refine r_held (id := 9) ([rjo j r k ve, rom ((ve, entR k.ents) :: pcR rs'), sl so' (mrow pcV 52 rs')]) Mixed.h ?_
        (refine h_give (i := 0) (by kernel_rfl) rfl (gM (evv rfl)) rfl rfl ?_)
        (refine h_give (i := 1) (by kernel_rfl) rfl (g_nil (evv rfl)) rfl rfl ?_)
        (refine h_give (i := 2) (by kernel_rfl) rfl (g_fld (evv rfl)) rfl rfl ?_)
        (refine h_give (i := 3) (by kernel_rfl) rfl (g_loadF (evv rfl) (by rfl) (by rfl)) rfl rfl ?_)
        (refine h_give (i := 4) (by kernel_rfl) rfl (gM (evv rfl)) rfl rfl ?_)
        (refine h_give (i := 5) (by kernel_rfl) rfl (gM (evv rfl)) rfl rfl ?_)
        (refine h_give (i := 6) (by kernel_rfl) rfl (g_idxMN (evv rfl) (evv rfl) (by rfl) (by first | omega | (have := of_decide_eq_true hg; omega) | (simp at hg; omega) | (simp only [List.length_set, List.length_append, List.length_cons, List.length_nil, List.length_map, List.length_take, List.length_drop, List.length_replicate]; omega))) rfl rfl ?_)
        (refine h_give (i := 7) (by kernel_rfl) rfl (g_loadM (evv rfl) (by rfl) (by first | omega | (have := of_decide_eq_true hg; omega) | (simp at hg; omega) | (simp only [List.length_set, List.length_append, List.length_cons, List.length_nil, List.length_map, List.length_take, List.length_drop, List.length_replicate]; omega))) rfl rfl ?_)
        refine h_two (i := 8) (j := 12) (by kernel_rfl) rfl rfl (Lay.ent) ?_ ?_
        · ((refine o_call rfl _ (Ent.refl _) (rjFold_c _ _ _ _ _ _ _ _ _ (by first | assumption | omega) (by assumption) (by assumption)) rfl ?_; rintro _ _ ⟨fv, fl, rfl, rfl, hfr⟩; simp only [foldV']; refine o_rdI hfr fun hfi => ?_)); refine oN ?_
          (refine h_give (i := 9) (by kernel_rfl) rfl (gM (evv rfl)) rfl rfl ?_)
          (refine h_give (i := 10) (by kernel_rfl) rfl (g_extract (evv rfl) (by rfl)) rfl rfl ?_)
          (refine h_give (i := 11) (by kernel_rfl) rfl (g_extract (evv rfl) (by rfl)) rfl rfl ?_)
          refine h_one (i := 12) (by kernel_rfl) rfl (Lay.ent) ?_
          (refine o_alloc rfl rfl (fun _ => ?_)); refine oN ?_
          refine h_one (i := 13) (by kernel_rfl) rfl (Lay.ent) ?_
          (refine o_storeW (evv rfl) (evv rfl) (by first | rfl | assumption | exact LenC.h _ | (simp [bys, *]; done) | fail) (by first | (intro _ _ _; exact bys_one _) | exact AllOne.h | (intro _ _ _ u hu; simp at hu; rcases hu with rfl | rfl | rfl | rfl | rfl | rfl | rfl | rfl <;> rfl) | fail) (by first | rfl | exact (LenC.h _).trans rfl | exact (LenC.h _).trans (LenC.h _).symm | (simp [bys, *]; done) | (simp only [bys, List.length_map, *]; rfl) | fail) ?_); refine oN ?_
          (refine h_give (i := 14) (by kernel_rfl) rfl (gA (evv rfl)) rfl rfl ?_)
          refine h_done (by kernel_rfl) (Lay.ent) ?_
          exact c_cut (by assumption, ⟨(fv, fl), hfr⟩) (by repeat (first | exact trivial | refine ⟨rfl, ?_⟩ | refine envsub_v rfl (by first | rfl | (refine int_eq ?_; first | omega | (simp; omega) | (simp; done)) | (refine bool_eq ?_; first | (simp [*]; done) | (simp; done)) | (refine str_eq ?_; simp; done) | (refine ptr_eq ?_; omega) | fail) ?_)) (Lay.ent)
        · (refine o_alloc rfl rfl (fun _ => ?_)); refine oN ?_
          refine h_one (i := 8) (by kernel_rfl) rfl (Lay.ent) ?_
          ((refine o_call rfl _ (Ent.refl _) (rjFold_c _ _ _ _ _ _ _ _ _ (by first | assumption | omega) (by assumption) (by assumption)) rfl ?_; rintro _ _ ⟨fv, fl, rfl, rfl, hfr⟩; simp only [foldV']; refine o_rdI hfr fun hfi => ?_)); refine oN ?_
          (refine h_give (i := 9) (by kernel_rfl) rfl (gM (evv rfl)) rfl rfl ?_)
          (refine h_give (i := 10) (by kernel_rfl) rfl (g_extract (evv rfl) (by rfl)) rfl rfl ?_)
          (refine h_give (i := 11) (by kernel_rfl) rfl (g_extract (evv rfl) (by rfl)) rfl rfl ?_)
          refine h_one (i := 13) (by kernel_rfl) rfl (Lay.ent) ?_
          (refine o_storeW (evv rfl) (evv rfl) (by first | rfl | assumption | exact LenC.h _ | (simp [bys, *]; done) | fail) (by first | (intro _ _ _; exact bys_one _) | exact AllOne.h | (intro _ _ _ u hu; simp at hu; rcases hu with rfl | rfl | rfl | rfl | rfl | rfl | rfl | rfl <;> rfl) | fail) (by first | rfl | exact (LenC.h _).trans rfl | exact (LenC.h _).trans (LenC.h _).symm | (simp [bys, *]; done) | (simp only [bys, List.length_map, *]; rfl) | fail) ?_); refine oN ?_
          (refine h_give (i := 14) (by kernel_rfl) rfl (gA (evv rfl)) rfl rfl ?_)
          refine h_done (by kernel_rfl) (Lay.ent) ?_
          exact c_cut (by assumption, ⟨(fv, fl), hfr⟩) (by repeat (first | exact trivial | refine ⟨rfl, ?_⟩ | refine envsub_v rfl (by first | rfl | (refine int_eq ?_; first | omega | (simp; omega) | (simp; done)) | (refine bool_eq ?_; first | (simp [*]; done) | (simp; done)) | (refine str_eq ?_; simp; done) | (refine ptr_eq ?_; omega) | fail) ?_)) (Lay.ent)
      rintro ⟨c, ⟨⟨fv, fl⟩, hl⟩⟩
      dsimp only [List.cons_append, List.nil_append] at hl ⊢
      generalize foldK k (rs'.getD i default).2 = rr at *
      have hls := hl.rd (F := rom ((ve, entR k.ents) :: pcR rs') :: sl so' (mrow pcV 52 rs') :: rjo j r k ve :: rpo r ⟨b0, s0, b1, s1, 1, am, false⟩ :: sl bv (bR b1) :: F)
      cases rr with
      | none =>
        have hT := hN (foldsK_stop hsn)
        rw [hT]
        simp only [Option.isSome_none]
        refine cC ?_
        refine rS ?_
        refine rS ?_
        refine rR (id := 10) ?_
        refine oG (gM (evv rfl)) rfl rfl ?_
        refine oG (g_not (evv rfl)) rfl rfl ?_
        refine oN ?_
        refine cC ?_
        refine r_cond_true rfl ?_
        refine rS ?_
        refine rR (id := 11) ?_
        refine oG (gA (evv rfl)) rfl rfl ?_
        refine oG (gA (evv rfl)) rfl rfl ?_
        refine oN ?_
        refine cC ?_
        first | refine r_ret (rs := [.tmp 2, .tmp 3]) rfl rfl _ ((Lay.ent (L' := rpo r ⟨b0, s0, b1, s1, 1, am, false⟩ :: F))) ?_ | refine c_end (rs := [.tmp 2, .tmp 3]) rfl rfl _ ((Lay.ent (L' := rpo r ⟨b0, s0, b1, s1, 1, am, false⟩ :: F))) ?_
        exact .inr ⟨(show (180 : Int) ≠ 0 by decide), rfl, rfl⟩
      | some k' =>
        simp only [Option.getD_some, Option.isSome_some] at hl hls ⊢
        refine cC ?_
        refine rS ?_
        refine rS ?_
        refine rR (id := 10) ?_
        refine oG (gM (evv rfl)) rfl rfl ?_
        refine oG (g_not (evv rfl)) rfl rfl ?_
        refine oN ?_
        refine cC ?_
        refine r_cond_false rfl ?_
        refine r_skip ?_
        refine cC ?_
        refine rR (id := 12) ?_
        refine oG (gM (evv rfl)) rfl rfl ?_
        refine oG (g_loadF (evv rfl) (by rfl) (by rfl)) rfl rfl ?_
        refine oG (g_nil (evv rfl)) rfl rfl ?_
        refine oG (g_fld (evv rfl)) rfl rfl ?_
        refine o_storeA (evv rfl) (evv rfl) (by first | rfl | assumption | exact LenC.h _ | (simp [bys, *]; done) | fail) (by first | (intro _ _ _; exact bys_one _) | exact AllOne.h | (intro _ _ _ u hu; simp at hu; rcases hu with rfl | rfl | rfl | rfl | rfl | rfl | rfl | rfl <;> rfl) | fail) (by rfl) (by rfl) ?_
        refine oN ?_
        refine c_blk ?_
        refine cC ?_
        refine rR (id := 8) ?_
        refine oG (gM (evv rfl)) rfl rfl ?_
        refine o_giveN (g_bin (evv rfl) (evv rfl) (by rfl)) (by simp only [inR]; omega) rfl ?_
        refine oG (gA (evv rfl)) rfl rfl ?_
        refine oN ?_
        refine c_loop (i + 1, k', fv) ?_ ?_ (by repeat (first | exact trivial | refine ⟨rfl, ?_⟩ | refine envsub_v rfl (by first | rfl | (refine int_eq ?_; first | omega | (simp; omega) | (simp; done)) | (refine bool_eq ?_; first | (simp [*]; done) | (simp; done)) | (refine str_eq ?_; simp; done) | (refine ptr_eq ?_; omega) | fail) ?_)) ?_ <;> (try dsimp only)
        · exact ⟨by omega, hsn⟩
        · omega
        · exact (Lay.ent (L' := rom fl :: rom ((ve, entR k.ents) :: pcR rs') :: sl so' (mrow pcV 52 rs') :: rjo j r k' fv :: rpo r ⟨b0, s0, b1, s1, 1, am, false⟩ :: sl bv (bR b1) :: F)).trans (lieRom hl)
    · obtain rfl : i = rs'.length := by omega
      rw [hrl, List.take_length] at hI
      have hT := hS k hI
      have hk32 : k.ents.length ≤ 1048576 := by have := hkk.2.2.2.2.2.2.2.2.2.1; omega
      have hst : k.state.length ≤ 140737488355000 := by have := hkk.2.2.2.2.2.2.2.1; omega
      refine r_exit rfl ?_
      refine cC ?_
      refine rS ?_
      refine rS ?_
      refine rR (id := 13) ?_
      refine oG (gM (evv rfl)) rfl rfl ?_
      refine oG (gM (evv rfl)) rfl rfl ?_
      refine oG (g_lenM (evv rfl)) rfl rfl ?_
      refine oG (g_bin (evv rfl) (evv rfl) (by rfl)) rfl rfl ?_
      refine oN ?_
      refine cC ?_
      refine r_cond rfl (fun hlt => ?_) (fun hlt => ?_) <;> (try simp only [decide_eq_true_eq, decide_eq_false_iff_not, Bool.and_eq_true, Bool.or_eq_true, Bool.not_eq_true', Bool.and_eq_false_iff, Bool.or_eq_false_iff, Bool.not_eq_false', Bool.not_eq_true, Bool.not_eq_false, Bool.true_eq_false, Bool.false_eq_true, Int.not_lt, Int.not_le, not_and, not_or, ne_eq] at hlt)
      · rw [if_pos (by omega)] at hT
        have hK0 : (layT ⟨b0, s0, b1, s1, 1, am, false⟩ k k).1 = 0 → (layT ⟨b0, s0, b1, s1, 1, am, false⟩ k k).2.2 = k := fun h => by
          unfold layT at h ⊢
          split
          · rfl
          · split <;> rfl
        refine rS ?_
        refine rR (id := 14) ?_
        refine oG (gM (evv rfl)) rfl rfl ?_
        refine oG (gM (evv rfl)) rfl rfl ?_
        refine oG (g_nil (evv rfl)) rfl rfl ?_
        refine oG (g_fld (evv rfl)) rfl rfl ?_
        refine oG (g_loadF (evv rfl) (by rfl) (by rfl)) rfl rfl ?_
        refine o_call (vs := [.pointer (some ⟨j, 0, none⟩), agg (kC k.view k.normal k.base k.state ve)]) rfl _ (Lay.ent (L' := rjo j r k ve :: rpo r ⟨b0, s0, b1, s1, 1, am, false⟩ :: rom ((ve, entR k.ents) :: pcR rs') :: F)) (rjLay_c (rom ((ve, entR k.ents) :: pcR rs') :: F) j r ⟨b0, s0, b1, s1, 1, am, false⟩ k k ve ve hx hkf hk32 hst hs) rfl ?_
        rintro _ _ ⟨rfl, rfl⟩
        rw [ite_self]
        rcases hR : layT ⟨b0, s0, b1, s1, 1, am, false⟩ k k with ⟨e, y, kk⟩
        rw [hR] at hT hK0
        dsimp only at hT hK0 ⊢
        refine oG (gA (evv rfl)) rfl rfl ?_
        refine oN ?_
        refine cC ?_
        refine rS ?_
        by_cases he : e = 0
        · subst he
          obtain rfl := hK0 rfl
          rw [if_pos rfl] at hT
          rw [hT]
          refine rR (id := 15) ?_
          refine oG (gM (evv rfl)) rfl rfl ?_
          refine oG (g_bin (evv rfl) (evv rfl) (by rfl)) rfl rfl ?_
          refine oN ?_
          refine cC ?_
          refine r_cond_false rfl ?_
          refine r_skip ?_
          refine cC ?_
          refine rS ?_
          refine rR (id := 17) ?_
          refine oG (gM (evv rfl)) rfl rfl ?_
          refine oG (gA (evv rfl)) rfl rfl ?_
          refine oG (gA (evv rfl)) rfl rfl ?_
          refine oN ?_
          refine cC ?_
          first | refine r_ret (rs := [.tmp 2, .tmp 3]) rfl rfl _ ((Lay.ent (L' := rjo j r kk ve :: rpo r y :: rom ((ve, entR kk.ents) :: pcR rs') :: F))) ?_ | refine c_end (rs := [.tmp 2, .tmp 3]) rfl rfl _ ((Lay.ent (L' := rjo j r kk ve :: rpo r y :: rom ((ve, entR kk.ents) :: pcR rs') :: F))) ?_
          exact .inl ⟨rfl, j, ve, _, rfl, rfl, inferInstance⟩
        · rw [if_neg he] at hT
          rw [hT]
          refine rR (id := 15) ?_
          refine oG (gM (evv rfl)) rfl rfl ?_
          refine oG (g_bin (evv rfl) (evv rfl) (by rfl)) rfl rfl ?_
          refine oN ?_
          refine cC ?_
          refine r_cond rfl (fun hg => ?_) (fun hg => ?_) <;> (try simp only [decide_eq_true_eq, decide_eq_false_iff_not, Bool.and_eq_true, Bool.or_eq_true, Bool.not_eq_true', Bool.and_eq_false_iff, Bool.or_eq_false_iff, Bool.not_eq_false', Bool.not_eq_true, Bool.not_eq_false, Bool.true_eq_false, Bool.false_eq_true, Int.not_lt, Int.not_le, not_and, not_or, ne_eq] at hg)
          · refine rS ?_
            refine rR (id := 16) ?_
            refine oG (gM (evv rfl)) rfl rfl ?_
            refine oG (gA (evv rfl)) rfl rfl ?_
            refine oG (gA (evv rfl)) rfl rfl ?_
            refine oN ?_
            refine cC ?_
            first | refine r_ret (rs := [.tmp 2, .tmp 3]) rfl rfl _ ((Lay.ent (L' := rpo r y :: F))) ?_ | refine c_end (rs := [.tmp 2, .tmp 3]) rfl rfl _ ((Lay.ent (L' := rpo r y :: F))) ?_
            exact .inr ⟨he, rfl, rfl⟩
          · exact absurd hg he
      · rw [if_neg (by omega)] at hT
        rw [hT]
        refine r_skip ?_
        refine cC ?_
        refine rS ?_
        refine rR (id := 17) ?_
        refine oG (gM (evv rfl)) rfl rfl ?_
        refine oG (gA (evv rfl)) rfl rfl ?_
        refine oG (gA (evv rfl)) rfl rfl ?_
        refine oN ?_
        refine cC ?_
        first | refine r_ret (rs := [.tmp 2, .tmp 3]) rfl rfl _ (((Lay.ent (L' := rom ((ve, entR k.ents) :: pcR rs') :: rjo j r k ve :: rpo r ⟨b0, s0, b1, s1, 1, am, false⟩ :: F)).trans (Lay.ent (L' := rjo j r k ve :: rpo r ⟨b0, s0, b1, s1, 1, am, false⟩ :: rom ((ve, entR k.ents) :: pcR rs') :: F)))) ?_ | refine c_end (rs := [.tmp 2, .tmp 3]) rfl rfl _ (((Lay.ent (L' := rom ((ve, entR k.ents) :: pcR rs') :: rjo j r k ve :: rpo r ⟨b0, s0, b1, s1, 1, am, false⟩ :: F)).trans (Lay.ent (L' := rjo j r k ve :: rpo r ⟨b0, s0, b1, s1, 1, am, false⟩ :: rom ((ve, entR k.ents) :: pcR rs') :: F)))) ?_
        exact .inl ⟨rfl, j, ve, _, rfl, rfl, inferInstance⟩
end VK

namespace VK
open Go Go.Proofs
set_option linter.unusedSimpArgs false
set_option linter.unusedVariables false
set_option maxRecDepth 100000
set_option maxHeartbeats 40000000
theorem rjsame_c (F : List Atom) (p r : Nat) (x : Pt) (h : x.ok) : Fn Try.prog 26 [.pointer (some ⟨p, 0, none⟩), .pointer (some ⟨r, 0, none⟩)] (rpo r x :: pt p x :: F) fun v L' => v = .bool true ∧ L' = rpo r x :: pt p x :: F := by
  have hn0 := h.n0
  have hn1 := h.n1
  obtain ⟨b0, s0, b1, s1, lv, am, dn⟩ := x
  dsimp only at hn0 hn1
  refine fn_intro Try.func26 rfl Try.ntmps26 rfl (fun W0 => ?_)
  simp only [argE]
  refine rS ?_
  refine rR (id := 0) ?_
  refine oG (gA (evv rfl)) rfl rfl ?_
  refine oN ?_
  refine cC ?_
  refine rS ?_
  refine rS ?_
  refine rR (id := 1) ?_
  refine oG (gA (evv rfl)) rfl rfl ?_
  refine oN ?_
  refine cC ?_
  refine r_block ?_
  refine r_loopE (σ := Nat) (fun i => i ≤ 2) (fun i => 2 - i) (fun i => [(5, .v (.int .i64 i))]) [0, 1] (fun i => blk r (rpB b0 b1 s0 s1 lv am dn) :: pt p ⟨b0, s0, b1, s1, lv, am, dn⟩ :: F) 0 (by dsimp only [pickE, pick1, lk2, Nat.reduceBEq, Nat.reduceAdd, Nat.zero_add, cond_true, cond_false] <;> exact rfl) ?_ (by repeat (first | exact trivial | refine ⟨rfl, ?_⟩ | refine envsub_v rfl (by first | rfl | (refine int_eq ?_; first | omega | (simp; omega) | (simp; done)) | (refine bool_eq ?_; first | (simp [*]; done) | (simp; done)) | (refine str_eq ?_; simp; done) | (refine ptr_eq ?_; omega) | fail) ?_)) ?_ ?_
  · exact Nat.zero_le _
  · exact Ent.refl _
  rintro i hi; (try dsimp only at hi); dsimp only [List.cons_append, List.nil_append]
  rcases (by omega : i = 0 ∨ i = 1 ∨ i = 2) with rfl | rfl | rfl
  · refine rS ?_
    refine rS ?_
    refine rR (id := 2) ?_
    refine oG (gM (evv rfl)) rfl rfl ?_
    refine oG (g_bin (evv rfl) (evv rfl) (by rfl)) rfl rfl ?_
    refine oN ?_
    refine cC ?_
    refine r_cond_true rfl ?_
    refine r_skip ?_
    refine cC ?_
    refine rS ?_
    refine r_block ?_
    refine rS ?_
    have e1 : rdT ⟨b0, s0, b1, s1, lv, am, dn⟩ ((0 : Nat) : Int) = b0 := rfl
    have e2 : syT ⟨b0, s0, b1, s1, lv, am, dn⟩ ((0 : Nat) : Int) = (s0 : Int) := rfl
    skip
    repeat (first | refine rS ?_ | refine cC ?_ | refine c_blk ?_ | refine r_block ?_ | refine r_skip ?_)
    refine r_held (id := 4) ([blk r (rpB b0 b1 s0 s1 lv am dn)]) Mixed.h ?_
    refine h_give (i := 0) (by kernel_rfl) rfl (gM (evv rfl)) rfl rfl ?_
    refine h_give (i := 1) (by kernel_rfl) rfl (gM (evv rfl)) rfl rfl ?_
    refine h_give (i := 4) (by kernel_rfl) rfl (gM (evv rfl)) rfl rfl ?_
    refine h_give (i := 5) (by kernel_rfl) rfl (gM (evv rfl)) rfl rfl ?_
    refine h_give (i := 6) (by kernel_rfl) rfl (g_nil (evv rfl)) rfl rfl ?_
    refine h_give (i := 7) (by kernel_rfl) rfl (g_fld (evv rfl)) rfl rfl ?_
    refine h_give (i := 8) (by kernel_rfl) rfl (g_idxAN (evv rfl) (evv rfl) (by omega)) rfl rfl ?_
    refine h_give (i := 9) (by kernel_rfl) rfl (g_load (evv rfl) (by rfl) (by rfl)) rfl rfl ?_
    refine h_one (i := 2) (by kernel_rfl) rfl (Lay.ent) ?_
    (refine o_call rfl _ (PickR.ent (K := pt _)) (pRead_c _ _ _ (by assumption) _) rfl ?_; rintro cw _ ⟨-, rfl⟩)
    refine oN ?_
    refine h_one (i := 3) (by kernel_rfl) rfl (Lay.ent) ?_
    refine oG (g_b2sM (evv rfl)) rfl rfl ?_
    refine oN ?_
    refine h_give (i := 10) (by kernel_rfl) rfl (g_binS (evv rfl) (evv rfl) (by rfl)) rfl rfl ?_
    refine h_give (i := 11) (by kernel_rfl) rfl (gM (evv rfl)) rfl rfl ?_
    simp only [e1, decide_true, Bool.not_true]
    refine h_sure (i := 12) (by kernel_rfl) rfl rfl (gM (evv rfl)) rfl rfl ?_
    refine h_sure (i := 13) (by kernel_rfl) rfl rfl (gM (evv rfl)) rfl rfl ?_
    refine h_sure (i := 15) (by kernel_rfl) rfl rfl (gM (evv rfl)) rfl rfl ?_
    refine h_sure (i := 16) (by kernel_rfl) rfl rfl (gM (evv rfl)) rfl rfl ?_
    refine h_sure (i := 17) (by kernel_rfl) rfl rfl (g_nil (evv rfl)) rfl rfl ?_
    refine h_sure (i := 18) (by kernel_rfl) rfl rfl (g_fld (evv rfl)) rfl rfl ?_
    refine h_sure (i := 19) (by kernel_rfl) rfl rfl (g_idxAN (evv rfl) (evv rfl) (by omega)) rfl rfl ?_
    refine h_sure (i := 20) (by kernel_rfl) rfl rfl (g_load (evv rfl) (by rfl) (by rfl)) rfl rfl ?_
    refine h_one (i := 14) (by kernel_rfl) rfl (Lay.ent) ?_
    refine o_gyes rfl ?_
    (refine o_call rfl _ (PickR.ent (K := pt _)) (Synced_c _ _ _ _) rfl ?_; rintro _ _ ⟨rfl, rfl⟩)
    refine oN ?_
    refine h_sure (i := 21) (by kernel_rfl) rfl rfl (g_bin (evv rfl) (evv rfl) (by rfl)) rfl rfl ?_
    refine h_give (i := 22) (by kernel_rfl) rfl (g_pick (b := false) (evv rfl) (fun h => by cases h) (fun _ => (evv rfl))) rfl rfl ?_
    refine h_done (by kernel_rfl) (Lay.ent) ?_
    rw [e2]
    simp only [decide_true, Bool.not_true]
    refine cC ?_
    refine r_cond_false rfl ?_
    refine r_skip ?_
    refine c_blk ?_
    refine cC ?_
    refine rR (id := 3) ?_
    refine oG (gM (evv rfl)) rfl rfl ?_
    refine o_giveN (g_bin (evv rfl) (evv rfl) (by rfl)) (by simp only [inR]; omega) rfl ?_
    refine oG (gA (evv rfl)) rfl rfl ?_
    refine oN ?_
    refine c_loop (0 + 1) ?_ ?_ (by repeat (first | exact trivial | refine ⟨rfl, ?_⟩ | refine envsub_v rfl (by first | rfl | (refine int_eq ?_; first | omega | (simp; omega) | (simp; done)) | (refine bool_eq ?_; first | (simp [*]; done) | (simp; done)) | (refine str_eq ?_; simp; done) | (refine ptr_eq ?_; omega) | fail) ?_)) ?_ <;> (try dsimp only)
    · omega
    · omega
    · exact Lay.ent
  · refine rS ?_
    refine rS ?_
    refine rR (id := 2) ?_
    refine oG (gM (evv rfl)) rfl rfl ?_
    refine oG (g_bin (evv rfl) (evv rfl) (by rfl)) rfl rfl ?_
    refine oN ?_
    refine cC ?_
    refine r_cond_true rfl ?_
    refine r_skip ?_
    refine cC ?_
    refine rS ?_
    refine r_block ?_
    refine rS ?_
    have e1 : rdT ⟨b0, s0, b1, s1, lv, am, dn⟩ ((1 : Nat) : Int) = b1 := rfl
    have e2 : syT ⟨b0, s0, b1, s1, lv, am, dn⟩ ((1 : Nat) : Int) = (s1 : Int) := rfl
    skip
    repeat (first | refine rS ?_ | refine cC ?_ | refine c_blk ?_ | refine r_block ?_ | refine r_skip ?_)
    refine r_held (id := 4) ([blk r (rpB b0 b1 s0 s1 lv am dn)]) Mixed.h ?_
    refine h_give (i := 0) (by kernel_rfl) rfl (gM (evv rfl)) rfl rfl ?_
    refine h_give (i := 1) (by kernel_rfl) rfl (gM (evv rfl)) rfl rfl ?_
    refine h_give (i := 4) (by kernel_rfl) rfl (gM (evv rfl)) rfl rfl ?_
    refine h_give (i := 5) (by kernel_rfl) rfl (gM (evv rfl)) rfl rfl ?_
    refine h_give (i := 6) (by kernel_rfl) rfl (g_nil (evv rfl)) rfl rfl ?_
    refine h_give (i := 7) (by kernel_rfl) rfl (g_fld (evv rfl)) rfl rfl ?_
    refine h_give (i := 8) (by kernel_rfl) rfl (g_idxAN (evv rfl) (evv rfl) (by omega)) rfl rfl ?_
    refine h_give (i := 9) (by kernel_rfl) rfl (g_load (evv rfl) (by rfl) (by rfl)) rfl rfl ?_
    refine h_one (i := 2) (by kernel_rfl) rfl (Lay.ent) ?_
    (refine o_call rfl _ (PickR.ent (K := pt _)) (pRead_c _ _ _ (by assumption) _) rfl ?_; rintro cw _ ⟨-, rfl⟩)
    refine oN ?_
    refine h_one (i := 3) (by kernel_rfl) rfl (Lay.ent) ?_
    refine oG (g_b2sM (evv rfl)) rfl rfl ?_
    refine oN ?_
    refine h_give (i := 10) (by kernel_rfl) rfl (g_binS (evv rfl) (evv rfl) (by rfl)) rfl rfl ?_
    refine h_give (i := 11) (by kernel_rfl) rfl (gM (evv rfl)) rfl rfl ?_
    simp only [e1, decide_true, Bool.not_true]
    refine h_sure (i := 12) (by kernel_rfl) rfl rfl (gM (evv rfl)) rfl rfl ?_
    refine h_sure (i := 13) (by kernel_rfl) rfl rfl (gM (evv rfl)) rfl rfl ?_
    refine h_sure (i := 15) (by kernel_rfl) rfl rfl (gM (evv rfl)) rfl rfl ?_
    refine h_sure (i := 16) (by kernel_rfl) rfl rfl (gM (evv rfl)) rfl rfl ?_
    refine h_sure (i := 17) (by kernel_rfl) rfl rfl (g_nil (evv rfl)) rfl rfl ?_
    refine h_sure (i := 18) (by kernel_rfl) rfl rfl (g_fld (evv rfl)) rfl rfl ?_
    refine h_sure (i := 19) (by kernel_rfl) rfl rfl (g_idxAN (evv rfl) (evv rfl) (by omega)) rfl rfl ?_
    refine h_sure (i := 20) (by kernel_rfl) rfl rfl (g_load (evv rfl) (by rfl) (by rfl)) rfl rfl ?_
    refine h_one (i := 14) (by kernel_rfl) rfl (Lay.ent) ?_
    refine o_gyes rfl ?_
    (refine o_call rfl _ (PickR.ent (K := pt _)) (Synced_c _ _ _ _) rfl ?_; rintro _ _ ⟨rfl, rfl⟩)
    refine oN ?_
    refine h_sure (i := 21) (by kernel_rfl) rfl rfl (g_bin (evv rfl) (evv rfl) (by rfl)) rfl rfl ?_
    refine h_give (i := 22) (by kernel_rfl) rfl (g_pick (b := false) (evv rfl) (fun h => by cases h) (fun _ => (evv rfl))) rfl rfl ?_
    refine h_done (by kernel_rfl) (Lay.ent) ?_
    rw [e2]
    simp only [decide_true, Bool.not_true]
    refine cC ?_
    refine r_cond_false rfl ?_
    refine r_skip ?_
    refine c_blk ?_
    refine cC ?_
    refine rR (id := 3) ?_
    refine oG (gM (evv rfl)) rfl rfl ?_
    refine o_giveN (g_bin (evv rfl) (evv rfl) (by rfl)) (by simp only [inR]; omega) rfl ?_
    refine oG (gA (evv rfl)) rfl rfl ?_
    refine oN ?_
    refine c_loop (1 + 1) ?_ ?_ (by repeat (first | exact trivial | refine ⟨rfl, ?_⟩ | refine envsub_v rfl (by first | rfl | (refine int_eq ?_; first | omega | (simp; omega) | (simp; done)) | (refine bool_eq ?_; first | (simp [*]; done) | (simp; done)) | (refine str_eq ?_; simp; done) | (refine ptr_eq ?_; omega) | fail) ?_)) ?_ <;> (try dsimp only)
    · omega
    · omega
    · exact Lay.ent
  · refine rS ?_
    refine rS ?_
    refine rR (id := 2) ?_
    refine oG (gM (evv rfl)) rfl rfl ?_
    refine oG (g_bin (evv rfl) (evv rfl) (by rfl)) rfl rfl ?_
    refine oN ?_
    refine cC ?_
    refine r_cond_false rfl ?_
    refine r_exit rfl ?_
    refine cC ?_
    refine rS ?_
    skip
    repeat (first | refine rS ?_ | refine cC ?_ | refine c_blk ?_ | refine r_block ?_ | refine r_skip ?_)
    refine r_held (id := 6) ([blk r (rpB b0 b1 s0 s1 lv am dn)]) Mixed.h ?_
    refine h_give (i := 0) (by kernel_rfl) rfl (gM (evv rfl)) rfl rfl ?_
    refine h_give (i := 2) (by kernel_rfl) rfl (gM (evv rfl)) rfl rfl ?_
    refine h_give (i := 3) (by kernel_rfl) rfl (g_nil (evv rfl)) rfl rfl ?_
    refine h_give (i := 4) (by kernel_rfl) rfl (g_fld (evv rfl)) rfl rfl ?_
    refine h_give (i := 5) (by kernel_rfl) rfl (g_load (evv rfl) (by rfl) (by rfl)) rfl rfl ?_
    refine h_one (i := 1) (by kernel_rfl) rfl (Lay.ent) ?_
    (refine o_call rfl _ (PickR.ent (K := pt _)) (Live_c _ _ _) rfl ?_; rintro _ _ ⟨rfl, rfl⟩)
    refine oN ?_
    refine h_give (i := 6) (by kernel_rfl) rfl (g_bin (evv rfl) (evv rfl) (by rfl)) rfl rfl ?_
    refine h_give (i := 7) (by kernel_rfl) rfl (gM (evv rfl)) rfl rfl ?_
    simp only [decide_true]
    refine h_sure (i := 8) (by kernel_rfl) rfl rfl (gM (evv rfl)) rfl rfl ?_
    refine h_sure (i := 10) (by kernel_rfl) rfl rfl (gM (evv rfl)) rfl rfl ?_
    refine h_sure (i := 11) (by kernel_rfl) rfl rfl (g_nil (evv rfl)) rfl rfl ?_
    refine h_sure (i := 12) (by kernel_rfl) rfl rfl (g_fld (evv rfl)) rfl rfl ?_
    refine h_sure (i := 13) (by kernel_rfl) rfl rfl (g_load (evv rfl) (by rfl) (by rfl)) rfl rfl ?_
    refine h_one (i := 9) (by kernel_rfl) rfl (Lay.ent) ?_
    refine o_gyes rfl ?_
    (refine o_call rfl _ (PickR.ent (K := pt _)) (Down_c _ _ _) rfl ?_; rintro _ _ ⟨rfl, rfl⟩)
    refine oN ?_
    refine h_sure (i := 14) (by kernel_rfl) rfl rfl (g_binB TyU.h (evv rfl) (evv rfl) (by rfl)) rfl rfl ?_
    refine h_give (i := 15) (by kernel_rfl) rfl (g_pick (b := true) (evv rfl) (fun _ => (evv rfl)) (fun h => by cases h)) rfl rfl ?_
    refine h_give (i := 16) (by kernel_rfl) rfl (gA (evv rfl)) rfl rfl ?_
    refine h_done (by kernel_rfl) (Lay.ent) ?_
    refine cC ?_
    first | refine r_ret (rs := [.tmp 4]) rfl rfl _ ((Lay.ent (L' := rpo r ⟨b0, s0, b1, s1, lv, am, dn⟩ :: pt p ⟨b0, s0, b1, s1, lv, am, dn⟩ :: F))) ?_ | refine c_end (rs := [.tmp 4]) rfl rfl _ ((Lay.ent (L' := rpo r ⟨b0, s0, b1, s1, lv, am, dn⟩ :: pt p ⟨b0, s0, b1, s1, lv, am, dn⟩ :: F))) ?_
    refine ⟨?_, rfl⟩
    exact bool_eq (by simp)
theorem rDo4_c (F : List Atom) (r : Nat) (x : Pt) (hx : x.ok) (n : Int) (hn : inR .i64 n) :
    Fn Try.prog 24 [.pointer (some ⟨r, 0, none⟩), agg [.int .i64 4, .int .i64 0, .slice none 0 0, .int .i64 n, .slice none 0 0]] (rpo r x :: F) fun w L' => w = .int .i64 0 ∧ L' = rpo r (armT x n) :: F := by
  have := rDo_c F r x hx ⟨4, 0, .slice none 0 0, [], n, .slice none 0 0, []⟩ (rd := ⟨Rd.nilM by8 _, Rd.nilM i64v _⟩) (by simp) (by simp) hn
  rw [show doT x ⟨4, 0, .slice none 0 0, [], n, .slice none 0 0, []⟩ = (0, armT x n) from rfl] at this; exact this
theorem rDo5_c (F : List Atom) (r : Nat) (x : Pt) (hx : x.ok) (kv : Value) (ks : List Int) [rk : Rd F kv (mrow i64v 3 ks)] (hk : ∀ k ∈ ks, inR .i64 k) :
    Fn Try.prog 24 [.pointer (some ⟨r, 0, none⟩), agg [.int .i64 5, .int .i64 0, .slice none 0 0, .int .i64 0, kv]] (rpo r x :: F) fun w L' => w = .int .i64 0 ∧ L' = rpo r (cutT x ks) :: F := by
  have := rDo_c F r x hx ⟨5, 0, .slice none 0 0, [], 0, kv, ks⟩ (rd := ⟨Rd.nilM by8 _, rk⟩) hk (by simp) (show inR .i64 0 from ⟨by decide, by decide⟩)
  rw [show doT x ⟨5, 0, .slice none 0 0, [], 0, kv, ks⟩ = (0, cutT x ks) from rfl] at this; exact this
end VK

namespace VK
open Go Go.Proofs
set_option linter.unusedSimpArgs false
set_option linter.unusedVariables false
set_option maxRecDepth 100000
set_option maxHeartbeats 40000000
def payJ (a : ActJ) : List UInt8 × Bool :=
  if a.q = 0 then (payV (a.view % 18446744073709551616).toNat, decide (0 ≤ a.view)) else if a.q = 1 then (payE a.e, decide (¬ longOp a.e.op)) else
  (payA (a.view % 18446744073709551616).toNat (a.from_ % 18446744073709551616).toNat a.es, decide (0 ≤ a.view ∧ 0 ≤ a.from_ ∧ a.es.length ≤ 32 ∧ ∀ e ∈ a.es, ¬ longOp e.op))
theorem ok_ents (es : List EntS) : KeptS.ok ⟨0, 0, 0, [], es⟩ ↔ es.length ≤ 32 ∧ ∀ e ∈ es, ¬ longOp e.op := by
  have hgr : gr = 1099511627776 := rfl
  simp only [KeptS.ok]
  constructor
  · intro h; exact ⟨h.2.2.2.2.2.2.2.2.2.1, h.2.2.2.2.2.2.2.2.2.2⟩
  · intro h; exact ⟨by omega, by omega, by omega, by omega, by omega, by omega, by omega, by simp, by simp, h.1, h.2⟩
theorem rjPay_c (F : List Atom) (a : ActJ) [rd : RdA F a] (ha : a.ok) (hq2 : a.q ≤ 2) :
    Fn Try.prog 62 [agg (actC a)] F fun w L' => ∃ v, w = .tuple #[v, .bool (payJ a).2] ∧ L' = sl v (bR (payJ a).1) :: F := by
  have re := rd.e
  have rk := rd.k
  have hae := ha.e
  have has := ha.es
  have hn := ha.n
  have n1 := num_le 1 (by omega)
  have n2 := num_le 2 (by omega)
  have n3 := num_le 3 (by omega)
  have nv := num_le (a.view % 18446744073709551616).toNat (by omega)
  have nf := num_le (a.from_ % 18446744073709551616).toNat (by omega)
  have nl := num_le a.es.length (by omega)
  have ne := entsB_bound has a.es.length
  rw [List.take_length] at ne
  have hk5 : a.kind % 18446744073709551616 % 6 = a.q := rfl
  have m1 : (num (Int.toNat 1)).length ≤ 10 := n1
  have m2 : (num (Int.toNat 2)).length ≤ 10 := n2
  have m3 : (num (Int.toNat 3)).length ≤ 10 := n3
  have h1 : (Int.toNat 1) = 1 := rfl
  have h2 : (Int.toNat 2) = 2 := rfl
  have h3 : (Int.toNat 3) = 3 := rfl
  refine fn_intro Try.func62 rfl Try.ntmps62 rfl (fun W0 => ?_)
  simp only [argE]
  refine rS ?_
  refine rR (id := 0) ?_
  refine o_boxA (evv rfl) rfl (fun _ => ?_)
  refine oG (gA (evv rfl)) rfl rfl ?_
  refine oG (gA (evv rfl)) rfl rfl ?_
  refine oN ?_
  refine cC ?_
  refine rS ?_
  refine rS ?_
  refine rR (id := 1) ?_
  refine oG (g_fld (evv rfl)) rfl rfl ?_
  refine oG (g_load (evv rfl) (by rfl) (by rfl)) rfl rfl ?_
  refine o_giveU (g_conv TyU.h TyU.h (evv rfl)) (by rfl) rfl ?_
  refine oG (g_remP (evv rfl) (evv rfl) (by omega) (by omega)) rfl rfl ?_
  refine oN ?_
  refine cC ?_
  refine r_block ?_
  refine rS ?_
  rename_i q
  rw [hk5]
  generalize hqc : a.q = qc at *
  have hqr : 0 ≤ qc := by rw [← hqc]; unfold ActJ.q; omega
  rcases (by omega : qc = 0 ∨ qc = 1 ∨ qc = 2) with rfl | rfl | rfl
  · have hP : payJ a = (payV (a.view % 18446744073709551616).toNat, decide (0 ≤ a.view)) := if_pos hqc
    rw [hP]
    refine rR (id := 2) ?_
    refine oG (g_bin (evv rfl) (evv rfl) (by rfl)) rfl rfl ?_
    refine oG (gA (evv rfl)) rfl rfl ?_
    refine oN ?_
    refine cC ?_
    refine r_cond_true rfl ?_
    refine rS ?_
    repeat (first | refine rS ?_ | refine cC ?_ | refine c_blk ?_ | refine r_block ?_ | refine r_skip ?_)
    refine r_held (id := 3) ([blk q ⟨actC a, 37⟩]) Mixed.h ?_
    refine h_give (i := 1) (by kernel_rfl) rfl (g_fld (evv rfl)) rfl rfl ?_
    refine h_give (i := 2) (by kernel_rfl) rfl (g_load (evv rfl) (by rfl) (by rfl)) rfl rfl ?_
    refine h_giveU (i := 3) (by kernel_rfl) rfl (g_conv TyU.h TyU.h (evv rfl)) (by rfl) rfl ?_
    refine h_give (i := 6) (by kernel_rfl) rfl (g_fld (evv rfl)) rfl rfl ?_
    refine h_give (i := 7) (by kernel_rfl) rfl (g_load (evv rfl) (by rfl) (by rfl)) rfl rfl ?_
    refine h_give (i := 8) (by kernel_rfl) rfl (g_bin (evv rfl) (evv rfl) (by rfl)) rfl rfl ?_
    refine h_one (i := 0) (by kernel_rfl) rfl (Lay.ent) ?_
    (refine o_call rfl _ (Ent.refl _) (rNum_l _ (by omega)) rfl ?_; rintro _ _ ⟨_, rfl⟩; (try simp only [Int.toNat_natCast]))
    refine oN ?_
    refine h_one (i := 4) (by kernel_rfl) rfl (Lay.ent) ?_
    (refine o_call rfl _ (Ent.refl _) (rNum_l _ (by omega)) rfl ?_; rintro _ _ ⟨_, rfl⟩; (try simp only [Int.toNat_natCast]))
    refine oN ?_
    refine h_one (i := 5) (by kernel_rfl) rfl (Lay.ent) ?_
    refine o_appM (evv rfl) (evv rfl) (by rfl) (by rfl) (by rfl) (by (try simp only [bsOf, List.length_append, List.length_cons, List.length_nil, List.length_take, List.length_drop, List.length_drop, List.length_map, List.length_range]); omega) rfl (fun _ => ?_)
    refine oN ?_
    refine h_give (i := 9) (by kernel_rfl) rfl (gA (evv rfl)) rfl rfl ?_
    refine h_give (i := 10) (by kernel_rfl) rfl (gA (evv rfl)) rfl rfl ?_
    refine h_done (by kernel_rfl) (Lay.ent) ?_
    refine cC ?_
    rename_i v
    rw [h1]
    first | refine r_ret (rs := [.tmp 2, .tmp 3]) rfl rfl _ ((Lay.ent (L' := sl v (bR (num 1 ++ num (a.view % 18446744073709551616).toNat)) :: F))) ?_ | refine c_end (rs := [.tmp 2, .tmp 3]) rfl rfl _ ((Lay.ent (L' := sl v (bR (num 1 ++ num (a.view % 18446744073709551616).toNat)) :: F))) ?_
    exact ⟨v, rfl, rfl⟩
  · have hP : payJ a = (payE a.e, decide (¬ longOp a.e.op)) := by unfold payJ; rw [hqc, if_neg (by decide), if_pos rfl]
    rw [hP]
    refine rR (id := 2) ?_
    refine oG (g_bin (evv rfl) (evv rfl) (by rfl)) rfl rfl ?_
    refine oG (gA (evv rfl)) rfl rfl ?_
    refine oN ?_
    refine cC ?_
    refine r_cond_false rfl ?_
    refine rS ?_
    refine rR (id := 4) ?_
    refine oG (g_bin (evv rfl) (evv rfl) (by rfl)) rfl rfl ?_
    refine oG (gA (evv rfl)) rfl rfl ?_
    refine oN ?_
    refine cC ?_
    refine r_cond_true rfl ?_
    refine rS ?_
    refine rR (id := 5) ?_
    refine oG (g_loadF (evv rfl) (by rfl) (by rfl)) rfl rfl ?_
    (refine o_call rfl _ (Ent.refl _) (jfirst_c _ _) rfl ?_; rintro _ _ ⟨rfl, hLz⟩; obtain rfl := hLz.symm; clear hLz)
    refine o_litS rfl (by rfl) inferInstance (by rfl) rfl (fun _ => ?_)
    refine oG (gA (evv rfl)) rfl rfl ?_
    refine oN ?_
    refine cC ?_
    refine rS ?_
    rename_i v4
    have hfe : ∀ x ∈ [a.e], x.ok := fun x hx => by rw [List.mem_singleton.1 hx]; exact hae
    have hl1 : [a.e].length ≤ 1048576 := by simp
    have nb := entsB_len hfe
    rw [List.length_singleton] at nb
    refine rR (id := 6) ?_
    (refine o_call rfl _ (Ent.refl _) (rNum_l _ (by omega)) rfl ?_; rintro _ _ ⟨_, rfl⟩; (try simp only [Int.toNat_natCast]))
    refine oG (gM (evv rfl)) rfl rfl ?_
    (refine o_call rfl _ (Ent.refl _) (rjEntries_c _ _ _ (by assumption) (by first | assumption | omega)) rfl ?_; rintro ev _ ⟨-, rfl⟩)
    refine o_appM (evv rfl) (evv rfl) (by rfl) (by rfl) (by rfl) (by (try simp only [bsOf, List.length_append, List.length_cons, List.length_nil, List.length_take, List.length_drop, List.length_drop, List.length_map, List.length_range]); omega) rfl (fun _ => ?_)
    refine oG (gM (evv rfl)) rfl rfl ?_
    refine oG (g_buildC rfl (by rfl)) rfl rfl ?_
    (refine o_call (vs := [agg (kC 0 0 0 [] _)]) rfl _ (Ent.refl _) (rjCheck_c _ 0 0 0 [] _ _ (by first | assumption | omega) (by simp) (by assumption)) rfl ?_; rintro _ _ ⟨rfl, hLz⟩; obtain rfl := hLz.symm; clear hLz)
    refine oG (gA (evv rfl)) rfl rfl ?_
    refine oG (gA (evv rfl)) rfl rfl ?_
    refine oN ?_
    refine cC ?_
    rename_i v
    first | refine r_ret (rs := [.tmp 2, .tmp 3]) rfl rfl _ ((Lay.ent (L' := sl v (bR (num (Int.toNat 2) ++ entsB [a.e])) :: F))) ?_ | refine c_end (rs := [.tmp 2, .tmp 3]) rfl rfl _ ((Lay.ent (L' := sl v (bR (num (Int.toNat 2) ++ entsB [a.e])) :: F))) ?_
    refine ⟨v, ?_, by rw [h2]; simp [payE, entsB]⟩
    refine congrArg (fun b => Value.tuple #[v, .bool b]) ?_
    rw [decide_eq_decide, ok_ents]
    simp
  · have hP : payJ a = (payA (a.view % 18446744073709551616).toNat (a.from_ % 18446744073709551616).toNat a.es, decide (0 ≤ a.view ∧ 0 ≤ a.from_ ∧ a.es.length ≤ 32 ∧ ∀ e ∈ a.es, ¬ longOp e.op)) := by unfold payJ; rw [hqc, if_neg (by decide), if_neg (by decide)]
    rw [hP]
    refine rR (id := 2) ?_
    refine oG (g_bin (evv rfl) (evv rfl) (by rfl)) rfl rfl ?_
    refine oG (gA (evv rfl)) rfl rfl ?_
    refine oN ?_
    refine cC ?_
    refine r_cond_false rfl ?_
    refine rS ?_
    refine rR (id := 4) ?_
    refine oG (g_bin (evv rfl) (evv rfl) (by rfl)) rfl rfl ?_
    refine oG (gA (evv rfl)) rfl rfl ?_
    refine oN ?_
    refine cC ?_
    refine r_cond_false rfl ?_
    refine r_skip ?_
    refine c_blk ?_
    refine cC ?_
    refine rS ?_
    repeat (first | refine rS ?_ | refine cC ?_ | refine c_blk ?_ | refine r_block ?_ | refine r_skip ?_)
    refine r_held (id := 7) ([blk q ⟨actC a, 37⟩]) Mixed.h ?_
    refine h_give (i := 1) (by kernel_rfl) rfl (g_fld (evv rfl)) rfl rfl ?_
    refine h_give (i := 2) (by kernel_rfl) rfl (g_load (evv rfl) (by rfl) (by rfl)) rfl rfl ?_
    refine h_giveU (i := 3) (by kernel_rfl) rfl (g_conv TyU.h TyU.h (evv rfl)) (by rfl) rfl ?_
    refine h_one (i := 0) (by kernel_rfl) rfl (Lay.ent) ?_
    (refine o_call rfl _ (Ent.refl _) (rNum_l _ (by omega)) rfl ?_; rintro _ _ ⟨_, rfl⟩; (try simp only [Int.toNat_natCast]))
    refine oN ?_
    refine h_one (i := 4) (by kernel_rfl) rfl (Lay.ent) ?_
    (refine o_call rfl _ (Ent.refl _) (rNum_l _ (by omega)) rfl ?_; rintro _ _ ⟨_, rfl⟩; (try simp only [Int.toNat_natCast]))
    refine oN ?_
    refine h_one (i := 5) (by kernel_rfl) rfl (Lay.ent) ?_
    refine o_appM (evv rfl) (evv rfl) (by rfl) (by rfl) (by rfl) (by (try simp only [bsOf, List.length_append, List.length_cons, List.length_nil, List.length_take, List.length_drop, List.length_drop, List.length_map, List.length_range]); omega) rfl (fun _ => ?_)
    refine oN ?_
    refine h_give (i := 6) (by kernel_rfl) rfl (gA (evv rfl)) rfl rfl ?_
    refine h_done (by kernel_rfl) (Lay.ent) ?_
    refine cC ?_
    refine rS ?_
    refine rR (id := 8) ?_
    refine oG (gM (evv rfl)) rfl rfl ?_
    refine oG (g_fld (evv rfl)) rfl rfl ?_
    refine oG (g_load (evv rfl) (by rfl) (by rfl)) rfl rfl ?_
    refine o_giveU (g_conv TyU.h TyU.h (evv rfl)) (by rfl) rfl ?_
    (refine o_call rfl _ (Ent.refl _) (rNum_l _ (by omega)) rfl ?_; rintro _ _ ⟨_, rfl⟩; (try simp only [Int.toNat_natCast]))
    refine o_appM (evv rfl) (evv rfl) (by rfl) (by rfl) (by rfl) (by (try simp only [bsOf, List.length_append, List.length_cons, List.length_nil, List.length_take, List.length_drop, List.length_drop, List.length_map, List.length_range]); omega) rfl (fun _ => ?_)
    refine oG (gA (evv rfl)) rfl rfl ?_
    refine oN ?_
    refine cC ?_
    refine rS ?_
    refine rR (id := 9) ?_
    refine oG (gM (evv rfl)) rfl rfl ?_
    refine oG (g_fld (evv rfl)) rfl rfl ?_
    refine oG (g_fld (evv rfl)) rfl rfl ?_
    refine oG (g_load (evv rfl) (by rfl) (by rfl)) rfl rfl ?_
    refine oG (g_lenF (evv rfl)) rfl rfl ?_
    refine o_giveN (g_conv TyU.h TyU.h (evv rfl)) (by simp only [inR]; omega) rfl ?_
    (refine o_call rfl _ (Ent.refl _) (rNum_l _ (by omega)) rfl ?_; rintro _ _ ⟨_, rfl⟩; (try simp only [Int.toNat_natCast]))
    refine o_appM (evv rfl) (evv rfl) (by rfl) (by rfl) (by rfl) (by (try simp only [bsOf, List.length_append, List.length_cons, List.length_nil, List.length_take, List.length_drop, List.length_drop, List.length_map, List.length_range]); omega) rfl (fun _ => ?_)
    refine oG (gA (evv rfl)) rfl rfl ?_
    refine oN ?_
    refine cC ?_
    refine rS ?_
    by_cases hv : 0 ≤ a.view
    · by_cases hf : 0 ≤ a.from_
      · repeat (first | refine rS ?_ | refine cC ?_ | refine c_blk ?_ | refine r_block ?_ | refine r_skip ?_)
        refine r_held (id := 10) ([blk q ⟨actC a, 37⟩]) Mixed.h ?_
        refine h_give (i := 0) (by kernel_rfl) rfl (gM (evv rfl)) rfl rfl ?_
        refine h_give (i := 1) (by kernel_rfl) rfl (g_fld (evv rfl)) rfl rfl ?_
        refine h_give (i := 2) (by kernel_rfl) rfl (g_fld (evv rfl)) rfl rfl ?_
        refine h_give (i := 3) (by kernel_rfl) rfl (g_load (evv rfl) (by rfl) (by rfl)) rfl rfl ?_
        refine h_give (i := 6) (by kernel_rfl) rfl (g_fld (evv rfl)) rfl rfl ?_
        refine h_give (i := 7) (by kernel_rfl) rfl (g_load (evv rfl) (by rfl) (by rfl)) rfl rfl ?_
        refine h_give (i := 8) (by kernel_rfl) rfl (g_bin (evv rfl) (evv rfl) (by rfl)) rfl rfl ?_
        refine h_one (i := 4) (by kernel_rfl) rfl (Lay.ent) ?_
        (refine o_call rfl _ (Ent.refl _) (rjEntries_c _ _ _ (by assumption) (by first | assumption | omega)) rfl ?_; rintro ev _ ⟨-, rfl⟩)
        refine oN ?_
        refine h_one (i := 5) (by kernel_rfl) rfl (Lay.ent) ?_
        refine o_appM (evv rfl) (evv rfl) (by rfl) (by rfl) (by rfl) (by (try simp only [bsOf, List.length_append, List.length_cons, List.length_nil, List.length_take, List.length_drop, List.length_drop, List.length_map, List.length_range]); omega) rfl (fun _ => ?_)
        refine oN ?_
        refine h_give (i := 9) (by kernel_rfl) rfl (gM (evv rfl)) rfl rfl ?_
        simp only [decide_eq_true hv]
        refine h_sure (i := 10) (by kernel_rfl) rfl rfl (g_fld (evv rfl)) rfl rfl ?_
        refine h_sure (i := 11) (by kernel_rfl) rfl rfl (g_load (evv rfl) (by rfl) (by rfl)) rfl rfl ?_
        refine h_sure (i := 12) (by kernel_rfl) rfl rfl (g_bin (evv rfl) (evv rfl) (by rfl)) rfl rfl ?_
        refine h_give (i := 13) (by kernel_rfl) rfl (g_pick (b := true) (evv rfl) (fun _ => (evv rfl)) (fun h => by cases h)) rfl rfl ?_
        refine h_give (i := 14) (by kernel_rfl) rfl (gM (evv rfl)) rfl rfl ?_
        simp only [decide_eq_true hf]
        refine h_sure (i := 15) (by kernel_rfl) rfl rfl (g_fld (evv rfl)) rfl rfl ?_
        refine h_sure (i := 16) (by kernel_rfl) rfl rfl (g_fld (evv rfl)) rfl rfl ?_
        refine h_sure (i := 17) (by kernel_rfl) rfl rfl (g_load (evv rfl) (by rfl) (by rfl)) rfl rfl ?_
        refine h_one (i := 18) (by kernel_rfl) rfl (Lay.ent) ?_
        refine o_gyes rfl ?_
        refine oG (g_buildC rfl (by rfl)) rfl rfl ?_
        refine oN ?_
        refine h_one (i := 19) (by kernel_rfl) rfl (Lay.ent) ?_
        refine o_gyes rfl ?_
        (refine o_call (vs := [agg (kC 0 0 0 [] _)]) rfl _ (Ent.refl _) (rjCheck_c _ 0 0 0 [] _ _ (by first | assumption | omega) (by simp) (by assumption)) rfl ?_; rintro _ _ ⟨rfl, hLz⟩; obtain rfl := hLz.symm; clear hLz)
        refine oN ?_
        refine h_give (i := 20) (by kernel_rfl) rfl (g_pick (b := true) (evv rfl) (fun _ => (evv rfl)) (fun h => by cases h)) rfl rfl ?_
        refine h_give (i := 21) (by kernel_rfl) rfl (gA (evv rfl)) rfl rfl ?_
        refine h_give (i := 22) (by kernel_rfl) rfl (gA (evv rfl)) rfl rfl ?_
        refine h_done (by kernel_rfl) (Lay.ent) ?_
        refine cC ?_
        rename_i v
        rw [h3]
        first | refine r_ret (rs := [.tmp 2, .tmp 3]) rfl rfl _ ((Lay.ent (L' := sl v (bR (num 3 ++ num (a.view % 18446744073709551616).toNat ++ num (a.from_ % 18446744073709551616).toNat ++ num a.es.length ++ entsB a.es)) :: F))) ?_ | refine c_end (rs := [.tmp 2, .tmp 3]) rfl rfl _ ((Lay.ent (L' := sl v (bR (num 3 ++ num (a.view % 18446744073709551616).toNat ++ num (a.from_ % 18446744073709551616).toNat ++ num a.es.length ++ entsB a.es)) :: F))) ?_
        refine ⟨v, ?_, rfl⟩
        refine congrArg (fun b => Value.tuple #[v, .bool b]) ?_
        rw [decide_eq_decide, ok_ents]; exact ⟨fun h => ⟨hv, hf, h⟩, fun h => h.2.2⟩
      · repeat (first | refine rS ?_ | refine cC ?_ | refine c_blk ?_ | refine r_block ?_ | refine r_skip ?_)
        refine r_held (id := 10) ([blk q ⟨actC a, 37⟩]) Mixed.h ?_
        refine h_give (i := 0) (by kernel_rfl) rfl (gM (evv rfl)) rfl rfl ?_
        refine h_give (i := 1) (by kernel_rfl) rfl (g_fld (evv rfl)) rfl rfl ?_
        refine h_give (i := 2) (by kernel_rfl) rfl (g_fld (evv rfl)) rfl rfl ?_
        refine h_give (i := 3) (by kernel_rfl) rfl (g_load (evv rfl) (by rfl) (by rfl)) rfl rfl ?_
        refine h_give (i := 6) (by kernel_rfl) rfl (g_fld (evv rfl)) rfl rfl ?_
        refine h_give (i := 7) (by kernel_rfl) rfl (g_load (evv rfl) (by rfl) (by rfl)) rfl rfl ?_
        refine h_give (i := 8) (by kernel_rfl) rfl (g_bin (evv rfl) (evv rfl) (by rfl)) rfl rfl ?_
        refine h_one (i := 4) (by kernel_rfl) rfl (Lay.ent) ?_
        (refine o_call rfl _ (Ent.refl _) (rjEntries_c _ _ _ (by assumption) (by first | assumption | omega)) rfl ?_; rintro ev _ ⟨-, rfl⟩)
        refine oN ?_
        refine h_one (i := 5) (by kernel_rfl) rfl (Lay.ent) ?_
        refine o_appM (evv rfl) (evv rfl) (by rfl) (by rfl) (by rfl) (by (try simp only [bsOf, List.length_append, List.length_cons, List.length_nil, List.length_take, List.length_drop, List.length_drop, List.length_map, List.length_range]); omega) rfl (fun _ => ?_)
        refine oN ?_
        refine h_give (i := 9) (by kernel_rfl) rfl (gM (evv rfl)) rfl rfl ?_
        simp only [decide_eq_true hv]
        refine h_sure (i := 10) (by kernel_rfl) rfl rfl (g_fld (evv rfl)) rfl rfl ?_
        refine h_sure (i := 11) (by kernel_rfl) rfl rfl (g_load (evv rfl) (by rfl) (by rfl)) rfl rfl ?_
        refine h_sure (i := 12) (by kernel_rfl) rfl rfl (g_bin (evv rfl) (evv rfl) (by rfl)) rfl rfl ?_
        refine h_give (i := 13) (by kernel_rfl) rfl (g_pick (b := true) (evv rfl) (fun _ => (evv rfl)) (fun h => by cases h)) rfl rfl ?_
        refine h_give (i := 14) (by kernel_rfl) rfl (gM (evv rfl)) rfl rfl ?_
        simp only [decide_eq_false hf]
        refine h_lazy (i := 15) (by kernel_rfl) rfl rfl (fun hg => g_fld (evv rfl)) rfl rfl ?_
        refine h_lazy (i := 16) (by kernel_rfl) rfl rfl (fun hg => g_fld (evg rfl hg)) rfl rfl ?_
        refine h_lazy (i := 17) (by kernel_rfl) rfl rfl (fun hg => g_load (evg rfl hg) (by rfl) (by rfl)) rfl rfl ?_
        refine h_lazy (i := 18) (by kernel_rfl) rfl (v0 := undef) rfl (fun hg => absurd hg (by first | (simp; done) | fail)) rfl rfl ?_
        refine h_one (i := 19) (by kernel_rfl) rfl (Lay.ent) ?_
        refine o_lazy (v0 := undef) rfl (fun hg => absurd hg (by first | (simp; done) | fail)) rfl rfl ?_
        refine oN ?_
        refine h_give (i := 20) (by kernel_rfl) rfl (g_pick (b := false) (evv rfl) (fun h => by cases h) (fun _ => (evv rfl))) rfl rfl ?_
        refine h_give (i := 21) (by kernel_rfl) rfl (gA (evv rfl)) rfl rfl ?_
        refine h_give (i := 22) (by kernel_rfl) rfl (gA (evv rfl)) rfl rfl ?_
        refine h_done (by kernel_rfl) (Lay.ent) ?_
        refine cC ?_
        rename_i v
        rw [h3]
        first | refine r_ret (rs := [.tmp 2, .tmp 3]) rfl rfl _ ((Lay.ent (L' := sl v (bR (num 3 ++ num (a.view % 18446744073709551616).toNat ++ num (a.from_ % 18446744073709551616).toNat ++ num a.es.length ++ entsB a.es)) :: F))) ?_ | refine c_end (rs := [.tmp 2, .tmp 3]) rfl rfl _ ((Lay.ent (L' := sl v (bR (num 3 ++ num (a.view % 18446744073709551616).toNat ++ num (a.from_ % 18446744073709551616).toNat ++ num a.es.length ++ entsB a.es)) :: F))) ?_
        refine ⟨v, ?_, rfl⟩
        refine congrArg (fun b => Value.tuple #[v, .bool b]) ?_
        exact (decide_eq_false (fun h => hf h.2.1)).symm
    · repeat (first | refine rS ?_ | refine cC ?_ | refine c_blk ?_ | refine r_block ?_ | refine r_skip ?_)
      refine r_held (id := 10) ([blk q ⟨actC a, 37⟩]) Mixed.h ?_
      refine h_give (i := 0) (by kernel_rfl) rfl (gM (evv rfl)) rfl rfl ?_
      refine h_give (i := 1) (by kernel_rfl) rfl (g_fld (evv rfl)) rfl rfl ?_
      refine h_give (i := 2) (by kernel_rfl) rfl (g_fld (evv rfl)) rfl rfl ?_
      refine h_give (i := 3) (by kernel_rfl) rfl (g_load (evv rfl) (by rfl) (by rfl)) rfl rfl ?_
      refine h_give (i := 6) (by kernel_rfl) rfl (g_fld (evv rfl)) rfl rfl ?_
      refine h_give (i := 7) (by kernel_rfl) rfl (g_load (evv rfl) (by rfl) (by rfl)) rfl rfl ?_
      refine h_give (i := 8) (by kernel_rfl) rfl (g_bin (evv rfl) (evv rfl) (by rfl)) rfl rfl ?_
      refine h_one (i := 4) (by kernel_rfl) rfl (Lay.ent) ?_
      (refine o_call rfl _ (Ent.refl _) (rjEntries_c _ _ _ (by assumption) (by first | assumption | omega)) rfl ?_; rintro ev _ ⟨-, rfl⟩)
      refine oN ?_
      refine h_one (i := 5) (by kernel_rfl) rfl (Lay.ent) ?_
      refine o_appM (evv rfl) (evv rfl) (by rfl) (by rfl) (by rfl) (by (try simp only [bsOf, List.length_append, List.length_cons, List.length_nil, List.length_take, List.length_drop, List.length_drop, List.length_map, List.length_range]); omega) rfl (fun _ => ?_)
      refine oN ?_
      refine h_give (i := 9) (by kernel_rfl) rfl (gM (evv rfl)) rfl rfl ?_
      simp only [decide_eq_false hv]
      refine h_lazy (i := 10) (by kernel_rfl) rfl rfl (fun hg => g_fld (evv rfl)) rfl rfl ?_
      refine h_lazy (i := 11) (by kernel_rfl) rfl rfl (fun hg => g_load (evg rfl hg) (by rfl) (by rfl)) rfl rfl ?_
      refine h_lazy (i := 12) (by kernel_rfl) rfl rfl (fun hg => g_bin (by first | exact evv rfl | exact evg rfl (by rw [hp]; rfl) | exact evg rfl hp | exact evg rfl hg | exact evg rfl (by first | (simp_all; done) | (simp [*]; done) | fail) | fail) (by first | exact evv rfl | exact evg rfl (by rw [hp]; rfl) | exact evg rfl hp | exact evg rfl hg | exact evg rfl (by first | (simp_all; done) | (simp [*]; done) | fail) | fail) (by rfl)) rfl rfl ?_
      refine h_give (i := 13) (by kernel_rfl) rfl (g_pick (b := false) (evv rfl) (fun h => by cases h) (fun _ => (evv rfl))) rfl rfl ?_
      refine h_give (i := 14) (by kernel_rfl) rfl (gM (evv rfl)) rfl rfl ?_
      try simp only [decide_eq_false hv]
      refine h_lazy (i := 15) (by kernel_rfl) rfl rfl (fun hg => g_fld (evv rfl)) rfl rfl ?_
      refine h_lazy (i := 16) (by kernel_rfl) rfl rfl (fun hg => g_fld (evg rfl hg)) rfl rfl ?_
      refine h_lazy (i := 17) (by kernel_rfl) rfl rfl (fun hg => g_load (evg rfl hg) (by rfl) (by rfl)) rfl rfl ?_
      refine h_lazy (i := 18) (by kernel_rfl) rfl (v0 := undef) rfl (fun hg => absurd hg (by first | (simp; done) | fail)) rfl rfl ?_
      refine h_one (i := 19) (by kernel_rfl) rfl (Lay.ent) ?_
      refine o_lazy (v0 := undef) rfl (fun hg => absurd hg (by first | (simp; done) | fail)) rfl rfl ?_
      refine oN ?_
      refine h_give (i := 20) (by kernel_rfl) rfl (g_pick (b := false) (evv rfl) (fun h => by cases h) (fun _ => (evv rfl))) rfl rfl ?_
      refine h_give (i := 21) (by kernel_rfl) rfl (gA (evv rfl)) rfl rfl ?_
      refine h_give (i := 22) (by kernel_rfl) rfl (gA (evv rfl)) rfl rfl ?_
      refine h_done (by kernel_rfl) (Lay.ent) ?_
      refine cC ?_
      rename_i v
      rw [h3]
      first | refine r_ret (rs := [.tmp 2, .tmp 3]) rfl rfl _ ((Lay.ent (L' := sl v (bR (num 3 ++ num (a.view % 18446744073709551616).toNat ++ num (a.from_ % 18446744073709551616).toNat ++ num a.es.length ++ entsB a.es)) :: F))) ?_ | refine c_end (rs := [.tmp 2, .tmp 3]) rfl rfl _ ((Lay.ent (L' := sl v (bR (num 3 ++ num (a.view % 18446744073709551616).toNat ++ num (a.from_ % 18446744073709551616).toNat ++ num a.es.length ++ entsB a.es)) :: F))) ?_
      refine ⟨v, ?_, rfl⟩
      refine congrArg (fun b => Value.tuple #[v, .bool b]) ?_
      exact (decide_eq_false (fun h => hv h.1)).symm
end VK

namespace VK
open Go Go.Proofs
set_option linter.unusedSimpArgs false
set_option linter.unusedVariables false
set_option maxRecDepth 100000
set_option maxHeartbeats 40000000
theorem doJ_pay {x : Pt} {k : KeptS} {a : ActJ} (hk : k.ok) (ha : a.ok) (hq : a.q ≤ 2) : doJ x k a = if (payJ a).2 = true then writeT x k (payJ a).1 else (1, x, k) := by
  have hgr : gr = 1099511627776 := rfl
  have hv := ha.v
  have hf := ha.f
  simp only [inR] at hv hf
  have hq0 : 0 ≤ a.q := by unfold ActJ.q; omega
  rcases (by omega : a.q = 0 ∨ a.q = 1 ∨ a.q = 2) with h | h | h
  · have e1 : doJ x k a = viewT x k a.view := by unfold doJ; rw [if_pos h]
    have e2 : payJ a = (payV (a.view % 18446744073709551616).toNat, decide (0 ≤ a.view)) := by unfold payJ; rw [if_pos h]
    rw [e1, e2]
    dsimp only
    by_cases h0 : 0 ≤ a.view
    · rw [if_pos (decide_eq_true h0)]; rfl
    · rw [if_neg (by simpa using h0)]
      exact writeT_none (by rw [foldK_V hk (by omega), if_pos (.inl (by omega))])
  · have e1 : doJ x k a = entT x k a.e := by unfold doJ; rw [if_neg (by omega), if_pos h]
    have e2 : payJ a = (payE a.e, decide (¬ longOp a.e.op)) := by unfold payJ; rw [if_neg (by omega), if_pos h]
    rw [e1, e2]
    dsimp only
    unfold entT
    by_cases hl : longOp a.e.op
    · rw [if_pos hl, if_neg (by simpa using hl)]
    · rw [if_neg hl, if_pos (by simpa using hl)]
  · have e1 : doJ x k a = adoT x k a.view a.from_ a.es := by unfold doJ; rw [if_neg (by omega), if_neg (by omega), if_pos h]
    have e2 : payJ a = (payA (a.view % 18446744073709551616).toNat (a.from_ % 18446744073709551616).toNat a.es, decide (0 ≤ a.view ∧ 0 ≤ a.from_ ∧ a.es.length ≤ 32 ∧ ∀ e ∈ a.es, ¬ longOp e.op)) := by unfold payJ; rw [if_neg (by omega), if_neg (by omega)]
    rw [e1, e2]
    dsimp only
    unfold adoT
    by_cases hc : 0 ≤ a.view ∧ 0 ≤ a.from_ ∧ a.es.length ≤ 32 ∧ ∀ e ∈ a.es, ¬ longOp e.op
    · rw [if_pos hc, if_pos (decide_eq_true hc), Int.emod_eq_of_lt hc.1 (by omega), Int.emod_eq_of_lt hc.2.1 (by omega)]
    · rw [if_neg hc, if_neg (fun h => hc (of_decide_eq_true h))]
theorem payJ_len {a : ActJ} (ha : a.ok) (hp : (payJ a).2 = true) : (payJ a).1.length ≤ 262144 := by
  have hv := ha.v
  have hf := ha.f
  simp only [inR] at hv hf
  unfold payJ at hp ⊢
  split
  · have := payV_len (v := (a.view % 18446744073709551616).toNat) (by omega)
    dsimp only; omega
  · rename_i h0
    rw [if_neg h0] at hp
    split
    · have := payE_len ha.e
      dsimp only; omega
    · rename_i h1
      rw [if_neg h1] at hp
      have hc := of_decide_eq_true hp
      have := payA_len (v := (a.view % 18446744073709551616).toNat) (f := (a.from_ % 18446744073709551616).toNat) (by omega) (by omega) ha.es hc.2.2.1
      dsimp only; omega
theorem rjWant_c (F : List Atom) (j r : Nat) (x : Pt) (k : KeptS) (ve : Value) (a : ActJ) [rv : Rd F ve (entR k.ents)] [rd : RdA F a] (hx : x.ok) (hk : k.ok) (hf : k.fine) (ha : a.ok) (hs : sizeP x + 262152 ≤ 1000000000) :
    Fn Try.prog 27 [.pointer (some ⟨j, 0, none⟩), agg (actC a)] (rjo j r k ve :: rpo r x :: F) fun w L' => ∃ ve' l2, w = .int .i64 (doJ x k a).1 ∧ L' = rjo j r (doJ x k a).2.2 ve' :: rpo r (doJ x k a).2.1 :: rom l2 :: F ∧ (LieE ve k.ents l2 ve' (doJ x k a).2.2.ents ∨ (ve' = a.ve ∧ (doJ x k a).2.2.ents = a.es)) := by
  have re := rd.e
  have rk := rd.k
  have has := ha.es
  have hn := ha.n
  have hst := ha.st
  have hk5 : a.kind % 18446744073709551616 % 6 = a.q := rfl
  have hq0 : 0 ≤ a.q ∧ a.q < 6 := by unfold ActJ.q; omega
  refine fn_intro Try.func27 rfl Try.ntmps27 rfl (fun W0 => ?_)
  simp only [argE]
  refine rS ?_
  refine rR (id := 0) ?_
  refine o_boxA (evv rfl) rfl (fun _ => ?_)
  refine oG (gA (evv rfl)) rfl rfl ?_
  refine oN ?_
  refine cC ?_
  refine rS ?_
  refine rR (id := 1) ?_
  refine oG (g_fld (evv rfl)) rfl rfl ?_
  refine oG (g_load (evv rfl) (by rfl) (by rfl)) rfl rfl ?_
  refine o_giveU (g_conv TyU.h TyU.h (evv rfl)) (by rfl) rfl ?_
  refine oG (g_remP (evv rfl) (evv rfl) (by omega) (by omega)) rfl rfl ?_
  refine oG (gA (evv rfl)) rfl rfl ?_
  refine oN ?_
  refine cC ?_
  refine rS ?_
  refine rS ?_
  refine rR (id := 2) ?_
  refine oG (gM (evv rfl)) rfl rfl ?_
  refine oG (g_bin (evv rfl) (evv rfl) (by rfl)) rfl rfl ?_
  refine oN ?_
  refine cC ?_
  rw [hk5]
  rename_i q
  refine r_cond rfl (fun h3 => ?_) (fun h3 => ?_) <;> (try simp only [decide_eq_true_eq, decide_eq_false_iff_not, Bool.and_eq_true, Bool.or_eq_true, Bool.not_eq_true', Bool.and_eq_false_iff, Bool.or_eq_false_iff, Bool.not_eq_false', Bool.not_eq_true, Bool.not_eq_false, Bool.true_eq_false, Bool.false_eq_true, Int.not_lt, Int.not_le, not_and, not_or, ne_eq] at h3)
  · have hD : doJ x k a = layT x k a.k := by unfold doJ; rw [if_neg (by omega), if_neg (by omega), if_neg (by omega), if_pos h3]
    rw [hD]
    refine rS ?_
    refine rR (id := 3) ?_
    refine oG (gM (evv rfl)) rfl rfl ?_
    refine oG (g_fld (evv rfl)) rfl rfl ?_
    refine oG (g_loadF (evv rfl) (by rfl) (by rfl)) rfl rfl ?_
    refine o_call (vs := [.pointer (some ⟨j, 0, none⟩), agg (kC a.k.view a.k.normal a.k.base a.k.state a.ve)]) rfl _ (Lay.ent (L' := rjo j r k ve :: rpo r x :: F)) (rjLay_c F j r x k a.k ve a.ve hx has hn hst hs) rfl ?_
    rintro _ _ ⟨rfl, rfl⟩
    refine oG (gA (evv rfl)) rfl rfl ?_
    refine oN ?_
    refine cC ?_
    skip
    first | refine r_ret (rs := [.tmp 4]) rfl rfl _ (((Lay.ent (L' := rjo j r (layT x k a.k).2.2 (if (layT x k a.k).1 = 0 then a.ve else ve) :: rpo r (layT x k a.k).2.1 :: F)).trans (Ent.cons (Ent.cons Ent.romNil)))) ?_ | refine c_end (rs := [.tmp 4]) rfl rfl _ (((Lay.ent (L' := rjo j r (layT x k a.k).2.2 (if (layT x k a.k).1 = 0 then a.ve else ve) :: rpo r (layT x k a.k).2.1 :: F)).trans (Ent.cons (Ent.cons Ent.romNil)))) ?_
    refine ⟨_, _, rfl, rfl, ?_⟩
    have hK : (layT x k a.k).1 = 0 → (layT x k a.k).2.2 = a.k := fun h => by
      unfold layT at h ⊢
      split
      · rename_i h2; rw [if_pos h2] at h; exact absurd h (show ¬ (1 : Int) = 0 by decide)
      · rename_i h2; rw [if_neg h2] at h; exact if_pos h
    have hK2 : ¬ (layT x k a.k).1 = 0 → (layT x k a.k).2.2 = k := fun h => by
      unfold layT at h ⊢
      split
      · rfl
      · rename_i h2; rw [if_neg h2] at h; exact if_neg h
    by_cases h0 : (layT x k a.k).1 = 0
    · rw [if_pos h0, hK h0]
      exact .inr ⟨rfl, rfl⟩
    · rw [if_neg h0, hK2 h0]
      exact .inl (.inl ⟨rfl, rfl⟩)
  · refine r_skip ?_
    refine cC ?_
    refine rS ?_
    refine rS ?_
    refine rR (id := 4) ?_
    refine oG (gM (evv rfl)) rfl rfl ?_
    refine oG (g_bin (evv rfl) (evv rfl) (by rfl)) rfl rfl ?_
    refine oN ?_
    refine cC ?_
    refine r_cond rfl (fun h4 => ?_) (fun h4 => ?_) <;> (try simp only [decide_eq_true_eq, decide_eq_false_iff_not, Bool.and_eq_true, Bool.or_eq_true, Bool.not_eq_true', Bool.and_eq_false_iff, Bool.or_eq_false_iff, Bool.not_eq_false', Bool.not_eq_true, Bool.not_eq_false, Bool.true_eq_false, Bool.false_eq_true, Int.not_lt, Int.not_le, not_and, not_or, ne_eq] at h4)
    · have hD : doJ x k a = (0, x, k) := by unfold doJ; rw [if_neg (by omega), if_neg (by omega), if_neg (by omega), if_neg (by omega)]
      rw [hD]
      refine rS ?_
      refine rR (id := 5) ?_
      refine oG (gA (evv rfl)) rfl rfl ?_
      refine oN ?_
      refine cC ?_
      first | refine r_ret (rs := [.tmp 4]) rfl rfl _ (((Lay.ent (L' := rjo j r k ve :: rpo r x :: F)).trans (Ent.cons (Ent.cons Ent.romNil)))) ?_ | refine c_end (rs := [.tmp 4]) rfl rfl _ (((Lay.ent (L' := rjo j r k ve :: rpo r x :: F)).trans (Ent.cons (Ent.cons Ent.romNil)))) ?_
      exact ⟨ve, [], rfl, rfl, .inl (.inl ⟨rfl, rfl⟩)⟩
    · have hq2 : a.q ≤ 2 := by omega
      have hP := doJ_pay (x := x) hk ha hq2
      have hL := payJ_len ha
      rw [hP]
      refine r_skip ?_
      refine cC ?_
      refine rS ?_
      refine rR (id := 6) ?_
      refine oG (g_loadF (evv rfl) (by rfl) (by rfl)) rfl rfl ?_
      (refine o_call rfl _ (Ent.refl _) (rjPay_c _ a (by assumption) (by assumption)) rfl ?_; rintro _ _ ⟨pv, rfl, rfl⟩)
      refine oG (gM (evv rfl)) rfl rfl ?_
      refine oG (g_extract (evv rfl) (by rfl)) rfl rfl ?_
      refine oG (g_extract (evv rfl) (by rfl)) rfl rfl ?_
      refine oG (gA (evv rfl)) rfl rfl ?_
      refine oG (gA (evv rfl)) rfl rfl ?_
      refine oN ?_
      refine cC ?_
      refine rS ?_
      refine rS ?_
      refine rR (id := 7) ?_
      refine oG (gM (evv rfl)) rfl rfl ?_
      refine oG (g_not (evv rfl)) rfl rfl ?_
      refine oN ?_
      refine cC ?_
      by_cases hp : (payJ a).2 = true
      · have hL2 := hL hp
        rw [if_pos hp]
        simp only [hp]
        refine r_cond_false rfl ?_
        refine r_skip ?_
        refine cC ?_
        refine rS ?_
        refine rR (id := 9) ?_
        refine oG (gM (evv rfl)) rfl rfl ?_
        refine oG (gM (evv rfl)) rfl rfl ?_
        refine o_call (vs := [.pointer (some ⟨j, 0, none⟩), pv]) rfl _ (Lay.ent (L' := rjo j r k ve :: rpo r x :: sl pv (bR (payJ a).1) :: F)) (rjWrite_c (sl pv (bR (payJ a).1) :: F) j r x k ve pv (payJ a).1 hx hk hf hL2 hs) rfl ?_
        rintro _ _ ⟨ve', l2, rfl, rfl, hl⟩
        refine oG (gA (evv rfl)) rfl rfl ?_
        refine oN ?_
        refine cC ?_
        skip
        first | refine r_ret (rs := [.tmp 4]) rfl rfl _ ((Lay.ent (L' := rjo j r (writeT x k (payJ a).1).2.2 ve' :: rpo r (writeT x k (payJ a).1).2.1 :: rom l2 :: F))) ?_ | refine c_end (rs := [.tmp 4]) rfl rfl _ ((Lay.ent (L' := rjo j r (writeT x k (payJ a).1).2.2 ve' :: rpo r (writeT x k (payJ a).1).2.1 :: rom l2 :: F))) ?_
        exact ⟨ve', l2, rfl, rfl, .inl hl⟩
      · rw [if_neg hp]
        simp only [Bool.eq_false_iff.2 hp]
        refine r_cond_true rfl ?_
        refine rS ?_
        refine rR (id := 8) ?_
        refine oG (gA (evv rfl)) rfl rfl ?_
        refine oN ?_
        refine cC ?_
        first | refine r_ret (rs := [.tmp 4]) rfl rfl _ (((Lay.ent (L' := rjo j r k ve :: rpo r x :: F)).trans (Ent.cons (Ent.cons Ent.romNil)))) ?_ | refine c_end (rs := [.tmp 4]) rfl rfl _ (((Lay.ent (L' := rjo j r k ve :: rpo r x :: F)).trans (Ent.cons (Ent.cons Ent.romNil)))) ?_
        exact ⟨ve, [], rfl, rfl, .inl (.inl ⟨rfl, rfl⟩)⟩
end VK

namespace VK
open Go Go.Proofs
set_option linter.unusedSimpArgs false
set_option linter.unusedVariables false
set_option maxRecDepth 100000
set_option maxHeartbeats 40000000
theorem wr_up {x : Pt} {k k' : KeptS} {p : List UInt8} (h : InvJ x k) (ha : x.armed = 0) (hv : x.live = 0) (hf : foldK k p = some k') (hl : p.length ≤ 180000) (hs : sizeP x + p.length + 8 ≤ 1000000000) :
    ∃ y, writeT x k p = (0, y, k') ∧ InvJ y k' ∧ y.armed = 0 ∧ y.live = 0 ∧ y.b0 = x.b0 ++ frameB p ∧ sizeP y ≤ sizeP x + p.length + 8 := by
  have h2 := (writeT_ok h.ok (k := k) (p := p) hs).2
  rcases write_up h hf (by omega) hs with ⟨e1, e2, e3, e4, e5, e6⟩ | ⟨_, _, _, h4⟩
  · rcases hw : writeT x k p with ⟨c, y, kk⟩
    rw [hw] at e1 e2 e3 e4 e5 e6 h2
    dsimp only at e1 e2 e3 e4 e5 e6 h2
    subst e1 e2
    rw [hv] at e4 e5
    exact ⟨y, rfl, e3, by omega, e4, e5, h2⟩
  · exact absurd ha h4
def ent0 : EntS := ⟨1, 1, ⟨1, [47, 97], [], [], 0, 0⟩⟩
theorem ent0_fit : ent0.ok ∧ ¬ longOp ent0.op := by
  refine ⟨⟨⟨by decide, by decide⟩, ⟨by decide, by decide⟩, ⟨⟨by decide, by decide⟩, by decide, by decide, by decide, ⟨by decide, by decide⟩, ⟨by decide, by decide⟩⟩⟩, by decide⟩
structure Awk (x1 x2 x3 : Pt) : Prop where
  v : viewT zeroPt zeroK 3 = (0, x1, ⟨3, 0, 0, [], []⟩)
  e : entT x1 ⟨3, 0, 0, [], []⟩ ent0 = (0, x2, ⟨3, 0, 0, [], [ent0]⟩)
  a : adoT x2 ⟨3, 0, 0, [], [ent0]⟩ 3 0 [] = (0, x3, ⟨3, 3, 0, [], []⟩)
  b : adoT x3 ⟨3, 3, 0, [], []⟩ 3 1 [] = (1, x3, ⟨3, 3, 0, [], []⟩)
  i1 : InvJ x1 ⟨3, 0, 0, [], []⟩
  i2 : InvJ x2 ⟨3, 0, 0, [], [ent0]⟩
  i3 : InvJ x3 ⟨3, 3, 0, [], []⟩
  n1 : sizeP x1 ≤ 200000
  n2 : sizeP x2 ≤ 400000
  n3 : sizeP x3 ≤ 600000
  l : 20 < (rdT x3 0).length
theorem awk_is : ∃ x1 x2 x3, Awk x1 x2 x3 := by
  have hz : sizeP zeroPt = 0 := rfl
  have lv := payV_len (v := 3) (by omega)
  have le := payE_len ent0_fit.1
  have la := payA_len (v := 3) (f := 0) (es := []) (by omega) (by omega) (by simp) (by simp)
  obtain ⟨x1, w1, i1, a1, l1, b1, s1⟩ := wr_up (k' := ⟨3, 0, 0, [], []⟩) inv_zero rfl rfl (p := payV 3) (by rw [foldK_V zeroK_ok (by omega), if_neg (by decide)]; rfl) lv (by omega)
  obtain ⟨x2, w2, i2, a2, l2, b2, s2⟩ := wr_up (k' := ⟨3, 0, 0, [], [ent0]⟩) i1 a1 l1 (p := payE ent0) (by rw [foldK_E ent0_fit.1 ent0_fit.2, if_pos (by decide)]; rfl) le (by omega)
  obtain ⟨x3, w3, i3, a3, l3, b3, s3⟩ := wr_up (k' := ⟨3, 3, 0, [], []⟩) i2 a2 l2 (p := payA 3 0 []) (by rw [foldK_A (by simp) (by simp) (by omega) (by omega), if_neg (by decide)]; rfl) la (by omega)
  refine ⟨x1, x2, x3, w1, ?_, ?_, ?_, i1, i2, i3, by omega, by omega, by omega, ?_⟩
  · unfold entT; rw [if_neg ent0_fit.2]; exact w2
  · unfold adoT; rw [if_pos ⟨by decide, by decide, by decide, by simp⟩]; exact w3
  · unfold adoT; rw [if_pos ⟨by decide, by decide, by decide, by simp⟩]
    exact writeT_none (by rw [show Int.toNat 3 = 3 from rfl, show Int.toNat 1 = 1 from rfl, foldK_A (by simp) (by simp) (by omega) (by omega), if_pos (.inl (by decide))])
  · show 20 < x3.b0.length
    rw [b3, b2, b1]
    simp only [List.length_append, frame_len]
    omega
end VK

namespace VK
open Go Go.Proofs
set_option linter.unusedSimpArgs false
set_option linter.unusedVariables false
set_option maxRecDepth 100000
set_option maxHeartbeats 40000000
theorem jawake_c (F : List Atom) : Fn Try.prog 8 [] F fun w L' => w = .bool true ∧ L' = F := by
  obtain ⟨x1, x2, x3, A⟩ := awk_is
  obtain ⟨hv, he, ha, hb, i1, i2, i3, n1, n2, n3, hl⟩ := A
  have n0 : sizeP zeroPt = 0 := rfl
  have hz := open_inv inv_zero
  have k0 : zeroPt.ok := inv_zero.ok
  have k1 : x1.ok := i1.ok
  have k2 : x2.ok := i2.ok
  have k3 : x3.ok := i3.ok
  obtain ⟨c0, f0⟩ := inv_zero.k
  obtain ⟨c1, f1⟩ := i1.k
  obtain ⟨c2, f2⟩ := i2.k
  obtain ⟨c3, f3⟩ := i3.k
  have he0 := ent0_fit.1
  have hnil : ∀ e ∈ ([] : List EntS), e.ok := by simp
  haveI rn : ∀ L, Rd L (.slice none 0 0) (entR []) := fun L => Rd.nilF entC 8 50
  have r3 : inR .i64 3 := ⟨by decide, by decide⟩
  have r0 : inR .i64 0 := ⟨by decide, by decide⟩
  have r1 : inR .i64 1 := ⟨by decide, by decide⟩
  refine fn_intro Try.func8 rfl Try.ntmps8 rfl (fun W0 => ?_)
  simp only [argE]
  refine rS ?_
  refine rR (id := 0) ?_
  refine oG (gA (evv rfl)) rfl rfl ?_
  refine oN ?_
  refine cC ?_
  refine rS ?_
  refine rR (id := 1) ?_
  (refine o_call rfl _ (Ent.refl _) (New_c _) rfl ?_; rintro _ _ ⟨np, rfl, rfl⟩)
  refine oG (gA (evv rfl)) rfl rfl ?_
  refine oN ?_
  refine cC ?_
  refine rS ?_
  refine rR (id := 2) ?_
  refine oG (gM (evv rfl)) rfl rfl ?_
  (refine o_call rfl _ (PickR.ent (K := pt _)) (Open_ok _ _ _ _ _ (by assumption) (by first | assumption | omega) (by assumption)) rfl ?_; rintro _ _ ⟨oj, ov, rfl, rfl⟩; dsimp only [openV])
  refine oG (gM (evv rfl)) rfl rfl ?_
  refine oG (g_extract (evv rfl) (by rfl)) rfl rfl ?_
  refine oG (g_extract (evv rfl) (by rfl)) rfl rfl ?_
  refine oG (g_extract (evv rfl) (by rfl)) rfl rfl ?_
  refine o_alloc rfl rfl (fun _ => ?_)
  refine oG (gA (evv rfl)) rfl rfl ?_
  refine o_storeW (evv rfl) (evv rfl) (by first | rfl | assumption | exact LenC.h _ | (simp [bys, *]; done) | fail) (by first | (intro _ _ _; exact bys_one _) | exact AllOne.h | (intro _ _ _ u hu; simp at hu; rcases hu with rfl | rfl | rfl | rfl | rfl | rfl | rfl | rfl <;> rfl) | fail) (by first | rfl | exact (LenC.h _).trans rfl | exact (LenC.h _).trans (LenC.h _).symm | (simp [bys, *]; done) | (simp only [bys, List.length_map, *]; rfl) | fail) ?_
  refine oG (gA (evv rfl)) rfl rfl ?_
  refine oN ?_
  refine cC ?_
  refine rS ?_
  refine rS ?_
  refine rR (id := 3) ?_
  refine oG (gM (evv rfl)) rfl rfl ?_
  refine oG (g_bin (evv rfl) (evv rfl) (by rfl)) rfl rfl ?_
  refine oG (gM (evv rfl)) rfl rfl ?_
  refine o_gyes rfl ?_
  refine oG (gM (evv rfl)) rfl rfl ?_
  refine o_gyes rfl ?_
  refine oG (g_pnil TyU.h (evv rfl) (evv rfl) (by simp) (by rfl)) rfl rfl ?_
  refine oG (g_pick (b := false) (evv rfl) (fun h => by cases h) (fun _ => (evv rfl))) rfl rfl ?_
  refine oG (gM (evv rfl)) rfl rfl ?_
  refine o_gyes rfl ?_
  refine oG (g_fld (evv rfl)) rfl rfl ?_
  refine o_gyes rfl ?_
  refine oG (g_load (evv rfl) (by rfl) (by rfl)) rfl rfl ?_
  refine o_gyes rfl ?_
  refine oG (g_bin (evv rfl) (evv rfl) (by rfl)) rfl rfl ?_
  refine oG (g_pick (b := false) (evv rfl) (fun h => by cases h) (fun _ => (evv rfl))) rfl rfl ?_
  refine oG (gM (evv rfl)) rfl rfl ?_
  refine o_gyes rfl ?_
  refine oG (g_fld (evv rfl)) rfl rfl ?_
  refine o_gyes rfl ?_
  refine oG (g_load (evv rfl) (by rfl) (by rfl)) rfl rfl ?_
  refine o_gyes rfl ?_
  refine oG (g_lenF (evv rfl)) rfl rfl ?_
  refine o_gyes rfl ?_
  refine oG (g_bin (evv rfl) (evv rfl) (by rfl)) rfl rfl ?_
  refine oG (g_pick (b := false) (evv rfl) (fun h => by cases h) (fun _ => (evv rfl))) rfl rfl ?_
  refine oN ?_
  refine cC ?_
  refine r_cond_false rfl ?_
  refine r_skip ?_
  refine cC ?_
  refine rS ?_
  refine rR (id := 5) ?_
  refine oG (gM (evv rfl)) rfl rfl ?_
  (refine o_call rfl _ (pick2 (K1 := jr _) (K2 := pt _)) (View_c _ _ _ _ _ _ (by assumption) (by assumption) (by assumption) (by first | assumption | omega)) rfl ?_; rintro _ _ ⟨rfl, rfl⟩)
  refine oG (gA (evv rfl)) rfl rfl ?_
  refine oN ?_
  refine cC ?_
  refine rS ?_
  rw [hv]
  dsimp only
  refine rR (id := 6) ?_
  refine oG (gM (evv rfl)) rfl rfl ?_
  refine oG (g_buildC rfl (by rfl)) rfl rfl ?_
  refine oG (g_buildC rfl (by rfl)) rfl rfl ?_
  refine o_call (vs := [.pointer (some ⟨oj, 0, none⟩), agg (entC ent0)]) rfl _ (pick2 (K1 := jr _) (K2 := pt _)) (Entry_c _ _ _ _ _ ent0 k1 c1 f1 he0 (by omega)) rfl ?_
  rintro _ _ ⟨rfl, rfl⟩
  rw [he]
  dsimp only
  refine oG (gA (evv rfl)) rfl rfl ?_
  refine oN ?_
  refine cC ?_
  refine rS ?_
  refine rR (id := 7) ?_
  refine oG (gM (evv rfl)) rfl rfl ?_
  refine o_call (vs := [.pointer (some ⟨oj, 0, none⟩), .int .i64 3, .int .i64 0, .slice none 0 0]) rfl _ (pick2 (K1 := jr _) (K2 := pt _)) (Adopt_c _ _ _ _ _ 3 0 (.slice none 0 0) [] k2 c2 f2 hnil (by decide) (by omega) r3 r0) rfl ?_
  rintro _ _ ⟨rfl, rfl⟩
  rw [ha]
  dsimp only
  refine oG (gA (evv rfl)) rfl rfl ?_
  refine oN ?_
  refine cC ?_
  refine rS ?_
  refine rR (id := 8) ?_
  refine oG (gM (evv rfl)) rfl rfl ?_
  refine o_call (vs := [.pointer (some ⟨oj, 0, none⟩), .int .i64 3, .int .i64 1, .slice none 0 0]) rfl _ (pick2 (K1 := jr _) (K2 := pt _)) (Adopt_c _ _ _ _ _ 3 1 (.slice none 0 0) [] k3 c3 f3 hnil (by decide) (by omega) r3 r1) rfl ?_
  rintro _ _ ⟨rfl, rfl⟩
  rw [hb]
  dsimp only
  refine oG (gA (evv rfl)) rfl rfl ?_
  refine oN ?_
  refine cC ?_
  refine rS ?_
  refine rR (id := 9) ?_
  refine oG (gM (evv rfl)) rfl rfl ?_
  (refine o_call rfl _ (PickR.ent (K := jr _)) (Kept_c _ _ _ _ (by assumption)) rfl ?_; rintro _ _ ⟨kv, rfl, rfl⟩)
  refine o_storeW (evv rfl) (evv rfl) (by first | rfl | assumption | exact LenC.h _ | (simp [bys, *]; done) | fail) (by first | (intro _ _ _; exact bys_one _) | exact AllOne.h | (intro _ _ _ u hu; simp at hu; rcases hu with rfl | rfl | rfl | rfl | rfl | rfl | rfl | rfl <;> rfl) | fail) (by first | rfl | exact (LenC.h _).trans rfl | exact (LenC.h _).trans (LenC.h _).symm | (simp [bys, *]; done) | (simp only [bys, List.length_map, *]; rfl) | fail) ?_
  refine oN ?_
  refine cC ?_
  refine rS ?_
  refine rR (id := 10) ?_
  refine oG (gM (evv rfl)) rfl rfl ?_
  refine oG (g_bin (evv rfl) (evv rfl) (by rfl)) rfl rfl ?_
  refine oG (gM (evv rfl)) rfl rfl ?_
  refine o_gyes rfl ?_
  refine oG (gM (evv rfl)) rfl rfl ?_
  refine o_gyes rfl ?_
  refine oG (g_bin (evv rfl) (evv rfl) (by rfl)) rfl rfl ?_
  refine oG (g_pick (b := true) (evv rfl) (fun _ => (evv rfl)) (fun h => by cases h)) rfl rfl ?_
  refine oG (gM (evv rfl)) rfl rfl ?_
  refine o_gyes rfl ?_
  refine oG (gM (evv rfl)) rfl rfl ?_
  refine o_gyes rfl ?_
  refine oG (g_bin (evv rfl) (evv rfl) (by rfl)) rfl rfl ?_
  refine oG (g_pick (b := true) (evv rfl) (fun _ => (evv rfl)) (fun h => by cases h)) rfl rfl ?_
  refine oG (gM (evv rfl)) rfl rfl ?_
  refine o_gyes rfl ?_
  refine oG (gM (evv rfl)) rfl rfl ?_
  refine o_gyes rfl ?_
  refine oG (g_bin (evv rfl) (evv rfl) (by rfl)) rfl rfl ?_
  refine oG (g_pick (b := true) (evv rfl) (fun _ => (evv rfl)) (fun h => by cases h)) rfl rfl ?_
  refine oG (gM (evv rfl)) rfl rfl ?_
  refine o_gyes rfl ?_
  refine oG (g_fld (evv rfl)) rfl rfl ?_
  refine o_gyes rfl ?_
  refine oG (g_load (evv rfl) (by rfl) (by rfl)) rfl rfl ?_
  refine o_gyes rfl ?_
  refine oG (g_bin (evv rfl) (evv rfl) (by rfl)) rfl rfl ?_
  refine oG (g_pick (b := true) (evv rfl) (fun _ => (evv rfl)) (fun h => by cases h)) rfl rfl ?_
  refine oG (gM (evv rfl)) rfl rfl ?_
  refine o_gyes rfl ?_
  refine oG (g_fld (evv rfl)) rfl rfl ?_
  refine o_gyes rfl ?_
  refine oG (g_load (evv rfl) (by rfl) (by rfl)) rfl rfl ?_
  refine o_gyes rfl ?_
  refine oG (g_bin (evv rfl) (evv rfl) (by rfl)) rfl rfl ?_
  refine oG (g_pick (b := true) (evv rfl) (fun _ => (evv rfl)) (fun h => by cases h)) rfl rfl ?_
  refine oG (gM (evv rfl)) rfl rfl ?_
  refine o_gyes rfl ?_
  refine oG (g_fld (evv rfl)) rfl rfl ?_
  refine o_gyes rfl ?_
  refine oG (g_load (evv rfl) (by rfl) (by rfl)) rfl rfl ?_
  refine o_gyes rfl ?_
  refine oG (g_lenF (evv rfl)) rfl rfl ?_
  refine o_gyes rfl ?_
  refine oG (g_bin (evv rfl) (evv rfl) (by rfl)) rfl rfl ?_
  refine oG (g_pick (b := true) (evv rfl) (fun _ => (evv rfl)) (fun h => by cases h)) rfl rfl ?_
  refine oG (gM (evv rfl)) rfl rfl ?_
  refine o_gyes rfl ?_
  refine oG (gM (evv rfl)) rfl rfl ?_
  refine o_gyes rfl ?_
  (refine o_call rfl _ (PickR.ent (K := pt _)) (pRead_c _ _ _ (by assumption) _) rfl ?_; rintro cw _ ⟨-, rfl⟩)
  refine o_gyes rfl ?_
  refine oG (g_lenM (evv rfl)) rfl rfl ?_
  refine o_gyes rfl ?_
  refine oG (g_bin (evv rfl) (evv rfl) (by rfl)) rfl rfl ?_
  refine oG (g_pick (b := true) (evv rfl) (fun _ => (evv rfl)) (fun h => by cases h)) rfl rfl ?_
  refine oG (gA (evv rfl)) rfl rfl ?_
  refine oN ?_
  refine cC ?_
  skip
  skip
  first | refine r_ret (rs := [.tmp 0]) rfl rfl _ ((Lay.ent (L' := F))) ?_ | refine c_end (rs := [.tmp 0]) rfl rfl _ ((Lay.ent (L' := F))) ?_
  exact ⟨congrArg Value.bool (decide_eq_true (by omega)), rfl⟩
end VK

namespace VK
open Go Go.Proofs
set_option linter.unusedSimpArgs false
set_option linter.unusedVariables false
set_option maxRecDepth 100000
set_option maxHeartbeats 40000000
theorem arm_size (x : Pt) (c : Int) : sizeP (armT x c) = sizeP x := by unfold armT; split <;> rfl
end VK

namespace VK
open Go Go.Proofs
set_option linter.unusedSimpArgs false
set_option linter.unusedVariables false
set_option maxRecDepth 100000
set_option maxHeartbeats 40000000
instance (L : List Atom) (a : ActJ) [RdA L a] : AllOne L (actC a) := by
  haveI : OneC L a.ve := inferInstance
  unfold actC
  infer_instance
end VK

namespace VK
open Go Go.Proofs
set_option linter.unusedSimpArgs false
set_option linter.unusedVariables false
set_option maxRecDepth 100000
set_option maxHeartbeats 40000000
end VK

namespace VK
open Go Go.Proofs
set_option linter.unusedSimpArgs false
set_option linter.unusedVariables false
set_option maxRecDepth 100000
set_option maxHeartbeats 40000000
end VK

namespace VK
open Go Go.Proofs
set_option linter.unusedSimpArgs false
set_option linter.unusedVariables false
set_option maxRecDepth 100000
set_option maxHeartbeats 40000000
theorem Open_er (F : List Atom) (p : Nat) (x y : Pt) (k : KeptS) (e : Int) (hx : x.ok) (hs : sizeP x + 262152 ≤ 1000000000) (ho : openT x = (e, y, k)) (he : e ≠ 0) :
    Fn Try.prog 10 [.pointer (some ⟨p, 0, none⟩)] (pt p x :: F) fun w L' => w = openV e (.pointer none) zeroK (.slice none 0 0) ∧ L' = pt p y :: F := (Open_c F p x hx hs).mono fun v L' h => by
  rw [ho] at h
  rcases h with ⟨h, _⟩ | ⟨_, h⟩
  · exact absurd h he
  · exact h
theorem rjOpen_ok (F : List Atom) (r : Nat) (x y : Pt) (k : KeptS) (hx : x.ok) (hs : sizeP x + 262152 ≤ 1000000000) (ho : openT x = (0, y, k)) :
    Fn Try.prog 25 [.pointer (some ⟨r, 0, none⟩)] (rpo r x :: F) fun w L' => ∃ j ve l2, w = .tuple #[.pointer (some ⟨j, 0, none⟩), .int .i64 0] ∧ L' = rjo j r k ve :: rpo r y :: rom l2 :: F ∧ InR l2 ve (entR k.ents) := (rjOpen_c F r x hx hs).mono fun v L' h => by
  rw [ho] at h
  rcases h with ⟨_, h⟩ | ⟨h, _⟩
  · exact h
  · exact absurd rfl h
theorem rjOpen_er (F : List Atom) (r : Nat) (x y : Pt) (k : KeptS) (e : Int) (hx : x.ok) (hs : sizeP x + 262152 ≤ 1000000000) (ho : openT x = (e, y, k)) (he : e ≠ 0) :
    Fn Try.prog 25 [.pointer (some ⟨r, 0, none⟩)] (rpo r x :: F) fun w L' => w = .tuple #[.pointer none, .int .i64 e] ∧ L' = rpo r y :: F := (rjOpen_c F r x hx hs).mono fun v L' h => by
  rw [ho] at h
  rcases h with ⟨h, _⟩ | ⟨_, h⟩
  · exact absurd h he
  · exact h
end VK

namespace VK
open Go Go.Proofs
set_option linter.unusedSimpArgs false
set_option linter.unusedVariables false
set_option maxRecDepth 100000
set_option maxHeartbeats 40000000
theorem JournalPlays_c (W : World) (v : Value) (l : List ActJ) (sc : ScA [base W] v l) : Fn Try.prog 6 [v] [base W] fun w L' => w = .bool true ∧ L' = [base W] := by
  haveI rd := sc.rd
  refine fn_lenF rd fun hlen => ?_
  have hlen : l.length ≤ 2 ^ 63 - 1 := hlen
  have n0 : sizeP zeroPt = 0 := rfl
  have hz := open_inv inv_zero
  have k0 : zeroPt.ok := inv_zero.ok
  have r0 : inR .i64 0 := ⟨by decide, by decide⟩
  refine fn_intro Try.func6 rfl Try.ntmps6 rfl (fun W0 => ?_)
  simp only [argE]
  refine rS ?_
  refine rR (id := 0) ?_
  refine oG (gA (evv rfl)) rfl rfl ?_
  refine oN ?_
  refine cC ?_
  refine rS ?_
  refine rS ?_
  refine rR (id := 1) ?_
  (refine o_call rfl _ (Ent.refl _) (jawake_c _) rfl ?_; rintro _ _ ⟨rfl, hLz⟩; obtain rfl := hLz.symm; clear hLz)
  refine oG (g_not (evv rfl)) rfl rfl ?_
  refine oN ?_
  refine cC ?_
  refine r_cond_false rfl ?_
  refine r_skip ?_
  refine cC ?_
  refine rS ?_
  refine rS ?_
  refine rR (id := 3) ?_
  refine oG (gM (evv rfl)) rfl rfl ?_
  (refine o_call rfl _ (Ent.refl _) (jfits_c _ _ _ (by assumption)) rfl ?_; rintro _ _ ⟨fb, rfl, hLz⟩; obtain rfl := hLz.symm; clear hLz)
  refine oG (g_not (evv rfl)) rfl rfl ?_
  refine oN ?_
  refine cC ?_
  refine r_cond rfl (fun hf => ?_) (fun hf => ?_) <;> (try simp only [decide_eq_true_eq, decide_eq_false_iff_not, Bool.and_eq_true, Bool.or_eq_true, Bool.not_eq_true', Bool.and_eq_false_iff, Bool.or_eq_false_iff, Bool.not_eq_false', Bool.not_eq_true, Bool.not_eq_false, Bool.true_eq_false, Bool.false_eq_true, Int.not_lt, Int.not_le, not_and, not_or, ne_eq] at hf)
  · refine rS ?_
    refine rR (id := 4) ?_
    refine oG (gA (evv rfl)) rfl rfl ?_
    refine oN ?_
    refine cC ?_
    first | refine r_ret (rs := [.tmp 2]) rfl rfl _ ((Lay.ent (L' := [base W]))) ?_ | refine c_end (rs := [.tmp 2]) rfl rfl _ ((Lay.ent (L' := [base W]))) ?_
    exact ⟨rfl, rfl⟩
  refine r_skip ?_
  refine cC ?_
  refine rS ?_
  refine rR (id := 5) ?_
  (refine o_call rfl _ (Ent.refl _) (New_c _) rfl ?_; rintro _ _ ⟨np, rfl, rfl⟩)
  refine oG (gA (evv rfl)) rfl rfl ?_
  refine oN ?_
  refine cC ?_
  refine rS ?_
  refine rR (id := 6) ?_
  refine oG (v := agg [(Go.Value.string { data := #[] }), (Go.Value.string { data := #[] }), (Go.Value.int Go.IntKind.i64 0), (Go.Value.int Go.IntKind.i64 0), (Go.Value.int Go.IntKind.i64 0), (Go.Value.int Go.IntKind.i64 0), (Go.Value.bool false)]) (g_buildC rfl (by rfl)) rfl rfl ?_
  refine o_boxA (evv rfl) rfl (fun _ => ?_)
  refine oG (gA (evv rfl)) rfl rfl ?_
  refine oN ?_
  refine cC ?_
  refine rS ?_
  rename_i r
  refine r_ent (rpo r zeroPt :: pt np zeroPt :: [base W]) (Ent.refl _) ?_
  refine rR (id := 7) ?_
  refine oG (gM (evv rfl)) rfl rfl ?_
  (refine o_call rfl _ (PickR.ent (K := pt _)) (Open_ok _ _ _ _ _ (by assumption) (by first | assumption | omega) (by assumption)) rfl ?_; rintro _ _ ⟨oj, ov, rfl, rfl⟩; dsimp only [openV])
  refine oG (gM (evv rfl)) rfl rfl ?_
  refine oG (g_extract (evv rfl) (by rfl)) rfl rfl ?_
  refine oG (g_extract (evv rfl) (by rfl)) rfl rfl ?_
  refine oG (g_extract (evv rfl) (by rfl)) rfl rfl ?_
  refine o_alloc rfl rfl (fun _ => ?_)
  refine oG (gA (evv rfl)) rfl rfl ?_
  refine o_storeW (evv rfl) (evv rfl) (by first | rfl | assumption | exact LenC.h _ | (simp [bys, *]; done) | fail) (by first | (intro _ _ _; exact bys_one _) | exact AllOne.h | (intro _ _ _ u hu; simp at hu; rcases hu with rfl | rfl | rfl | rfl | rfl | rfl | rfl | rfl <;> rfl) | fail) (by first | rfl | exact (LenC.h _).trans rfl | exact (LenC.h _).trans (LenC.h _).symm | (simp [bys, *]; done) | (simp only [bys, List.length_map, *]; rfl) | fail) ?_
  refine oG (gA (evv rfl)) rfl rfl ?_
  refine oN ?_
  refine cC ?_
  refine rS ?_
  refine rR (id := 8) ?_
  refine oG (gM (evv rfl)) rfl rfl ?_
  (refine o_call rfl _ (PickR.ent (K := blk _)) (rjOpen_ok _ _ _ _ _ (by assumption) (by first | assumption | omega) (by assumption)) rfl ?_; rintro _ _ ⟨qj, qv, ql, rfl, rfl, hql⟩)
  refine oG (gM (evv rfl)) rfl rfl ?_
  refine oG (g_extract (evv rfl) (by rfl)) rfl rfl ?_
  refine oG (g_extract (evv rfl) (by rfl)) rfl rfl ?_
  refine oG (gA (evv rfl)) rfl rfl ?_
  refine oG (gA (evv rfl)) rfl rfl ?_
  refine oN ?_
  refine cC ?_
  refine rS ?_
  refine rS ?_
  refine rR (id := 9) ?_
  refine oG (gM (evv rfl)) rfl rfl ?_
  refine oG (g_bin (evv rfl) (evv rfl) (by rfl)) rfl rfl ?_
  refine oG (gM (evv rfl)) rfl rfl ?_
  refine o_gyes rfl ?_
  refine oG (gM (evv rfl)) rfl rfl ?_
  refine o_gyes rfl ?_
  refine oG (g_bin (evv rfl) (evv rfl) (by rfl)) rfl rfl ?_
  refine oG (g_pick (b := false) (evv rfl) (fun h => by cases h) (fun _ => (evv rfl))) rfl rfl ?_
  refine oN ?_
  refine cC ?_
  refine r_cond_false rfl ?_
  refine r_skip ?_
  refine cC ?_
  refine rS ?_
  refine rS ?_
  refine rR (id := 11) ?_
  refine oG (gA (evv rfl)) rfl rfl ?_
  refine oN ?_
  refine cC ?_
  refine r_block ?_
  have hqr : Rd (rom ql :: [base W]) qv (entR zeroK.ents) := inferInstance
  refine r_loopE (σ := Nat × Pt × KeptS × Nat × Nat × Value × List (Value × Row)) (fun ⟨i, x, k, j, q, ve, rl⟩ => i ≤ l.length ∧ i ≤ 40 ∧ x.ok ∧ k.ok ∧ k.fine ∧ sizeP x ≤ 500000 * i ∧ Rd (rom rl :: [base W]) ve (entR k.ents)) (fun ⟨i, x, k, j, q, ve, rl⟩ => l.length - i) (fun ⟨i, x, k, j, q, ve, rl⟩ => [(5, .v (.pointer (some ⟨j, 0, none⟩))), (8, .v (.pointer (some ⟨q, 0, none⟩))), (10, .v (.int .i64 i))]) [0, 3, 4] (fun ⟨i, x, k, j, q, ve, rl⟩ => rjo q r k ve :: rpo r x :: jr j (np, k) :: pt np x :: rom rl :: [base W]) (0, zeroPt, zeroK, oj, qj, qv, ql) (by dsimp only [pickE, pick1, lk2, Nat.reduceBEq, Nat.reduceAdd, Nat.zero_add, cond_true, cond_false] <;> exact rfl) ?_ (by repeat (first | exact trivial | refine ⟨rfl, ?_⟩ | refine envsub_v rfl (by first | rfl | (refine int_eq ?_; first | omega | (simp; omega) | (simp; done)) | (refine bool_eq ?_; first | (simp [*]; done) | (simp; done)) | (refine str_eq ?_; simp; done) | (refine ptr_eq ?_; omega) | fail) ?_)) ?_ ?_
  · exact ⟨Nat.zero_le _, Nat.zero_le _, k0, zeroK_ok, zeroK_fine, Nat.le_refl _, hqr⟩
  · exact Lay.ent
  rintro ⟨i, x, k, j, q, ve, rl⟩ ⟨hi, hi4, hx, hk, hkf, hs, hve⟩; dsimp only [List.cons_append, List.nil_append]
  refine rS ?_
  refine rS ?_
  refine rR (id := 12) ?_
  refine oG (gM (evv rfl)) rfl rfl ?_
  refine oG (gM (evv rfl)) rfl rfl ?_
  refine oG (g_lenF (evv rfl)) rfl rfl ?_
  refine oG (g_bin (evv rfl) (evv rfl) (by rfl)) rfl rfl ?_
  refine oG (gM (evv rfl)) rfl rfl ?_
  refine o_lazy rfl (fun hg => gM (by first | exact evv rfl | exact evg rfl (by rw [hp]; rfl) | exact evg rfl hp | exact evg rfl hg | exact evg rfl (by first | (simp_all; done) | (simp [*]; done) | fail) | fail)) rfl rfl ?_
  refine o_lazy rfl (fun hg => g_bin (by first | exact evv rfl | exact evg rfl (by rw [hp]; rfl) | exact evg rfl hp | exact evg rfl hg | exact evg rfl (by first | (simp_all; done) | (simp [*]; done) | fail) | fail) (by first | exact evv rfl | exact evg rfl (by rw [hp]; rfl) | exact evg rfl hp | exact evg rfl hg | exact evg rfl (by first | (simp_all; done) | (simp [*]; done) | fail) | fail) (by rfl)) rfl rfl ?_
  refine oG (g_pick_and (evv rfl) (evv rfl) (fun hp => (by first | exact evv rfl | exact evg rfl (by rw [hp]; rfl) | exact evg rfl hp | exact evg rfl hg | exact evg rfl (by first | (simp_all; done) | (simp [*]; done) | fail) | fail))) rfl rfl ?_
  refine oN ?_
  refine cC ?_
  refine r_cond rfl (fun hc => ?_) (fun hc => ?_) <;> (try simp only [decide_eq_true_eq, decide_eq_false_iff_not, Bool.and_eq_true, Bool.or_eq_true, Bool.not_eq_true', Bool.and_eq_false_iff, Bool.or_eq_false_iff, Bool.not_eq_false', Bool.not_eq_true, Bool.not_eq_false, Bool.true_eq_false, Bool.false_eq_true, Int.not_lt, Int.not_le, not_and, not_or, ne_eq] at hc)
  · have hi2 : i < l.length ∧ i < 40 := by omega
    have hmem : l.getD i default ∈ l := by rw [List.getD_eq_getElem?_getD, List.getElem?_eq_getElem hi2.1]; exact List.getElem_mem hi2.1
    obtain ⟨hra, hok⟩ := sc.el _ hmem
    haveI := hra
    clear hc
    refine r_skip ?_
    refine cC ?_
    refine rS ?_
    refine r_block ?_
    refine rS ?_
    refine rR (id := 14) ?_
    refine oG (gM (evv rfl)) rfl rfl ?_
    refine oG (gM (evv rfl)) rfl rfl ?_
    refine oG (g_idxFN (evv rfl) (evv rfl) (by rfl) (by rfl) (by first | omega | (have := of_decide_eq_true hg; omega) | (simp at hg; omega) | (simp only [List.length_set, List.length_append, List.length_cons, List.length_nil, List.length_map, List.length_take, List.length_drop, List.length_replicate]; omega))) rfl rfl ?_
    refine oG (g_loadFr (evv rfl) (by rfl) (by first | (intro; rfl) | exact LenC.h) (by rfl) (by rfl) (by first | omega | (have := of_decide_eq_true hg; omega) | (simp at hg; omega) | (simp only [List.length_set, List.length_append, List.length_cons, List.length_nil, List.length_map, List.length_take, List.length_drop, List.length_replicate]; omega))) rfl rfl ?_
    refine o_alloc rfl rfl (fun _ => ?_)
    refine o_storeW (evv rfl) (evv rfl) (by first | rfl | assumption | exact LenC.h _ | (simp [bys, *]; done) | fail) (by first | (intro _ _ _; exact bys_one _) | exact AllOne.h | (intro _ _ _ u hu; simp at hu; rcases hu with rfl | rfl | rfl | rfl | rfl | rfl | rfl | rfl <;> rfl) | fail) (by first | rfl | exact (LenC.h _).trans rfl | exact (LenC.h _).trans (LenC.h _).symm | (simp [bys, *]; done) | (simp only [bys, List.length_map, *]; rfl) | fail) ?_
    refine oN ?_
    refine cC ?_
    refine rS ?_
    rename_i ab
    generalize hal : l.getD i default = a at *
    have hks := hok.ks
    have hfl := hok.fl
    have hxa : (armT x a.fail).ok := by
      have h := doT_ok (x := x) (c := ⟨4, 0, .slice none 0 0, [], a.fail, .slice none 0 0, []⟩) hx hfl (by simp; omega)
      exact h.1
    have hsa : sizeP (armT x a.fail) + 262152 ≤ 1000000000 := by rw [arm_size]; omega
    refine rR (id := 15) ?_
    refine oG (gM (evv rfl)) rfl rfl ?_
    refine oG (g_fld (evv rfl)) rfl rfl ?_
    refine oG (g_load (evv rfl) (by rfl) (by rfl)) rfl rfl ?_
    (refine o_call rfl _ (PickR.ent (K := pt _)) (Arm_c _ _ _ _) rfl ?_; rintro _ _ ⟨rfl, rfl⟩)
    refine oN ?_
    refine cC ?_
    refine rS ?_
    refine rR (id := 16) ?_
    refine oG (gM (evv rfl)) rfl rfl ?_
    refine oG (g_fld (evv rfl)) rfl rfl ?_
    refine oG (g_load (evv rfl) (by rfl) (by rfl)) rfl rfl ?_
    refine oG (g_buildC rfl (by rfl)) rfl rfl ?_
    (refine o_call rfl _ (PickR.ent (K := blk _)) (rDo4_c _ _ _ (by assumption) _ (by assumption)) rfl ?_; rintro _ _ ⟨rfl, rfl⟩)
    refine oN ?_
    refine cC ?_
    refine rS ?_
    refine rS ?_
    have hDo := doJ_ok (k := k) hxa hok hsa
    have hDf := doJ_fine (x := armT x a.fail) ⟨hkf, hk⟩ hok
    rw [arm_size] at hDo
    obtain ⟨hdo, hds⟩ := hDo
    obtain ⟨hdf, hdk⟩ := hDf
    repeat (first | refine rS ?_ | refine cC ?_ | refine c_blk ?_ | refine r_block ?_ | refine r_skip ?_)
    refine r_held (id := 17) ([blk ab ⟨actC a, 37⟩]) Mixed.h ?_
    refine h_give (i := 0) (by kernel_rfl) rfl (gM (evv rfl)) rfl rfl ?_
    refine h_give (i := 1) (by kernel_rfl) rfl (g_loadF (evv rfl) (by rfl) (by rfl)) rfl rfl ?_
    refine h_give (i := 3) (by kernel_rfl) rfl (gM (evv rfl)) rfl rfl ?_
    refine h_give (i := 4) (by kernel_rfl) rfl (g_loadF (evv rfl) (by rfl) (by rfl)) rfl rfl ?_
    refine h_one (i := 2) (by kernel_rfl) rfl (Lay.ent) ?_
    (refine o_call rfl _ (pick2 (K1 := jr _) (K2 := pt _)) (jdo_c _ _ _ _ _ _ (by assumption) (by assumption) (by assumption) (by assumption) (by first | assumption | omega)) rfl ?_; rintro _ _ ⟨rfl, rfl⟩)
    refine oN ?_
    refine h_one (i := 5) (by kernel_rfl) rfl (Lay.ent) ?_
    (refine o_call rfl _ (pick2 (K1 := blk _) (K2 := blk _)) (rjWant_c _ _ _ _ _ _ _ (by assumption) (by assumption) (by assumption) (by assumption) (by first | assumption | omega)) rfl ?_; rintro _ _ ⟨wv, wl, rfl, rfl, hwl⟩)
    refine oN ?_
    refine h_give (i := 6) (by kernel_rfl) rfl (g_bin (evv rfl) (evv rfl) (by rfl)) rfl rfl ?_
    refine h_give (i := 7) (by kernel_rfl) rfl (gM (evv rfl)) rfl rfl ?_
    simp only [decide_true, Bool.not_true]
    refine h_sure (i := 8) (by kernel_rfl) rfl rfl (gM (evv rfl)) rfl rfl ?_
    refine h_sure (i := 9) (by kernel_rfl) rfl rfl (gM (evv rfl)) rfl rfl ?_
    refine h_one (i := 10) (by kernel_rfl) rfl (Lay.ent) ?_
    refine o_gyes rfl ?_
    (refine o_call rfl _ ((PickR.ent (K := pt _)).trans ((Ent.cons (PickR.ent (K := blk _))).trans (Ent.perm (.swap _ _ _)))) (rjsame_c _ _ _ _ (by assumption)) rfl ?_; rintro _ _ ⟨rfl, rfl⟩)
    refine oN ?_
    refine h_sure (i := 11) (by kernel_rfl) rfl rfl (g_not (evv rfl)) rfl rfl ?_
    refine h_give (i := 12) (by kernel_rfl) rfl (g_pick (b := false) (evv rfl) (fun h => by cases h) (fun _ => (evv rfl))) rfl rfl ?_
    refine h_done (by kernel_rfl) (Lay.ent) ?_
    simp only [decide_true, Bool.not_true]
    refine cC ?_
    refine r_cond_false rfl ?_
    refine r_skip ?_
    refine cC ?_
    refine rS ?_
    rcases hD : doJ (armT x a.fail) k a with ⟨dc, dy, dk⟩
    rw [hD] at hdo hds hdf hdk hwl
    dsimp only at hdo hds hdf hdk hwl ⊢
    have hya : (armT dy 0).ok := by
      have h := doT_ok (x := dy) (c := ⟨4, 0, .slice none 0 0, [], 0, .slice none 0 0, []⟩) hdo r0 (by simp; omega)
      exact h.1
    have hys : sizeP (armT dy 0) ≤ sizeP x + 262152 := by rw [arm_size]; exact hds
    refine rR (id := 19) ?_
    refine oG (gM (evv rfl)) rfl rfl ?_
    (refine o_call rfl _ (PickR.ent (K := pt _)) (Arm_c _ _ _ _) rfl ?_; rintro _ _ ⟨rfl, rfl⟩)
    refine oN ?_
    refine cC ?_
    refine rS ?_
    refine rR (id := 20) ?_
    refine oG (gM (evv rfl)) rfl rfl ?_
    refine oG (g_buildC rfl (by rfl)) rfl rfl ?_
    (refine o_call rfl _ (PickR.ent (K := blk _)) (rDo4_c _ _ _ (by assumption) _ (by assumption)) rfl ?_; rintro _ _ ⟨rfl, rfl⟩)
    refine oN ?_
    refine cC ?_
    refine rS ?_
    refine rS ?_
    generalize armT dy 0 = y at *
    refine rR (id := 21) ?_
    refine oG (gM (evv rfl)) rfl rfl ?_
    (refine o_call rfl _ (PickR.ent (K := pt _)) (Down_c _ _ _) rfl ?_; rintro _ _ ⟨rfl, rfl⟩)
    refine oG (gM (evv rfl)) rfl rfl ?_
    refine o_lazy rfl (fun hg => g_fld (evv rfl)) rfl rfl ?_
    refine o_lazy rfl (fun hg => g_load (evg rfl hg) (by rfl) (by rfl)) rfl rfl ?_
    refine o_lazy rfl (fun hg => g_conv TyU.h TyU.h (by first | exact evv rfl | exact evg rfl (by rw [hp]; rfl) | exact evg rfl hp | exact evg rfl hg | exact evg rfl (by first | (simp_all; done) | (simp [*]; done) | fail) | fail)) rfl rfl ?_
    refine o_lazy rfl (fun hg => g_div (by first | exact evv rfl | exact evg rfl (by rw [hp]; rfl) | exact evg rfl hp | exact evg rfl hg | exact evg rfl (by first | (simp_all; done) | (simp [*]; done) | fail) | fail) (by first | exact evv rfl | exact evg rfl (by rw [hp]; rfl) | exact evg rfl hp | exact evg rfl hg | exact evg rfl (by first | (simp_all; done) | (simp [*]; done) | fail) | fail) (by rfl) (by omega)) rfl rfl ?_
    refine o_lazy rfl (fun hg => g_bin (by first | exact evv rfl | exact evg rfl (by rw [hp]; rfl) | exact evg rfl hp | exact evg rfl hg | exact evg rfl (by first | (simp_all; done) | (simp [*]; done) | fail) | fail) (by first | exact evv rfl | exact evg rfl (by rw [hp]; rfl) | exact evg rfl hp | exact evg rfl hg | exact evg rfl (by first | (simp_all; done) | (simp [*]; done) | fail) | fail) (by rfl)) rfl rfl ?_
    refine oG (g_pick_or (evv rfl) (evv rfl) (fun hp => (by first | exact evv rfl | exact evg rfl (by rw [hp]; rfl) | exact evg rfl hp | exact evg rfl hg | exact evg rfl (by first | (simp_all; done) | (simp [*]; done) | fail) | fail))) rfl rfl ?_
    refine oN ?_
    refine cC ?_
    repeat (first | refine rS ?_ | refine cC ?_ | refine c_blk ?_ | refine r_block ?_ | refine r_skip ?_)
    refine r_cutE (σ := {z : Pt // z.ok ∧ sizeP z ≤ sizeP x + 262152}) (fun z => []) [0,3,4,10] (fun z => rpo r z.1 :: pt np z.1 :: rom rl :: [base W]) (by dsimp only [pickE, pick1, lk2, Nat.reduceBEq, Nat.reduceAdd, Nat.zero_add, cond_true, cond_false] <;> exact rfl) ?_ ?_
    · refine r_cond rfl (fun hcut => ?_) (fun hcut => ?_) <;> (try simp only [decide_eq_true_eq, decide_eq_false_iff_not, Bool.and_eq_true, Bool.or_eq_true, Bool.not_eq_true', Bool.and_eq_false_iff, Bool.or_eq_false_iff, Bool.not_eq_false', Bool.not_eq_true, Bool.not_eq_false, Bool.true_eq_false, Bool.false_eq_true, Int.not_lt, Int.not_le, not_and, not_or, ne_eq] at hcut)
      · obtain ⟨co, cs⟩ := cut_ok hya a.ks
        refine rS ?_
        refine rR (id := 22) ?_
        refine oG (gM (evv rfl)) rfl rfl ?_
        refine oG (g_fld (evv rfl)) rfl rfl ?_
        refine oG (g_load (evv rfl) (by rfl) (by rfl)) rfl rfl ?_
        (refine o_call rfl _ (PickR.ent (K := pt _)) (Cut_c _ _ _ (by assumption) _ _ (by assumption)) rfl ?_; rintro _ _ ⟨rfl, rfl⟩)
        refine oN ?_
        refine cC ?_
        refine rR (id := 23) ?_
        refine oG (gM (evv rfl)) rfl rfl ?_
        refine oG (g_fld (evv rfl)) rfl rfl ?_
        refine oG (g_load (evv rfl) (by rfl) (by rfl)) rfl rfl ?_
        refine oG (g_buildC rfl (by rfl)) rfl rfl ?_
        (refine o_call rfl _ (PickR.ent (K := blk _)) (rDo5_c _ _ _ (by assumption) _ _ (by assumption)) rfl ?_; rintro _ _ ⟨rfl, rfl⟩)
        refine oN ?_
        exact c_cut (⟨cutT y a.ks, co, Nat.le_trans cs hys⟩ : {z : Pt // z.ok ∧ sizeP z ≤ sizeP x + 262152}) (by repeat (first | exact trivial | refine ⟨rfl, ?_⟩ | refine envsub_v rfl (by first | rfl | (refine int_eq ?_; first | omega | (simp; omega) | (simp; done)) | (refine bool_eq ?_; first | (simp [*]; done) | (simp; done)) | (refine str_eq ?_; simp; done) | (refine ptr_eq ?_; omega) | fail) ?_)) (Lay.ent)
      · refine rS ?_
        refine rR (id := 24) ?_
        refine oG (g_fld (evv rfl)) rfl rfl ?_
        refine oG (g_load (evv rfl) (by rfl) (by rfl)) rfl rfl ?_
        refine o_giveU (g_conv TyU.h TyU.h (evv rfl)) (by rfl) rfl ?_
        refine oG (g_remP (evv rfl) (evv rfl) (by omega) (by omega)) rfl rfl ?_
        refine oG (g_bin (evv rfl) (evv rfl) (by rfl)) rfl rfl ?_
        refine oN ?_
        refine cC ?_
        refine r_cond rfl (fun hq5 => ?_) (fun hq5 => ?_) <;> (try simp only [decide_eq_true_eq, decide_eq_false_iff_not, Bool.and_eq_true, Bool.or_eq_true, Bool.not_eq_true', Bool.and_eq_false_iff, Bool.or_eq_false_iff, Bool.not_eq_false', Bool.not_eq_true, Bool.not_eq_false, Bool.true_eq_false, Bool.false_eq_true, Int.not_lt, Int.not_le, not_and, not_or, ne_eq] at hq5)
        · obtain ⟨nl, hnl, hent⟩ : ∃ nl, Rd (rom nl :: [base W]) wv (entR dk.ents) ∧ Ent [rom wl, rom rl, base W] (rom nl :: [base W]) := by
            rcases hwl with (⟨rfl, e⟩ | h) | ⟨rfl, e⟩
            · exact ⟨rl, by rw [e]; exact hve, Ent.drop⟩
            · exact ⟨wl, inferInstance, Ent.cons Ent.drop⟩
            · exact ⟨rl, by rw [e]; exact hra.e.ent Ent.drop, Ent.drop⟩
          refine r_ent (pt np y :: rpo r y :: rjo q r dk wv :: jr j (np, dk) :: rom nl :: [base W]) ((Lay.ent (L' := pt np y :: rpo r y :: rjo q r dk wv :: jr j (np, dk) :: [rom wl, rom rl, base W])).trans (Ent.cons (Ent.cons (Ent.cons (Ent.cons hent))))) ?_
          repeat (first | refine rS ?_ | refine cC ?_ | refine c_blk ?_ | refine r_block ?_ | refine r_skip ?_)
          refine r_held (id := 25) ([rjo q r dk wv, rom nl]) Mixed.h ?_
          refine h_give (i := 0) (by kernel_rfl) rfl (gM (evv rfl)) rfl rfl ?_
          refine h_give (i := 2) (by kernel_rfl) rfl (gM (evv rfl)) rfl rfl ?_
          refine h_give (i := 3) (by kernel_rfl) rfl (g_nil (evv rfl)) rfl rfl ?_
          refine h_give (i := 4) (by kernel_rfl) rfl (g_fld (evv rfl)) rfl rfl ?_
          refine h_give (i := 5) (by kernel_rfl) rfl (g_loadF (evv rfl) (by rfl) (by rfl)) rfl rfl ?_
          refine h_one (i := 1) (by kernel_rfl) rfl (Lay.ent) ?_
          (refine o_call rfl _ (PickR.ent (K := jr _)) (Kept_c _ _ _ _ (by assumption)) rfl ?_; rintro _ _ ⟨kv, rfl, rfl⟩)
          refine oN ?_
          refine h_one (i := 6) (by kernel_rfl) rfl (Lay.ent) ?_
          (refine o_call rfl _ (Ent.refl _) (SameK_c _ _ _ _ _) rfl ?_; rintro _ _ ⟨rfl, hLz⟩; obtain rfl := hLz.symm; clear hLz)
          refine oN ?_
          refine h_give (i := 7) (by kernel_rfl) rfl (g_not (evv rfl)) rfl rfl ?_
          refine h_done (by kernel_rfl) (Lay.ent) ?_
          simp only [show decide (dk = dk) = true from decide_eq_true rfl, Bool.not_true]
          refine cC ?_
          refine r_cond_false rfl ?_
          refine r_skip ?_
          refine cC ?_
          refine r_exit rfl ?_
          refine cC ?_
          refine rR (id := 13) ?_
          refine oG (gM (evv rfl)) rfl rfl ?_
          refine o_giveN (g_bin (evv rfl) (evv rfl) (by rfl)) (by simp only [inR]; omega) rfl ?_
          refine oG (gA (evv rfl)) rfl rfl ?_
          refine oN ?_
          refine c_loop (i + 1, y, dk, j, q, wv, nl) ?_ ?_ (by repeat (first | exact trivial | refine ⟨rfl, ?_⟩ | refine envsub_v rfl (by first | rfl | (refine int_eq ?_; first | omega | (simp; omega) | (simp; done)) | (refine bool_eq ?_; first | (simp [*]; done) | (simp; done)) | (refine str_eq ?_; simp; done) | (refine ptr_eq ?_; omega) | fail) ?_)) ?_ <;> (try dsimp only)
          · exact ⟨by omega, by omega, hya, hdk, hdf, by omega, hnl⟩
          · omega
          · exact Lay.ent
        · refine r_skip ?_
          exact c_cut (⟨y, hya, hys⟩ : {z : Pt // z.ok ∧ sizeP z ≤ sizeP x + 262152}) (by repeat (first | exact trivial | refine ⟨rfl, ?_⟩ | refine envsub_v rfl (by first | rfl | (refine int_eq ?_; first | omega | (simp; omega) | (simp; done)) | (refine bool_eq ?_; first | (simp [*]; done) | (simp; done)) | (refine str_eq ?_; simp; done) | (refine ptr_eq ?_; omega) | fail) ?_)) (Lay.ent)
    · rintro ⟨z, hzo, hzs⟩
      dsimp only [List.cons_append, List.nil_append]
      have hzs2 : sizeP z + 262152 ≤ 1000000000 := by omega
      have hfin := openT_fine (x := z)
      have hyk := openT_ok hzo (by omega)
      rcases hO : openT z with ⟨e, zy, zk⟩
      rw [hO] at hfin hyk
      dsimp only at hfin hyk
      obtain ⟨hzf, hzk⟩ := hfin
      obtain ⟨hzyo, hzys⟩ := hyk
      by_cases he : e = 0
      · subst he
        refine cC ?_
        refine rS ?_
        refine rR (id := 27) ?_
        refine oG (gM (evv rfl)) rfl rfl ?_
        (refine o_call rfl _ (PickR.ent (K := pt _)) (Open_ok _ _ _ _ _ (by assumption) (by first | assumption | omega) (by assumption)) rfl ?_; rintro _ _ ⟨oj, ov, rfl, rfl⟩; dsimp only [openV])
        refine oG (gM (evv rfl)) rfl rfl ?_
        refine oG (g_extract (evv rfl) (by rfl)) rfl rfl ?_
        refine oG (g_extract (evv rfl) (by rfl)) rfl rfl ?_
        refine oG (g_extract (evv rfl) (by rfl)) rfl rfl ?_
        refine o_alloc rfl rfl (fun _ => ?_)
        refine oG (gA (evv rfl)) rfl rfl ?_
        refine o_storeW (evv rfl) (evv rfl) (by first | rfl | assumption | exact LenC.h _ | (simp [bys, *]; done) | fail) (by first | (intro _ _ _; exact bys_one _) | exact AllOne.h | (intro _ _ _ u hu; simp at hu; rcases hu with rfl | rfl | rfl | rfl | rfl | rfl | rfl | rfl <;> rfl) | fail) (by first | rfl | exact (LenC.h _).trans rfl | exact (LenC.h _).trans (LenC.h _).symm | (simp [bys, *]; done) | (simp only [bys, List.length_map, *]; rfl) | fail) ?_
        refine oG (gA (evv rfl)) rfl rfl ?_
        refine oN ?_
        refine cC ?_
        refine rS ?_
        refine rR (id := 28) ?_
        refine oG (gM (evv rfl)) rfl rfl ?_
        (refine o_call rfl _ (PickR.ent (K := blk _)) (rjOpen_ok _ _ _ _ _ (by assumption) (by first | assumption | omega) (by assumption)) rfl ?_; rintro _ _ ⟨qj, qv, ql, rfl, rfl, hql⟩)
        refine oG (gM (evv rfl)) rfl rfl ?_
        refine oG (g_extract (evv rfl) (by rfl)) rfl rfl ?_
        refine oG (g_extract (evv rfl) (by rfl)) rfl rfl ?_
        refine oG (gA (evv rfl)) rfl rfl ?_
        refine oG (gA (evv rfl)) rfl rfl ?_
        refine oN ?_
        refine cC ?_
        refine rS ?_
        refine rS ?_
        rename_i g
        repeat (first | refine rS ?_ | refine cC ?_ | refine c_blk ?_ | refine r_block ?_ | refine r_skip ?_)
        refine r_held (id := 29) ([blk g ⟨kC zk.view zk.normal zk.base zk.state ov, 28⟩, sl ov (entR zk.ents), rjo qj r zk qv, rom ql]) Mixed.h ?_
        refine h_give (i := 0) (by kernel_rfl) rfl (gM (evv rfl)) rfl rfl ?_
        refine h_give (i := 1) (by kernel_rfl) rfl (gM (evv rfl)) rfl rfl ?_
        refine h_give (i := 2) (by kernel_rfl) rfl (g_bin (evv rfl) (evv rfl) (by rfl)) rfl rfl ?_
        refine h_give (i := 3) (by kernel_rfl) rfl (gM (evv rfl)) rfl rfl ?_
        try simp only [decide_true, Bool.not_true]
        refine h_sure (i := 4) (by kernel_rfl) rfl rfl (gM (evv rfl)) rfl rfl ?_
        refine h_sure (i := 5) (by kernel_rfl) rfl rfl (gM (evv rfl)) rfl rfl ?_
        refine h_one (i := 6) (by kernel_rfl) rfl (Lay.ent) ?_
        refine o_gyes rfl ?_
        (refine o_call rfl _ ((PickR.ent (K := pt _)).trans ((Ent.cons (PickR.ent (K := blk _))).trans (Ent.perm (.swap _ _ _)))) (rjsame_c _ _ _ _ (by assumption)) rfl ?_; rintro _ _ ⟨rfl, rfl⟩)
        refine oN ?_
        refine h_sure (i := 7) (by kernel_rfl) rfl rfl (g_not (evv rfl)) rfl rfl ?_
        refine h_give (i := 8) (by kernel_rfl) rfl (g_pick (b := false) (evv rfl) (fun h => by cases h) (fun _ => (evv rfl))) rfl rfl ?_
        refine h_give (i := 9) (by kernel_rfl) rfl (gM (evv rfl)) rfl rfl ?_
        try simp only [decide_true, Bool.not_true, Bool.or_self]
        refine h_sure (i := 10) (by kernel_rfl) rfl rfl (gM (evv rfl)) rfl rfl ?_
        refine h_sure (i := 11) (by kernel_rfl) rfl rfl (g_bin (evv rfl) (evv rfl) (by rfl)) rfl rfl ?_
        refine h_sure (i := 12) (by kernel_rfl) rfl rfl (gM (evv rfl)) rfl rfl ?_
        try simp only [decide_true, Bool.not_true]
        refine h_sure (i := 13) (by kernel_rfl) rfl rfl (g_loadF (evv rfl) (by rfl) (by rfl)) rfl rfl ?_
        refine h_sure (i := 14) (by kernel_rfl) rfl rfl (gM (evv rfl)) rfl rfl ?_
        refine h_sure (i := 15) (by kernel_rfl) rfl rfl (g_nil (evv rfl)) rfl rfl ?_
        refine h_sure (i := 16) (by kernel_rfl) rfl rfl (g_fld (evv rfl)) rfl rfl ?_
        refine h_sure (i := 17) (by kernel_rfl) rfl rfl (g_loadF (evv rfl) (by rfl) (by rfl)) rfl rfl ?_
        refine h_one (i := 18) (by kernel_rfl) rfl (Lay.ent) ?_
        refine o_gyes rfl ?_
        (refine o_call rfl _ (Ent.refl _) (SameK_c _ _ _ _ _) rfl ?_; rintro _ _ ⟨rfl, hLz⟩; obtain rfl := hLz.symm; clear hLz)
        refine oN ?_
        refine h_sure (i := 19) (by kernel_rfl) rfl rfl (g_not (evv rfl)) rfl rfl ?_
        refine h_sure (i := 20) (by kernel_rfl) rfl rfl (g_pick (b := true) (evv rfl) (fun _ => (evv rfl)) (fun h => by cases h)) rfl rfl ?_
        refine h_give (i := 21) (by kernel_rfl) rfl (g_pick (b := false) (evv rfl) (fun h => by cases h) (fun _ => (evv rfl))) rfl rfl ?_
        refine h_done (by kernel_rfl) (Lay.ent) ?_
        simp only [show decide (zk = zk) = true from decide_eq_true rfl, Bool.not_true]
        refine cC ?_
        refine r_cond_false rfl ?_
        refine r_skip ?_
        refine cC ?_
        refine rS ?_
        refine rS ?_
        refine rR (id := 31) ?_
        refine oG (gM (evv rfl)) rfl rfl ?_
        refine oG (g_bin (evv rfl) (evv rfl) (by rfl)) rfl rfl ?_
        refine oN ?_
        refine cC ?_
        refine r_cond_false rfl ?_
        refine r_skip ?_
        refine cC ?_
        refine rS ?_
        refine rR (id := 33) ?_
        refine oG (gM (evv rfl)) rfl rfl ?_
        refine oG (gA (evv rfl)) rfl rfl ?_
        refine oN ?_
        refine cC ?_
        refine rR (id := 34) ?_
        refine oG (gM (evv rfl)) rfl rfl ?_
        refine oG (gA (evv rfl)) rfl rfl ?_
        refine oN ?_
        refine c_blk ?_
        refine cC ?_
        refine rR (id := 13) ?_
        refine oG (gM (evv rfl)) rfl rfl ?_
        refine o_giveN (g_bin (evv rfl) (evv rfl) (by rfl)) (by simp only [inR]; omega) rfl ?_
        refine oG (gA (evv rfl)) rfl rfl ?_
        refine oN ?_
        have hqr2 : Rd (rom ql :: [base W]) qv (entR zk.ents) := inferInstance
        refine c_loop (i + 1, zy, zk, oj, qj, qv, ql) ?_ ?_ (by repeat (first | exact trivial | refine ⟨rfl, ?_⟩ | refine envsub_v rfl (by first | rfl | (refine int_eq ?_; first | omega | (simp; omega) | (simp; done)) | (refine bool_eq ?_; first | (simp [*]; done) | (simp; done)) | (refine str_eq ?_; simp; done) | (refine ptr_eq ?_; omega) | fail) ?_)) ?_ <;> (try dsimp only)
        · exact ⟨by omega, by omega, hzyo, hzk, hzf, by omega, hqr2⟩
        · omega
        · exact Lay.ent
      · refine cC ?_
        refine rS ?_
        refine rR (id := 27) ?_
        refine oG (gM (evv rfl)) rfl rfl ?_
        (refine o_call rfl _ (PickR.ent (K := pt _)) (Open_er _ _ _ _ _ _ (by assumption) (by first | assumption | omega) (by assumption) (by assumption)) rfl ?_; rintro _ _ ⟨rfl, rfl⟩; dsimp only [openV])
        refine oG (gM (evv rfl)) rfl rfl ?_
        refine oG (g_extract (evv rfl) (by rfl)) rfl rfl ?_
        refine oG (g_extract (evv rfl) (by rfl)) rfl rfl ?_
        refine oG (g_extract (evv rfl) (by rfl)) rfl rfl ?_
        refine o_alloc rfl rfl (fun _ => ?_)
        refine oG (gA (evv rfl)) rfl rfl ?_
        refine o_storeW (evv rfl) (evv rfl) (by first | rfl | assumption | exact LenC.h _ | (simp [bys, *]; done) | fail) (by first | (intro _ _ _; exact bys_one _) | exact AllOne.h | (intro _ _ _ u hu; simp at hu; rcases hu with rfl | rfl | rfl | rfl | rfl | rfl | rfl | rfl <;> rfl) | fail) (by first | rfl | exact (LenC.h _).trans rfl | exact (LenC.h _).trans (LenC.h _).symm | (simp [bys, *]; done) | (simp only [bys, List.length_map, *]; rfl) | fail) ?_
        refine oG (gA (evv rfl)) rfl rfl ?_
        refine oN ?_
        refine cC ?_
        refine rS ?_
        refine rR (id := 28) ?_
        refine oG (gM (evv rfl)) rfl rfl ?_
        (refine o_call rfl _ (PickR.ent (K := blk _)) (rjOpen_er _ _ _ _ _ _ (by assumption) (by first | assumption | omega) (by assumption) (by assumption)) rfl ?_; rintro _ _ ⟨rfl, rfl⟩)
        refine oG (gM (evv rfl)) rfl rfl ?_
        refine oG (g_extract (evv rfl) (by rfl)) rfl rfl ?_
        refine oG (g_extract (evv rfl) (by rfl)) rfl rfl ?_
        refine oG (gA (evv rfl)) rfl rfl ?_
        refine oG (gA (evv rfl)) rfl rfl ?_
        refine oN ?_
        refine cC ?_
        refine rS ?_
        refine rS ?_
        repeat (first | refine rS ?_ | refine cC ?_ | refine c_blk ?_ | refine r_block ?_ | refine r_skip ?_)
        refine r_held (id := 29) ([rpo r zy]) Mixed.h ?_
        refine h_give (i := 0) (by kernel_rfl) rfl (gM (evv rfl)) rfl rfl ?_
        refine h_give (i := 1) (by kernel_rfl) rfl (gM (evv rfl)) rfl rfl ?_
        refine h_give (i := 2) (by kernel_rfl) rfl (g_bin (evv rfl) (evv rfl) (by rfl)) rfl rfl ?_
        refine h_give (i := 3) (by kernel_rfl) rfl (gM (evv rfl)) rfl rfl ?_
        try simp only [decide_true, Bool.not_true]
        refine h_sure (i := 4) (by kernel_rfl) rfl rfl (gM (evv rfl)) rfl rfl ?_
        refine h_sure (i := 5) (by kernel_rfl) rfl rfl (gM (evv rfl)) rfl rfl ?_
        refine h_one (i := 6) (by kernel_rfl) rfl (Lay.ent) ?_
        refine o_gyes rfl ?_
        (refine o_call rfl _ ((PickR.ent (K := pt _)).trans ((Ent.cons (PickR.ent (K := blk _))).trans (Ent.perm (.swap _ _ _)))) (rjsame_c _ _ _ _ (by assumption)) rfl ?_; rintro _ _ ⟨rfl, rfl⟩)
        refine oN ?_
        refine h_sure (i := 7) (by kernel_rfl) rfl rfl (g_not (evv rfl)) rfl rfl ?_
        refine h_give (i := 8) (by kernel_rfl) rfl (g_pick (b := false) (evv rfl) (fun h => by cases h) (fun _ => (evv rfl))) rfl rfl ?_
        refine h_give (i := 9) (by kernel_rfl) rfl (gM (evv rfl)) rfl rfl ?_
        try simp only [decide_true, Bool.not_true, Bool.or_self]
        refine h_sure (i := 10) (by kernel_rfl) rfl rfl (gM (evv rfl)) rfl rfl ?_
        refine h_sure (i := 11) (by kernel_rfl) rfl rfl (g_bin (evv rfl) (evv rfl) (by rfl)) rfl rfl ?_
        refine h_sure (i := 12) (by kernel_rfl) rfl rfl (gM (evv rfl)) rfl rfl ?_
        try simp only [decide_eq_false he]
        refine h_lazy (i := 13) (by kernel_rfl) rfl (v0 := undef) rfl (fun hg => absurd hg (by first | (simp; done) | fail)) rfl rfl ?_
        refine h_lazy (i := 14) (by kernel_rfl) rfl rfl (fun hg => gM (by first | exact evv rfl | exact evg rfl (by rw [hp]; rfl) | exact evg rfl hp | exact evg rfl hg | exact evg rfl (by first | (simp_all; done) | (simp [*]; done) | fail) | fail)) rfl rfl ?_
        refine h_lazy (i := 15) (by kernel_rfl) rfl (v0 := undef) rfl (fun hg => absurd hg (by first | (simp; done) | fail)) rfl rfl ?_
        refine h_lazy (i := 16) (by kernel_rfl) rfl (v0 := undef) rfl (fun hg => absurd hg (by first | (simp; done) | fail)) rfl rfl ?_
        refine h_lazy (i := 17) (by kernel_rfl) rfl (v0 := undef) rfl (fun hg => absurd hg (by first | (simp; done) | fail)) rfl rfl ?_
        refine h_one (i := 18) (by kernel_rfl) rfl (Lay.ent) ?_
        refine o_lazy (v0 := undef) rfl (fun hg => absurd hg (by first | (simp; done) | fail)) rfl rfl ?_
        refine oN ?_
        refine h_lazy (i := 19) (by kernel_rfl) rfl (v0 := undef) rfl (fun hg => absurd hg (by first | (simp; done) | fail)) rfl rfl ?_
        refine h_sure (i := 20) (by kernel_rfl) rfl rfl (g_pick (b := false) (evv rfl) (fun h => by cases h) (fun _ => (evv rfl))) rfl rfl ?_
        refine h_give (i := 21) (by kernel_rfl) rfl (g_pick (b := false) (evv rfl) (fun h => by cases h) (fun _ => (evv rfl))) rfl rfl ?_
        refine h_done (by kernel_rfl) (Lay.ent) ?_
        refine cC ?_
        refine r_cond_false rfl ?_
        refine r_skip ?_
        refine cC ?_
        refine rS ?_
        refine rS ?_
        refine rR (id := 31) ?_
        refine oG (gM (evv rfl)) rfl rfl ?_
        refine oG (g_bin (evv rfl) (evv rfl) (by rfl)) rfl rfl ?_
        refine oN ?_
        refine cC ?_
        refine r_cond rfl (fun hg => ?_) (fun hg => ?_) <;> (try simp only [decide_eq_true_eq, decide_eq_false_iff_not, Bool.and_eq_true, Bool.or_eq_true, Bool.not_eq_true', Bool.and_eq_false_iff, Bool.or_eq_false_iff, Bool.not_eq_false', Bool.not_eq_true, Bool.not_eq_false, Bool.true_eq_false, Bool.false_eq_true, Int.not_lt, Int.not_le, not_and, not_or, ne_eq] at hg)
        · refine rS ?_
          refine rR (id := 32) ?_
          refine oG (gM (evv rfl)) rfl rfl ?_
          refine oG (g_pnil TyU.h (evv rfl) (evv rfl) (by simp) (by rfl)) rfl rfl ?_
          refine oG (gA (evv rfl)) rfl rfl ?_
          refine oN ?_
          refine cC ?_
          first | refine r_ret (rs := [.tmp 2]) rfl rfl _ ((Lay.ent (L' := [base W]))) ?_ | refine c_end (rs := [.tmp 2]) rfl rfl _ ((Lay.ent (L' := [base W]))) ?_
          exact ⟨rfl, rfl⟩
        · exact absurd hg he
  · refine r_exit rfl ?_
    refine cC ?_
    refine rS ?_
    repeat (first | refine rS ?_ | refine cC ?_ | refine c_blk ?_ | refine r_block ?_ | refine r_skip ?_)
    refine r_held (id := 35) ([rjo q r k ve, rom rl]) Mixed.h ?_
    refine h_give (i := 0) (by kernel_rfl) rfl (gM (evv rfl)) rfl rfl ?_
    refine h_give (i := 2) (by kernel_rfl) rfl (gM (evv rfl)) rfl rfl ?_
    refine h_give (i := 3) (by kernel_rfl) rfl (g_nil (evv rfl)) rfl rfl ?_
    refine h_give (i := 4) (by kernel_rfl) rfl (g_fld (evv rfl)) rfl rfl ?_
    refine h_give (i := 5) (by kernel_rfl) rfl (g_loadF (evv rfl) (by rfl) (by rfl)) rfl rfl ?_
    refine h_one (i := 1) (by kernel_rfl) rfl (Lay.ent) ?_
    (refine o_call rfl _ (PickR.ent (K := jr _)) (Kept_c _ _ _ _ (by assumption)) rfl ?_; rintro _ _ ⟨kv, rfl, rfl⟩)
    refine oN ?_
    refine h_one (i := 6) (by kernel_rfl) rfl (Lay.ent) ?_
    (refine o_call rfl _ (Ent.refl _) (SameK_c _ _ _ _ _) rfl ?_; rintro _ _ ⟨rfl, hLz⟩; obtain rfl := hLz.symm; clear hLz)
    refine oN ?_
    refine h_give (i := 7) (by kernel_rfl) rfl (gA (evv rfl)) rfl rfl ?_
    refine h_done (by kernel_rfl) (Lay.ent) ?_
    refine cC ?_
    first | refine r_ret (rs := [.tmp 2]) rfl rfl _ ((Lay.ent (L' := [base W]))) ?_ | refine c_end (rs := [.tmp 2]) rfl rfl _ ((Lay.ent (L' := [base W]))) ?_
    refine ⟨?_, rfl⟩
    first | rfl | exact congrArg Value.bool (by simp)
end VK
