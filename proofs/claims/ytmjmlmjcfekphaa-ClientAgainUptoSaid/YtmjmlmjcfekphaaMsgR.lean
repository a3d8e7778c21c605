/- How digests, entries and messages are read. Conditions: none. -/
import Derived.Test.YtmjmlmjcfekphaaResR
import Derived.Test.YtmjmlmjcfekphaaMsg
namespace VK
open Go Go.Proofs
set_option linter.unusedSimpArgs false
set_option linter.unusedVariables false
set_option maxRecDepth 100000
set_option maxHeartbeats 40000000
def ofV : Value → UInt8
  | .int _ z => UInt8.ofNat z.toNat
  | _ => 0
theorem trod_arr {H : Type} {enc : TypeId × Value → H} {P : Program} {w : World} {bs : Nat} {sp : Nat → Bool} {held : Bool} {fuel : Nat} {t : TypeId} {cs : List Value} {x : DataW H × List MemPlace} {n : Nat} {e : TypeId} (ht : P.underlying t = some (.array n e)) (h : DataW.trod enc P w bs sp held fuel t cs = some x) :
    ∃ (xs : List (DataW H × List MemPlace)) (m : Nat), fuel = m + 1 ∧ x = (.agg (xs.map (·.1)), xs.flatMap (·.2)) ∧ cs.length = P.cellsOf t ∧ xs.length = n ∧
      ∀ (i : Nat), i < n → DataW.trod enc P w bs sp held m e ((cs.drop (i * P.cellsOf e)).take (P.cellsOf e)) = xs[i]? := by
  cases fuel with
  | zero => simp [DataW.trod] at h
  | succ m =>
    unfold DataW.trod at h
    rw [ht] at h
    split at h <;> simp_all
    obtain ⟨hl, xs, hp, hd⟩ := h
    exact ⟨xs, hd.symm, by simpa using mapM_some_length hp, fun i hi => mapM_some_get hp i i (by simp [hi])⟩
theorem decDig {B : {H : Type} → DataW H → Nat} {P : Program} {W : World} {t e : TypeId} (ht : P.underlying t = some (.array 32 e)) (hs : P.cellsOf t = 32) (te : P.underlying e = some (.int .u8)) (hes : P.cellsOf e = 1) :
    Dec B P W t (fun d : Dig => bys d.1) 32 (fun _ => True) (fun _ => 0) where
  size := hs
  len d := by simp [bys, d.2]
  one d _ := bys_one d.1
  dec {H} enc fuel cs x h := by
    obtain ⟨xs, m, rfl, rfl, hl, hxl, hx⟩ := trod_arr ht h
    rw [hs] at hl
    have key : ∀ u ∈ cs, by8 (ofV u) = u := by
      intro u hu
      obtain ⟨i, hi, rfl⟩ := List.getElem_of_mem hu
      have h1 := hx i (by omega)
      rw [hes, Nat.mul_one, List.getElem?_eq_getElem (by omega)] at h1
      have h2 : (cs.drop i).take 1 = [cs[i]] := by
        rw [List.drop_eq_getElem_cons hi]; rfl
      rw [h2] at h1
      obtain ⟨z, hz, _, hw⟩ := DataW.trod_int te h1
      have hz : cs[i] = .int .u8 z := by simpa using hz
      rw [hz]
      simp only [ofV]
      simp only [Lit.wf, Bool.and_eq_true, decide_eq_true_eq] at hw
      simp [IntKind.min, IntKind.max, IntKind.bits, IntKind.signed] at hw
      exact by8_of (by omega) (by omega)
    refine ⟨⟨cs.map ofV, by simp [hl]⟩, ?_, trivial, Nat.zero_le _⟩
    show cs = (cs.map ofV).map by8
    rw [List.map_map]
    conv => lhs; rw [← List.map_id cs]
    exact List.map_congr_left fun u hu => (key u hu).symm
def EntS.ok (e : EntS) : Prop := inR .i64 e.client ∧ inR .i64 e.number ∧ e.op.ok
theorem decOf58 (W : World) : Dec (fun {H} => @Go.Proofs.Ytmjmlmjcfekphaa.Rows.uptoBulk H) Try.prog W 58 entC 8 EntS.ok (fun e => e.op.wt) :=
  (Dec.struct bulkC Try.underlying58 (by kernel_rfl)
    (DecF.cons bulkC rfl (Dec.int bulkC Try.underlying3 (by kernel_rfl)) (DecF.cons bulkC rfl (Dec.int bulkC Try.underlying2 (by kernel_rfl)) (DecF.cons bulkC rfl (decOpS bulkC W) DecF.nil)))).map
    (fun p => ⟨p.1, p.2.1, p.2.2.1⟩) (fun _ => rfl)
    (fun c hc u hu => (AllOne.h (L := []) (vs := entC c)) W W ⟨rfl, rfl, rfl, trivial⟩ u hu)
    (fun p hp => by simp [entC])
    (fun p hp => ⟨hp.1, hp.2.1, hp.2.2.1⟩)
    (fun p => by simp only; omega)
/-- a message with what its lists read -/
abbrev MsgX := MsgF × List EntS × List (List UInt8)
structure MsgW (W : World) (x : MsgX) : Prop where
  kind : inR .i64 x.1.kind
  from_ : inR .i64 x.1.from_
  to_ : inR .i64 x.1.to_
  view : inR .i64 x.1.view
  normal : inR .i64 x.1.normal
  last : inR .i64 x.1.last
  commit : inR .i64 x.1.commit
  behind : inR .i64 x.1.behind
  ents : RdW W x.1.ents (entR x.2.1)
  names : RdW W x.1.names (mrow str 9 x.2.2)
  oks : ∀ e ∈ x.2.1, e.ok
  data : x.1.data.length ≤ maxLen
  rdata : x.1.rdata.length ≤ maxLen
theorem decOf37 (W : World) : Dec (fun {H} => @Go.Proofs.Ytmjmlmjcfekphaa.Rows.uptoBulk H) Try.prog W 37 (fun x : MsgX => msgC x.1) 47 (MsgW W) (fun x => (x.2.1.map fun e => e.op.wt).sum + (x.2.2.map fun s => s.length + 1).sum) :=
  (Dec.struct bulkC Try.underlying37 (by kernel_rfl)
    (DecF.cons bulkC rfl (Dec.int bulkC Try.underlying3 (by kernel_rfl)) (DecF.cons bulkC rfl (Dec.int bulkC Try.underlying3 (by kernel_rfl)) (DecF.cons bulkC rfl (Dec.int bulkC Try.underlying3 (by kernel_rfl))
    (DecF.cons bulkC rfl (Dec.int bulkC Try.underlying2 (by kernel_rfl)) (DecF.cons bulkC rfl (Dec.int bulkC Try.underlying2 (by kernel_rfl)) (DecF.cons bulkC rfl (Dec.int bulkC Try.underlying2 (by kernel_rfl))
    (DecF.cons bulkC rfl (Dec.int bulkC Try.underlying2 (by kernel_rfl)) (DecF.cons bulkC rfl (Dec.int bulkC Try.underlying2 (by kernel_rfl))
    (DecF.cons bulkC rfl (decDig Try.underlying31 (by kernel_rfl) Try.underlying5 (by kernel_rfl))
    (DecF.cons bulkC rfl (Dec.slice bulkC Try.underlying32 (by kernel_rfl) (by decide) (decOf58 W))
    (DecF.cons bulkC rfl (Dec.str bulkC Try.underlying9 (by kernel_rfl))
    (DecF.cons bulkC rfl (decOf35 W) DecF.nil))))))))))))).map
    (fun p => (⟨p.1, p.2.1, p.2.2.1, p.2.2.2.1, p.2.2.2.2.1, p.2.2.2.2.2.1, p.2.2.2.2.2.2.1, p.2.2.2.2.2.2.2.1, p.2.2.2.2.2.2.2.2.1, p.2.2.2.2.2.2.2.2.2.1.1, p.2.2.2.2.2.2.2.2.2.2.1,
      p.2.2.2.2.2.2.2.2.2.2.2.1.1.code, p.2.2.2.2.2.2.2.2.2.2.2.1.1.dir, p.2.2.2.2.2.2.2.2.2.2.2.1.1.size, p.2.2.2.2.2.2.2.2.2.2.2.1.1.data, p.2.2.2.2.2.2.2.2.2.2.2.1.2⟩,
      p.2.2.2.2.2.2.2.2.2.1.2, p.2.2.2.2.2.2.2.2.2.2.2.1.1.names)) (fun _ => msgC_len _)
    (fun c hc u hu => by
      have h1 := RdW_one hc.ents
      have h2 := RdW_one hc.names
      simp only [msgC, List.mem_cons, List.mem_append, List.not_mem_nil, or_false] at hu
      rcases hu with rfl | rfl | rfl | rfl | rfl | rfl | rfl | rfl | hu | rfl | rfl | rfl | rfl | rfl | rfl | rfl
      all_goals first | rfl | exact h1 | exact h2 | exact bys_one _ _ hu)
    (fun p hp => by simp [msgC])
    (fun p hp => by
      obtain ⟨h0, h1, h2, h3, h4, h5, h6, h7, _, ⟨h8, h9⟩, h10, ⟨h11, h12⟩, _⟩ := hp
      exact ⟨h0, h1, h2, h3, h4, h5, h6, h7, h8, h12, h9, h10, h11.2.2.1⟩)
    (fun p => by simp only; omega)
end VK
