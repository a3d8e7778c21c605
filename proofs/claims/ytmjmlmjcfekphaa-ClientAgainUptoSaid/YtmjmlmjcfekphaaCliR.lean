/- How deeds are read. Conditions: none. -/
import Derived.Test.YtmjmlmjcfekphaaMsgR
import Derived.Test.YtmjmlmjcfekphaaCli15
namespace VK
open Go Go.Proofs
set_option linter.unusedSimpArgs false
set_option linter.unusedVariables false
set_option maxRecDepth 100000
set_option maxHeartbeats 40000000
abbrev DoX := DoF × List EntS × List (List UInt8)
structure DoW (W : World) (x : DoX) : Prop where
  kind : inR .i64 x.1.kind
  op : x.1.op.ok
  m : MsgW W (x.1.m, x.2)
theorem len_sum1 : ∀ l : List (List UInt8), l.length ≤ (l.map fun s => s.length + 1).sum
  | [] => by simp
  | a :: l => by have := len_sum1 l; simp only [List.map_cons, List.sum_cons, List.length_cons]; omega
theorem decOf39 (W : World) : Dec (fun {H} => @Go.Proofs.Ytmjmlmjcfekphaa.Rows.uptoBulk H) Try.prog W 39 (fun x : DoX => doC x.1) 54 (DoW W) (fun x => x.2.2.length) :=
  (Dec.struct bulkC Try.underlying39 (by kernel_rfl)
    (DecF.cons bulkC rfl (Dec.int bulkC Try.underlying3 (by kernel_rfl)) (DecF.cons bulkC rfl (decOpS bulkC W) (DecF.cons bulkC rfl (decOf37 W) DecF.nil)))).map
    (fun p => (⟨p.1, p.2.1, p.2.2.1.1⟩, p.2.2.1.2)) (fun d => LenC.h (f := doC) d.1)
    (fun c hc u hu => by
      have h1 := RdW_one hc.m.ents
      have h2 := RdW_one hc.m.names
      simp only [doC, msgC, opSC, List.mem_cons, List.mem_append, List.not_mem_nil, or_false] at hu
      rcases hu with rfl | (rfl | rfl | rfl | rfl | rfl | rfl) | rfl | rfl | rfl | rfl | rfl | rfl | rfl | rfl | hu | rfl | rfl | rfl | rfl | rfl | rfl | rfl
      all_goals first | rfl | exact h1 | exact h2 | exact bys_one _ _ hu)
    (fun p hp => by simp [doC])
    (fun p hp => ⟨hp.1, hp.2.1, hp.2.2.1⟩)
    (fun p => by
      have h2 := len_sum1 p.2.2.1.2.2
      simp only
      omega)
theorem le_sum' {α : Type} {f : α → Nat} : ∀ {l : List α} {a : α}, a ∈ l → f a ≤ (l.map f).sum
  | b :: l, a, h => by
    rcases List.mem_cons.1 h with rfl | h
    · simp
    · have := le_sum' (f := f) h; simp only [List.map_cons, List.sum_cons]; omega
theorem do_row {l : List DoX} : frow (fun x : DoX => doC x.1) 54 39 l = frow doC 54 39 (l.map (·.1)) := by
  simp [frow, List.flatMap_map]
theorem do_ok {W : World} {l : List DoX} (hok : ∀ x ∈ l, DoW W x) (hb : (l.map fun x => x.2.2.length).sum + 1 ≤ 1048576) : ∀ d ∈ l.map (·.1), DoOk W d := by
  intro d hd
  obtain ⟨x, hx, rfl⟩ := List.mem_map.1 hd
  have h := hok x hx
  have := le_sum' (f := fun x : DoX => x.2.2.length) hx
  have h3 : x.2.2.length ≤ 1048576 := by omega
  exact ⟨h.op, h.m.to_, ⟨_, rd_base h.m.ents⟩, ⟨_, rd_base h.m.names, h3⟩⟩
end VK
