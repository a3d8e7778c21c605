/- What is scanned, in plain lists. Conditions: none. -/
import Derived.Test.YtdgenjdphmclhaaLists
namespace VK
open Go Go.Proofs
set_option linter.unusedSimpArgs false
set_option linter.unusedVariables false
set_option maxRecDepth 100000
set_option maxHeartbeats 40000000
theorem next_frame {p r : List UInt8} (hp : p.length ≤ 262144) : nextR (frameB p ++ r) = (p, p.length + 8, 0) := by
  have hl := frame_len p
  have e4 : (fourB p.length).length = 4 := rfl
  have el : (fourB p.length ++ p).length = p.length + 4 := by rw [List.length_append, e4]; omega
  have hf : unfourB (frameB p ++ r) = p.length := by rw [frameB, List.append_assoc, List.append_assoc]; exact unfour_four (by omega) _
  have ht : (frameB p ++ r).take (p.length + 4) = fourB p.length ++ p := by rw [frameB, List.append_assoc, ← el, List.take_left]
  have hd : (frameB p ++ r).drop (p.length + 4) = fourB (crc (fourB p.length ++ p)) ++ r := by rw [frameB, List.append_assoc, ← el, List.drop_left]
  have h4 : (frameB p ++ r).drop 4 = p ++ (fourB (crc (fourB p.length ++ p)) ++ r) := by rw [frameB, List.append_assoc, List.append_assoc, ← e4, List.drop_left]
  have hlen : (frameB p ++ r).length = p.length + 8 + r.length := by rw [List.length_append, hl]
  unfold nextR
  rw [hf, ht, hd, h4, unfour_four (crc_lt _), List.take_left, if_neg (by omega), if_neg (by omega), if_neg (by omega), if_neg (fun h => h rfl)]
/-- the payloads of the frames at the beginning, and how many bytes they have -/
def scanF : Nat → List UInt8 → List (List UInt8) × Nat
  | 0, _ => ([], 0)
  | k + 1, b => if (nextR b).2.2 ≠ 0 then ([], 0) else ((nextR b).1 :: (scanF k (b.drop (nextR b).2.1)).1, (nextR b).2.1 + (scanF k (b.drop (nextR b).2.1)).2)
end VK
