/-
  Tables of slots and of files, as plain functions of lists. No program in sight.
-/
import Derived.Test.YtfoliffeieeihaaGreatDoorMap
namespace Go.Proofs.YtfoliffeieeihaaGreatDoor
def eO (o : Ky) : List Value := [.int .i64 o.1, .int .i64 o.2.1, .int .u32 o.2.2]
theorem eO_ok : Enc 3 eO := ⟨fun _ => rfl, fun x v hv => by simp [eO] at hv; rcases hv with rfl | rfl | rfl <;> rfl⟩
theorem getD_some {α : Type} {l : List α} {i : Nat} {x d : α} (hx : l[i]? = some x) : l.getD i d = x := by simp [List.getD, hx]
end Go.Proofs.YtfoliffeieeihaaGreatDoor
