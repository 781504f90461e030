/-
  A part of a string. No program in sight.
-/
import Derived.Test.YtfoliffeieeihaaGreatDoorSrg
import Derived.Test.YtfoliffeieeihaaGreatDoorMod
import Derived.Test.YtfoliffeieeihaaGreatDoorStr
namespace Go.Proofs.YtfoliffeieeihaaGreatDoor
open Go.RowKit
theorem law_strPart {P : Program} {n : Nat} {l : Fr} {o : Oper} {L : List UInt8} {t : Nat} {x y q : Operand} (ho : o.op = .slice t x (some y) (some q) none) (ht : P.underlying t = some .string) (hx : fe n l x = .string (St L)) {z u : Int} (hy : fe n l y = .int .i64 z) (hq : fe n l q = .int .i64 u) (k m : Nat) (hz : z = (k : Int)) (hu : u = (m : Int)) (hk : k ≤ m) (hm : m ≤ L.length) (w : World) :
    (execOp (fe n l) o).run P w = .ok (.value (.string (St ((L.take m).drop k)))) w := by
  subst hz
  subst hu
  have he : (St L).extract k m = St ((L.take m).drop k) := by rw [st_ext]
  simp [execOp, ho, hx, hy, hq, Instr.sliceAt, Instr.slice, run_underlying ht, Instr.sliceBounds, Instr.sliceBound, asIntOf, hk, hm, he, st_size]
theorem quo_u64 {a b : Int} (ha : 0 ≤ a) (hb : 1 ≤ b) (hm : a ≤ 18446744073709551615) : IntKind.wrap .u64 (a.tdiv b) = a / b := by
  have h := quo_bd ha hb
  rw [Int.tdiv_eq_ediv_of_nonneg ha, wrap_in .u64 _ (by simp [IntKind.min, IntKind.signed, IntKind.bits]; omega) (by simp [IntKind.max, IntKind.signed, IntKind.bits]; omega)]
theorem cell_bts {P : Program} {n : Nat} {l : Fr} {o : Oper} {src dst e r m : Nat} {x : Operand} {b : UInt8} (ho : o.op = .convert src dst x) (hs : P.underlying src = some (.slice e)) (he : P.underlying e = some (.int .u8)) (hd : P.underlying dst = some .string)
    (hx : fe n l x = .slice (some ⟨r, 0, none⟩) 1 m) (w : World) (hc : w.cell? ⟨r, 0, none⟩ = some (.int .u8 (b.toNat : Int))) : (execOp (fe n l) o).run P w = .ok (.value (.string (St [b]))) w := by
  have hld : (loadCells ⟨r, 0, none⟩ 1).run P w = .ok (([b].map fun b => (b.toNat : Int)).map (Value.int .u8)).toArray w := by
    have := run_loadCells_list (P := P) w ⟨r, 0, none⟩ [Value.int .u8 (b.toNat : Int)] (fun k v hk => by
      cases k with
      | zero =>
        simp only [List.getElem?_cons_zero, Option.some.injEq] at hk
        rw [← hk]
        exact hc
      | succ k => simp at hk)
    exact this
  have hr := run_bytesToString (P := P) w ⟨r, 0, none⟩ 1 m _ hld
  rw [push_all] at hr
  unfold execOp
  simp [ho, hx, run_convert_bytes_string w src dst e _ 1 m hs he hd, hr]
end Go.Proofs.YtfoliffeieeihaaGreatDoor
