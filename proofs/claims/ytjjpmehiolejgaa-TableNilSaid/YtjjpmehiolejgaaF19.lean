/- Walks, printed by my generator gen19.py. -/
import Derived.Test.YtjjpmehiolejgaaF18
namespace Go.Proofs.Ytjjpmehiolejgaa
theorem seq34_neq_t {n : Nat} {l : Fr} {o : Oper} {x y : Operand} (a0 : Int) (a1 : Int) (c0 : Int) (c1 : Int) (ho : o.op = .binOp .neq 34 x y 34) (hx : fe n l x = .agg #[.int .i64 a0, .int .u32 a1]) (hy : fe n l y = .agg #[.int .i64 c0, .int .u32 c1]) (h : a0 = c0 ∧ a1 = c1) (w : World) : (execOp (fe n l) o).run Try.prog w = .ok (.value (.bool false)) w := by
  obtain ⟨rfl, rfl⟩ := h
  simp [execOp, ho, hx, hy, go_sem]
theorem seq42_neq_t {n : Nat} {l : Fr} {o : Oper} {x y : Operand} (a0 : Int) (a1 : Int) (a2 : Int) (a3 : Int) (a4 : Int) (a5 : Int) (a6 : Int) (a7 : List UInt8) (c0 : Int) (c1 : Int) (c2 : Int) (c3 : Int) (c4 : Int) (c5 : Int) (c6 : Int) (c7 : List UInt8) (ho : o.op = .binOp .neq 42 x y 42) (hx : fe n l x = .agg #[.int .i64 a0, .int .i64 a1, .int .u32 a2, .int .i64 a3, .int .i64 a4, .int .i64 a5, .int .i64 a6, .string (St a7)]) (hy : fe n l y = .agg #[.int .i64 c0, .int .i64 c1, .int .u32 c2, .int .i64 c3, .int .i64 c4, .int .i64 c5, .int .i64 c6, .string (St c7)]) (h : a0 = c0 ∧ a1 = c1 ∧ a2 = c2 ∧ a3 = c3 ∧ a4 = c4 ∧ a5 = c5 ∧ a6 = c6 ∧ a7 = c7) (w : World) : (execOp (fe n l) o).run Try.prog w = .ok (.value (.bool false)) w := by
  obtain ⟨rfl, rfl, rfl, rfl, rfl, rfl, rfl, rfl⟩ := h
  simp [execOp, ho, hx, hy, go_sem]
set_option maxHeartbeats 4000000 in
theorem short_t (b : Nat) (do_ ox oy oz hx hy dx dy dz vn rx ry rz rs rw rt rn : Int) (T1 T2 : List UInt8) (h1 : T1.length ≤ 60) (h2 : T2.length ≤ 60) : HT Try.prog 33 [Value.slice (some ⟨b, 0, none⟩) 1 1, Value.int IntKind.i64 1] [Cl b [Value.int IntKind.i64 do_, Value.int IntKind.i64 ox, Value.int IntKind.i64 oy, Value.int IntKind.u32 oz, Value.string (St T1), Value.int IntKind.i64 hx, Value.int IntKind.u32 hy, Value.int IntKind.i64 dx, Value.int IntKind.i64 dy, Value.int IntKind.u32 dz, Value.int IntKind.i64 vn, Value.int IntKind.i64 rx, Value.int IntKind.i64 ry, Value.int IntKind.u32 rz, Value.int IntKind.i64 rs, Value.int IntKind.i64 rw, Value.int IntKind.i64 rt, Value.int IntKind.i64 rn, Value.string (St T2)] 69] (fun v K => v = Value.bool true ∧ K = [Cl b [Value.int IntKind.i64 do_, Value.int IntKind.i64 ox, Value.int IntKind.i64 oy, Value.int IntKind.u32 oz, Value.string (St T1), Value.int IntKind.i64 hx, Value.int IntKind.u32 hy, Value.int IntKind.i64 dx, Value.int IntKind.i64 dy, Value.int IntKind.u32 dz, Value.int IntKind.i64 vn, Value.int IntKind.i64 rx, Value.int IntKind.i64 ry, Value.int IntKind.u32 rz, Value.int IntKind.i64 rs, Value.int IntKind.i64 rw, Value.int IntKind.i64 rt, Value.int IntKind.i64 rn, Value.string (St T2)] 69]) := by
  refine hi_in 33 ([(0, .slice (some ⟨b, 0, none⟩) 1 1), (1, iV 1)] : Fr) Try.func33 (by kernel_rfl) Try.ntmps33 rfl rfl ?_
  intro g w0 R h0
  change WP _ _ (CA Try.f33 []) _ _ _
  refine zSq (by kernel_rfl) ?_
  refine zPl [0] (by kernel_rfl) ?_
  refine zB0 [] [0] [(4, .bool false)] (by kernel_rfl) ?_
  refine PO.mk ?_
  change WP _ _ (CA Try.f33 [1]) _ _ _
  refine fk_cut ([(0, .slice (some ⟨b, 0, none⟩) 1 1), (1, iV 1)] : Fr) (by kernel_rfl) (fun a => WP _ _ _ _ a _) (fun lr1 => ?_)
  refine zSq (by kernel_rfl) ?_
  refine zSq (by kernel_rfl) ?_
  refine zPl [0, 1, 2, 3] (by kernel_rfl) ?_
  refine zBb [] [(9, .bool false), (8, iV 1), (7, iV 1), (6, .slice (some ⟨b, 0, none⟩) 1 1)] [⟨0, [], none⟩, ⟨1, [], some (iV 1)⟩, ⟨2, [], none⟩, ⟨3, [], none⟩] [] [(iV ((1 : Nat) : Int), iV 1)] (by kernel_rfl) ⟨(ov_int (by omega)), trivial⟩ (AllC_nil _) ?_
  refine PO.mk ?_
  change WP _ _ (CA Try.f33 [1, 0, 1]) _ _ _
  refine fk_cut ([(0, .slice (some ⟨b, 0, none⟩) 1 1), (9, .bool false)] : Fr) (by kernel_rfl) (fun a => WP _ _ _ _ a _) (fun lr2 => ?_)
  refine zCf (by kernel_rfl) ?_
  refine gi_skp (by kernel_rfl) ?_
  change WP _ _ (CA Try.f33 [1, 1]) _ _ _
  refine zSq (by kernel_rfl) ?_
  refine zSq (by kernel_rfl) ?_
  refine zPl [0] (by kernel_rfl) ?_
  refine zB0 [] [0] [(5, iV 0)] (by kernel_rfl) ?_
  refine PO.mk ?_
  change WP _ _ (CA Try.f33 [1, 1, 0, 1]) _ _ _
  refine fk_cut ([(0, .slice (some ⟨b, 0, none⟩) 1 1), (5, iV 0)] : Fr) (by kernel_rfl) (fun a => WP _ _ _ _ a _) (fun lr3 => ?_)
  refine gi_blk (id := 0) (x := CA Try.f33 [1, 1, 0, 1, 0]) (by kernel_rfl) ?_
  refine gi_unr (x := CA Try.f33 [1, 1, 0, 1, 0, 0]) 2 (by kernel_rfl) ?_
  change WP _ _ (CA Try.f33 [1, 1, 0, 1, 0, 0]) _ _ _
  refine zSq (by kernel_rfl) ?_
  refine zSq (by kernel_rfl) ?_
  refine zPl [0, 1, 2, 3] (by kernel_rfl) ?_
  refine zBb [] [(13, .bool true), (12, iV 1), (11, .slice (some ⟨b, 0, none⟩) 1 1), (10, iV 0)] [⟨0, [], none⟩, ⟨1, [], none⟩, ⟨2, [], some (iV 1)⟩, ⟨3, [], none⟩] [] [(iV ((1 : Nat) : Int), iV 1)] (by kernel_rfl) ⟨(ov_int (by omega)), trivial⟩ (AllC_nil _) ?_
  refine PO.mk ?_
  change WP _ _ (CA Try.f33 [1, 1, 0, 1, 0, 0, 0, 1]) _ _ _
  refine fk_cut ([(0, .slice (some ⟨b, 0, none⟩) 1 1), (5, iV 0), (13, .bool true)] : Fr) (by kernel_rfl) (fun a => WP _ _ _ _ a _) (fun lr4 => ?_)
  refine zCt (by kernel_rfl) ?_
  refine gi_skp (by kernel_rfl) ?_
  change WP _ _ (CA Try.f33 [1, 1, 0, 1, 0, 0, 1]) _ _ _
  refine zSq (by kernel_rfl) ?_
  refine gi_blk (id := 1) (x := CA Try.f33 [1, 1, 0, 1, 0, 0, 1, 0, 0]) (by kernel_rfl) ?_
  refine zSq (by kernel_rfl) ?_
  refine zPl [0, 1, 2, 3, 4, 5, 6, 7, 8, 9, 10, 11, 12, 13, 14, 15, 16] (by kernel_rfl) ?_
  refine zB0 [2, 3, 4, 5, 6, 7, 8, 9, 10, 11, 12, 13, 14, 15, 16] [0, 1] [(17, iV 0), (16, .slice (some ⟨b, 0, none⟩) 1 1)] (by kernel_rfl) ?_
  refine plain_law (i := 2) 18 (pV b) (by kernel_rfl) (law_indexSl (o := opA (RA Try.f33 [1, 1, 0, 1, 0, 0, 1, 0, 0, 0]) 2) (x := (Operand.tmp 16)) (i := (Operand.tmp 17)) (b := b) (off := 0) (z := 0) (len := 1) (cap := 1) (by kernel_rfl) Try.underlying71 19 (by kernel_rfl) 0 (by kernel_rfl) (by kernel_rfl) (by omega) (by omega) 0 (by omega) _) ?_
  refine zBb [10, 11, 12, 13, 14, 15, 16] [(25, iV 0), (24, .slice (some ⟨b, 0, none⟩) 1 1), (23, .bool false), (22, .bool false), (21, iV (((T1.length : Nat) : Int))), (20, .string (St T1)), (19, .pointer (some ⟨b, 4, none⟩))] [⟨3, [], none⟩, ⟨4, [.string (St T1)], none⟩, ⟨5, [], some (iV (((T1.length : Nat) : Int)))⟩, ⟨6, [], some (.bool false)⟩, ⟨7, [], none⟩, ⟨8, [], none⟩, ⟨9, [], none⟩] [(4, ⟨b, 4, none⟩, .string (St T1))] [(iV ((St T1).size : Int), iV (((T1.length : Nat) : Int))), (.bool (decide (((T1.length : Nat) : Int) > 60)), .bool false)] (by kernel_rfl) ⟨(ov_int (st_len _)), (ov_f (by omega)), trivial⟩ (AllC_cons (sat_cell h0 0 rfl rfl) (AllC_nil _)) ?_
  refine plain_law (i := 10) 26 (pV b) (by kernel_rfl) (law_indexSl (o := opA (RA Try.f33 [1, 1, 0, 1, 0, 0, 1, 0, 0, 0]) 10) (x := (Operand.tmp 24)) (i := (Operand.tmp 25)) (b := b) (off := 0) (z := 0) (len := 1) (cap := 1) (by kernel_rfl) Try.underlying71 19 (by kernel_rfl) 0 (by kernel_rfl) (by kernel_rfl) (by omega) (by omega) 0 (by omega) _) ?_
  refine zBb [] [(32, .bool false), (31, .bool false), (30, iV (((T2.length : Nat) : Int))), (29, .string (St T2)), (28, .pointer (some ⟨b, 18, none⟩)), (27, .pointer (some ⟨b, 11, none⟩))] [⟨11, [], none⟩, ⟨12, [], none⟩, ⟨13, [.string (St T2)], none⟩, ⟨14, [], some (iV (((T2.length : Nat) : Int)))⟩, ⟨15, [], some (.bool false)⟩, ⟨16, [], none⟩] [(13, ⟨b, 18, none⟩, .string (St T2))] [(iV ((St T2).size : Int), iV (((T2.length : Nat) : Int))), (.bool (decide (((T2.length : Nat) : Int) > 60)), .bool false)] (by kernel_rfl) ⟨(ov_int (st_len _)), (ov_f (by omega)), trivial⟩ (AllC_cons (sat_cell h0 0 rfl rfl) (AllC_nil _)) ?_
  refine PO.mk ?_
  change WP _ _ (CA Try.f33 [1, 1, 0, 1, 0, 0, 1, 0, 0, 1]) _ _ _
  refine fk_cut ([(0, .slice (some ⟨b, 0, none⟩) 1 1), (5, iV 0), (32, .bool false)] : Fr) (by kernel_rfl) (fun a => WP _ _ _ _ a _) (fun lr5 => ?_)
  refine zCf (by kernel_rfl) ?_
  refine gi_skp (by kernel_rfl) ?_
  change WP _ _ (CA Try.f33 [1, 1, 0, 1, 0, 0, 1, 1]) _ _ _
  refine zPl [0, 1, 2] (by kernel_rfl) ?_
  refine zB0 [] [0, 1, 2] [(5, iV 1), (15, iV 1), (14, iV 0)] (by kernel_rfl) ?_
  refine PO.mk ?_
  change WP _ _ (CA Try.f33 [1, 1, 0, 1, 0, 0]) _ _ _
  refine fk_cut ([(0, .slice (some ⟨b, 0, none⟩) 1 1), (5, iV 1), (32, .bool false)] : Fr) (by kernel_rfl) (fun a => WP _ _ _ _ a _) (fun lr6 => ?_)
  refine zSq (by kernel_rfl) ?_
  refine zSq (by kernel_rfl) ?_
  refine zPl [0, 1, 2, 3] (by kernel_rfl) ?_
  refine zBb [] [(13, .bool false), (12, iV 1), (11, .slice (some ⟨b, 0, none⟩) 1 1), (10, iV 1)] [⟨0, [], none⟩, ⟨1, [], none⟩, ⟨2, [], some (iV 1)⟩, ⟨3, [], none⟩] [] [(iV ((1 : Nat) : Int), iV 1)] (by kernel_rfl) ⟨(ov_int (by omega)), trivial⟩ (AllC_nil _) ?_
  refine PO.mk ?_
  change WP _ _ (CA Try.f33 [1, 1, 0, 1, 0, 0, 0, 1]) _ _ _
  refine fk_cut ([(0, .slice (some ⟨b, 0, none⟩) 1 1), (5, iV 1), (13, .bool false)] : Fr) (by kernel_rfl) (fun a => WP _ _ _ _ a _) (fun lr7 => ?_)
  refine zCf (by kernel_rfl) ?_
  refine gi_ext (id := 0) (by kernel_rfl) ?_
  change WP _ _ (CA Try.f33 [1, 1, 1]) _ _ _
  refine zSq (by kernel_rfl) ?_
  refine zPl [0] (by kernel_rfl) ?_
  refine zB0 [] [0] [(4, .bool true)] (by kernel_rfl) ?_
  refine PO.mk ?_
  change WP _ _ (CA Try.f33 [1, 1, 1, 1]) _ _ _
  refine fk_cut ([(4, .bool true)] : Fr) (by kernel_rfl) (fun a => WP _ _ _ _ a _) (fun lr8 => ?_)
  refine gi_rt (by kernel_rfl) ?_
  repeat (first | simp only [Exit.inBlock] | simp only [Exit.then])
  refine hi_out [] (.bool true) [] (by kernel_rfl) (by intro q hq; cases hq) ?_
  exact ⟨.bool true, [Cl b [iV do_, iV ox, iV oy, uV oz, .string (St T1), iV hx, uV hy, iV dx, iV dy, uV dz, iV vn, iV rx, iV ry, uV rz, iV rs, iV rw, iV rt, iV rn, .string (St T2)] 69], rfl, ⟨rfl, rfl⟩, h0⟩

set_option maxHeartbeats 4000000 in
theorem short_f (b : Nat) (do_ ox oy oz hx hy dx dy dz vn rx ry rz rs rw rt rn : Int) (T1 T2 : List UInt8) (h1 : 60 < T1.length) : HT Try.prog 33 [Value.slice (some ⟨b, 0, none⟩) 1 1, Value.int IntKind.i64 1] [Cl b [Value.int IntKind.i64 do_, Value.int IntKind.i64 ox, Value.int IntKind.i64 oy, Value.int IntKind.u32 oz, Value.string (St T1), Value.int IntKind.i64 hx, Value.int IntKind.u32 hy, Value.int IntKind.i64 dx, Value.int IntKind.i64 dy, Value.int IntKind.u32 dz, Value.int IntKind.i64 vn, Value.int IntKind.i64 rx, Value.int IntKind.i64 ry, Value.int IntKind.u32 rz, Value.int IntKind.i64 rs, Value.int IntKind.i64 rw, Value.int IntKind.i64 rt, Value.int IntKind.i64 rn, Value.string (St T2)] 69] (fun v K => v = Value.bool false ∧ K = [Cl b [Value.int IntKind.i64 do_, Value.int IntKind.i64 ox, Value.int IntKind.i64 oy, Value.int IntKind.u32 oz, Value.string (St T1), Value.int IntKind.i64 hx, Value.int IntKind.u32 hy, Value.int IntKind.i64 dx, Value.int IntKind.i64 dy, Value.int IntKind.u32 dz, Value.int IntKind.i64 vn, Value.int IntKind.i64 rx, Value.int IntKind.i64 ry, Value.int IntKind.u32 rz, Value.int IntKind.i64 rs, Value.int IntKind.i64 rw, Value.int IntKind.i64 rt, Value.int IntKind.i64 rn, Value.string (St T2)] 69]) := by
  refine hi_in 33 ([(0, .slice (some ⟨b, 0, none⟩) 1 1), (1, iV 1)] : Fr) Try.func33 (by kernel_rfl) Try.ntmps33 rfl rfl ?_
  intro g w0 R h0
  change WP _ _ (CA Try.f33 []) _ _ _
  refine zSq (by kernel_rfl) ?_
  refine zPl [0] (by kernel_rfl) ?_
  refine zB0 [] [0] [(4, .bool false)] (by kernel_rfl) ?_
  refine PO.mk ?_
  change WP _ _ (CA Try.f33 [1]) _ _ _
  refine fk_cut ([(0, .slice (some ⟨b, 0, none⟩) 1 1), (1, iV 1)] : Fr) (by kernel_rfl) (fun a => WP _ _ _ _ a _) (fun lr1 => ?_)
  refine zSq (by kernel_rfl) ?_
  refine zSq (by kernel_rfl) ?_
  refine zPl [0, 1, 2, 3] (by kernel_rfl) ?_
  refine zBb [] [(9, .bool false), (8, iV 1), (7, iV 1), (6, .slice (some ⟨b, 0, none⟩) 1 1)] [⟨0, [], none⟩, ⟨1, [], some (iV 1)⟩, ⟨2, [], none⟩, ⟨3, [], none⟩] [] [(iV ((1 : Nat) : Int), iV 1)] (by kernel_rfl) ⟨(ov_int (by omega)), trivial⟩ (AllC_nil _) ?_
  refine PO.mk ?_
  change WP _ _ (CA Try.f33 [1, 0, 1]) _ _ _
  refine fk_cut ([(0, .slice (some ⟨b, 0, none⟩) 1 1), (9, .bool false)] : Fr) (by kernel_rfl) (fun a => WP _ _ _ _ a _) (fun lr2 => ?_)
  refine zCf (by kernel_rfl) ?_
  refine gi_skp (by kernel_rfl) ?_
  change WP _ _ (CA Try.f33 [1, 1]) _ _ _
  refine zSq (by kernel_rfl) ?_
  refine zSq (by kernel_rfl) ?_
  refine zPl [0] (by kernel_rfl) ?_
  refine zB0 [] [0] [(5, iV 0)] (by kernel_rfl) ?_
  refine PO.mk ?_
  change WP _ _ (CA Try.f33 [1, 1, 0, 1]) _ _ _
  refine fk_cut ([(0, .slice (some ⟨b, 0, none⟩) 1 1), (5, iV 0)] : Fr) (by kernel_rfl) (fun a => WP _ _ _ _ a _) (fun lr3 => ?_)
  refine gi_blk (id := 0) (x := CA Try.f33 [1, 1, 0, 1, 0]) (by kernel_rfl) ?_
  refine gi_unr (x := CA Try.f33 [1, 1, 0, 1, 0, 0]) 2 (by kernel_rfl) ?_
  change WP _ _ (CA Try.f33 [1, 1, 0, 1, 0, 0]) _ _ _
  refine zSq (by kernel_rfl) ?_
  refine zSq (by kernel_rfl) ?_
  refine zPl [0, 1, 2, 3] (by kernel_rfl) ?_
  refine zBb [] [(13, .bool true), (12, iV 1), (11, .slice (some ⟨b, 0, none⟩) 1 1), (10, iV 0)] [⟨0, [], none⟩, ⟨1, [], none⟩, ⟨2, [], some (iV 1)⟩, ⟨3, [], none⟩] [] [(iV ((1 : Nat) : Int), iV 1)] (by kernel_rfl) ⟨(ov_int (by omega)), trivial⟩ (AllC_nil _) ?_
  refine PO.mk ?_
  change WP _ _ (CA Try.f33 [1, 1, 0, 1, 0, 0, 0, 1]) _ _ _
  refine fk_cut ([(0, .slice (some ⟨b, 0, none⟩) 1 1), (5, iV 0), (13, .bool true)] : Fr) (by kernel_rfl) (fun a => WP _ _ _ _ a _) (fun lr4 => ?_)
  refine zCt (by kernel_rfl) ?_
  refine gi_skp (by kernel_rfl) ?_
  change WP _ _ (CA Try.f33 [1, 1, 0, 1, 0, 0, 1]) _ _ _
  refine zSq (by kernel_rfl) ?_
  refine gi_blk (id := 1) (x := CA Try.f33 [1, 1, 0, 1, 0, 0, 1, 0, 0]) (by kernel_rfl) ?_
  refine zSq (by kernel_rfl) ?_
  refine zPl [0, 1, 2, 3, 4, 5, 6, 7, 8, 9, 10, 11, 12, 13, 14, 15, 16] (by kernel_rfl) ?_
  refine zB0 [2, 3, 4, 5, 6, 7, 8, 9, 10, 11, 12, 13, 14, 15, 16] [0, 1] [(17, iV 0), (16, .slice (some ⟨b, 0, none⟩) 1 1)] (by kernel_rfl) ?_
  refine plain_law (i := 2) 18 (pV b) (by kernel_rfl) (law_indexSl (o := opA (RA Try.f33 [1, 1, 0, 1, 0, 0, 1, 0, 0, 0]) 2) (x := (Operand.tmp 16)) (i := (Operand.tmp 17)) (b := b) (off := 0) (z := 0) (len := 1) (cap := 1) (by kernel_rfl) Try.underlying71 19 (by kernel_rfl) 0 (by kernel_rfl) (by kernel_rfl) (by omega) (by omega) 0 (by omega) _) ?_
  refine zBb [] [(32, .bool true), (31, undef), (30, undef), (29, undef), (28, undef), (27, undef), (26, undef), (25, undef), (24, undef), (23, .bool true), (22, .bool true), (21, iV (((T1.length : Nat) : Int))), (20, .string (St T1)), (19, .pointer (some ⟨b, 4, none⟩))] [⟨3, [], none⟩, ⟨4, [.string (St T1)], none⟩, ⟨5, [], some (iV (((T1.length : Nat) : Int)))⟩, ⟨6, [], some (.bool true)⟩, ⟨7, [], none⟩, ⟨8, [], none⟩, ⟨9, [], none⟩, ⟨10, [], none⟩, ⟨11, [], none⟩, ⟨12, [], none⟩, ⟨13, [], none⟩, ⟨14, [], none⟩, ⟨15, [], none⟩, ⟨16, [], none⟩] [(4, ⟨b, 4, none⟩, .string (St T1))] [(iV ((St T1).size : Int), iV (((T1.length : Nat) : Int))), (.bool (decide (((T1.length : Nat) : Int) > 60)), .bool true)] (by kernel_rfl) ⟨(ov_int (st_len _)), (ov_t (by omega)), trivial⟩ (AllC_cons (sat_cell h0 0 rfl rfl) (AllC_nil _)) ?_
  refine PO.mk ?_
  change WP _ _ (CA Try.f33 [1, 1, 0, 1, 0, 0, 1, 0, 0, 1]) _ _ _
  refine fk_cut ([(0, .slice (some ⟨b, 0, none⟩) 1 1), (5, iV 0), (32, .bool true)] : Fr) (by kernel_rfl) (fun a => WP _ _ _ _ a _) (fun lr5 => ?_)
  refine zCt (by kernel_rfl) ?_
  refine zSq (by kernel_rfl) ?_
  refine zPl [0] (by kernel_rfl) ?_
  refine zB0 [] [0] [(4, .bool false)] (by kernel_rfl) ?_
  refine PO.mk ?_
  change WP _ _ (CA Try.f33 [1, 1, 0, 1, 0, 0, 1, 0, 0, 1, 0, 1]) _ _ _
  refine fk_cut ([(4, .bool false)] : Fr) (by kernel_rfl) (fun a => WP _ _ _ _ a _) (fun lr6 => ?_)
  refine gi_rt (by kernel_rfl) ?_
  repeat (first | simp only [Exit.inBlock] | simp only [Exit.then])
  refine hi_out [] (.bool false) [] (by kernel_rfl) (by intro q hq; cases hq) ?_
  exact ⟨.bool false, [Cl b [iV do_, iV ox, iV oy, uV oz, .string (St T1), iV hx, uV hy, iV dx, iV dy, uV dz, iV vn, iV rx, iV ry, uV rz, iV rs, iV rw, iV rt, iV rn, .string (St T2)] 69], rfl, ⟨rfl, rfl⟩, h0⟩

set_option maxHeartbeats 4000000 in
theorem short_g (b : Nat) (do_ ox oy oz hx hy dx dy dz vn rx ry rz rs rw rt rn : Int) (T1 T2 : List UInt8) (h1 : T1.length ≤ 60) (h2 : 60 < T2.length) : HT Try.prog 33 [Value.slice (some ⟨b, 0, none⟩) 1 1, Value.int IntKind.i64 1] [Cl b [Value.int IntKind.i64 do_, Value.int IntKind.i64 ox, Value.int IntKind.i64 oy, Value.int IntKind.u32 oz, Value.string (St T1), Value.int IntKind.i64 hx, Value.int IntKind.u32 hy, Value.int IntKind.i64 dx, Value.int IntKind.i64 dy, Value.int IntKind.u32 dz, Value.int IntKind.i64 vn, Value.int IntKind.i64 rx, Value.int IntKind.i64 ry, Value.int IntKind.u32 rz, Value.int IntKind.i64 rs, Value.int IntKind.i64 rw, Value.int IntKind.i64 rt, Value.int IntKind.i64 rn, Value.string (St T2)] 69] (fun v K => v = Value.bool false ∧ K = [Cl b [Value.int IntKind.i64 do_, Value.int IntKind.i64 ox, Value.int IntKind.i64 oy, Value.int IntKind.u32 oz, Value.string (St T1), Value.int IntKind.i64 hx, Value.int IntKind.u32 hy, Value.int IntKind.i64 dx, Value.int IntKind.i64 dy, Value.int IntKind.u32 dz, Value.int IntKind.i64 vn, Value.int IntKind.i64 rx, Value.int IntKind.i64 ry, Value.int IntKind.u32 rz, Value.int IntKind.i64 rs, Value.int IntKind.i64 rw, Value.int IntKind.i64 rt, Value.int IntKind.i64 rn, Value.string (St T2)] 69]) := by
  refine hi_in 33 ([(0, .slice (some ⟨b, 0, none⟩) 1 1), (1, iV 1)] : Fr) Try.func33 (by kernel_rfl) Try.ntmps33 rfl rfl ?_
  intro g w0 R h0
  change WP _ _ (CA Try.f33 []) _ _ _
  refine zSq (by kernel_rfl) ?_
  refine zPl [0] (by kernel_rfl) ?_
  refine zB0 [] [0] [(4, .bool false)] (by kernel_rfl) ?_
  refine PO.mk ?_
  change WP _ _ (CA Try.f33 [1]) _ _ _
  refine fk_cut ([(0, .slice (some ⟨b, 0, none⟩) 1 1), (1, iV 1)] : Fr) (by kernel_rfl) (fun a => WP _ _ _ _ a _) (fun lr1 => ?_)
  refine zSq (by kernel_rfl) ?_
  refine zSq (by kernel_rfl) ?_
  refine zPl [0, 1, 2, 3] (by kernel_rfl) ?_
  refine zBb [] [(9, .bool false), (8, iV 1), (7, iV 1), (6, .slice (some ⟨b, 0, none⟩) 1 1)] [⟨0, [], none⟩, ⟨1, [], some (iV 1)⟩, ⟨2, [], none⟩, ⟨3, [], none⟩] [] [(iV ((1 : Nat) : Int), iV 1)] (by kernel_rfl) ⟨(ov_int (by omega)), trivial⟩ (AllC_nil _) ?_
  refine PO.mk ?_
  change WP _ _ (CA Try.f33 [1, 0, 1]) _ _ _
  refine fk_cut ([(0, .slice (some ⟨b, 0, none⟩) 1 1), (9, .bool false)] : Fr) (by kernel_rfl) (fun a => WP _ _ _ _ a _) (fun lr2 => ?_)
  refine zCf (by kernel_rfl) ?_
  refine gi_skp (by kernel_rfl) ?_
  change WP _ _ (CA Try.f33 [1, 1]) _ _ _
  refine zSq (by kernel_rfl) ?_
  refine zSq (by kernel_rfl) ?_
  refine zPl [0] (by kernel_rfl) ?_
  refine zB0 [] [0] [(5, iV 0)] (by kernel_rfl) ?_
  refine PO.mk ?_
  change WP _ _ (CA Try.f33 [1, 1, 0, 1]) _ _ _
  refine fk_cut ([(0, .slice (some ⟨b, 0, none⟩) 1 1), (5, iV 0)] : Fr) (by kernel_rfl) (fun a => WP _ _ _ _ a _) (fun lr3 => ?_)
  refine gi_blk (id := 0) (x := CA Try.f33 [1, 1, 0, 1, 0]) (by kernel_rfl) ?_
  refine gi_unr (x := CA Try.f33 [1, 1, 0, 1, 0, 0]) 2 (by kernel_rfl) ?_
  change WP _ _ (CA Try.f33 [1, 1, 0, 1, 0, 0]) _ _ _
  refine zSq (by kernel_rfl) ?_
  refine zSq (by kernel_rfl) ?_
  refine zPl [0, 1, 2, 3] (by kernel_rfl) ?_
  refine zBb [] [(13, .bool true), (12, iV 1), (11, .slice (some ⟨b, 0, none⟩) 1 1), (10, iV 0)] [⟨0, [], none⟩, ⟨1, [], none⟩, ⟨2, [], some (iV 1)⟩, ⟨3, [], none⟩] [] [(iV ((1 : Nat) : Int), iV 1)] (by kernel_rfl) ⟨(ov_int (by omega)), trivial⟩ (AllC_nil _) ?_
  refine PO.mk ?_
  change WP _ _ (CA Try.f33 [1, 1, 0, 1, 0, 0, 0, 1]) _ _ _
  refine fk_cut ([(0, .slice (some ⟨b, 0, none⟩) 1 1), (5, iV 0), (13, .bool true)] : Fr) (by kernel_rfl) (fun a => WP _ _ _ _ a _) (fun lr4 => ?_)
  refine zCt (by kernel_rfl) ?_
  refine gi_skp (by kernel_rfl) ?_
  change WP _ _ (CA Try.f33 [1, 1, 0, 1, 0, 0, 1]) _ _ _
  refine zSq (by kernel_rfl) ?_
  refine gi_blk (id := 1) (x := CA Try.f33 [1, 1, 0, 1, 0, 0, 1, 0, 0]) (by kernel_rfl) ?_
  refine zSq (by kernel_rfl) ?_
  refine zPl [0, 1, 2, 3, 4, 5, 6, 7, 8, 9, 10, 11, 12, 13, 14, 15, 16] (by kernel_rfl) ?_
  refine zB0 [2, 3, 4, 5, 6, 7, 8, 9, 10, 11, 12, 13, 14, 15, 16] [0, 1] [(17, iV 0), (16, .slice (some ⟨b, 0, none⟩) 1 1)] (by kernel_rfl) ?_
  refine plain_law (i := 2) 18 (pV b) (by kernel_rfl) (law_indexSl (o := opA (RA Try.f33 [1, 1, 0, 1, 0, 0, 1, 0, 0, 0]) 2) (x := (Operand.tmp 16)) (i := (Operand.tmp 17)) (b := b) (off := 0) (z := 0) (len := 1) (cap := 1) (by kernel_rfl) Try.underlying71 19 (by kernel_rfl) 0 (by kernel_rfl) (by kernel_rfl) (by omega) (by omega) 0 (by omega) _) ?_
  refine zBb [10, 11, 12, 13, 14, 15, 16] [(25, iV 0), (24, .slice (some ⟨b, 0, none⟩) 1 1), (23, .bool false), (22, .bool false), (21, iV (((T1.length : Nat) : Int))), (20, .string (St T1)), (19, .pointer (some ⟨b, 4, none⟩))] [⟨3, [], none⟩, ⟨4, [.string (St T1)], none⟩, ⟨5, [], some (iV (((T1.length : Nat) : Int)))⟩, ⟨6, [], some (.bool false)⟩, ⟨7, [], none⟩, ⟨8, [], none⟩, ⟨9, [], none⟩] [(4, ⟨b, 4, none⟩, .string (St T1))] [(iV ((St T1).size : Int), iV (((T1.length : Nat) : Int))), (.bool (decide (((T1.length : Nat) : Int) > 60)), .bool false)] (by kernel_rfl) ⟨(ov_int (st_len _)), (ov_f (by omega)), trivial⟩ (AllC_cons (sat_cell h0 0 rfl rfl) (AllC_nil _)) ?_
  refine plain_law (i := 10) 26 (pV b) (by kernel_rfl) (law_indexSl (o := opA (RA Try.f33 [1, 1, 0, 1, 0, 0, 1, 0, 0, 0]) 10) (x := (Operand.tmp 24)) (i := (Operand.tmp 25)) (b := b) (off := 0) (z := 0) (len := 1) (cap := 1) (by kernel_rfl) Try.underlying71 19 (by kernel_rfl) 0 (by kernel_rfl) (by kernel_rfl) (by omega) (by omega) 0 (by omega) _) ?_
  refine zBb [] [(32, .bool true), (31, .bool true), (30, iV (((T2.length : Nat) : Int))), (29, .string (St T2)), (28, .pointer (some ⟨b, 18, none⟩)), (27, .pointer (some ⟨b, 11, none⟩))] [⟨11, [], none⟩, ⟨12, [], none⟩, ⟨13, [.string (St T2)], none⟩, ⟨14, [], some (iV (((T2.length : Nat) : Int)))⟩, ⟨15, [], some (.bool true)⟩, ⟨16, [], none⟩] [(13, ⟨b, 18, none⟩, .string (St T2))] [(iV ((St T2).size : Int), iV (((T2.length : Nat) : Int))), (.bool (decide (((T2.length : Nat) : Int) > 60)), .bool true)] (by kernel_rfl) ⟨(ov_int (st_len _)), (ov_t (by omega)), trivial⟩ (AllC_cons (sat_cell h0 0 rfl rfl) (AllC_nil _)) ?_
  refine PO.mk ?_
  change WP _ _ (CA Try.f33 [1, 1, 0, 1, 0, 0, 1, 0, 0, 1]) _ _ _
  refine fk_cut ([(0, .slice (some ⟨b, 0, none⟩) 1 1), (5, iV 0), (32, .bool true)] : Fr) (by kernel_rfl) (fun a => WP _ _ _ _ a _) (fun lr5 => ?_)
  refine zCt (by kernel_rfl) ?_
  refine zSq (by kernel_rfl) ?_
  refine zPl [0] (by kernel_rfl) ?_
  refine zB0 [] [0] [(4, .bool false)] (by kernel_rfl) ?_
  refine PO.mk ?_
  change WP _ _ (CA Try.f33 [1, 1, 0, 1, 0, 0, 1, 0, 0, 1, 0, 1]) _ _ _
  refine fk_cut ([(4, .bool false)] : Fr) (by kernel_rfl) (fun a => WP _ _ _ _ a _) (fun lr6 => ?_)
  refine gi_rt (by kernel_rfl) ?_
  repeat (first | simp only [Exit.inBlock] | simp only [Exit.then])
  refine hi_out [] (.bool false) [] (by kernel_rfl) (by intro q hq; cases hq) ?_
  exact ⟨.bool false, [Cl b [iV do_, iV ox, iV oy, uV oz, .string (St T1), iV hx, uV hy, iV dx, iV dy, uV dz, iV vn, iV rx, iV ry, uV rz, iV rs, iV rw, iV rt, iV rn, .string (St T2)] 69], rfl, ⟨rfl, rfl⟩, h0⟩

set_option maxHeartbeats 4000000 in
theorem nil_law (wo : World) (do_ ox oy oz hx hy dx dy dz vn rx ry rz rs rw rt rn : Int) (T1 T2 : List UInt8) (hoz0 : 0 ≤ oz) (hoz1 : oz ≤ 4294967295) (hhy0 : 0 ≤ hy) (hhy1 : hy ≤ 4294967295) (hdz0 : 0 ≤ dz) (hdz1 : dz ≤ 4294967295) (hrz0 : 0 ≤ rz) (hrz1 : rz ≤ 4294967295) : HT Try.prog 9 [Value.agg #[Value.int IntKind.i64 do_, Value.int IntKind.i64 ox, Value.int IntKind.i64 oy, Value.int IntKind.u32 oz, Value.string (St T1), Value.int IntKind.i64 hx, Value.int IntKind.u32 hy, Value.int IntKind.i64 dx, Value.int IntKind.i64 dy, Value.int IntKind.u32 dz, Value.int IntKind.i64 vn, Value.int IntKind.i64 rx, Value.int IntKind.i64 ry, Value.int IntKind.u32 rz, Value.int IntKind.i64 rs, Value.int IntKind.i64 rw, Value.int IntKind.i64 rt, Value.int IntKind.i64 rn, Value.string (St T2)]] [Old wo] (fun v K => v = Value.bool true ∧ K = [Old wo]) := by
  refine hi_in 226 ([(0, .agg #[iV do_, iV ox, iV oy, uV oz, .string (St T1), iV hx, uV hy, iV dx, iV dy, uV dz, iV vn, iV rx, iV ry, uV rz, iV rs, iV rw, iV rt, iV rn, .string (St T2)])] : Fr) Try.func9 (by kernel_rfl) Try.ntmps9 rfl rfl ?_
  intro g w0 R h0
  change WP _ _ (CA Try.f9 []) _ _ _
  refine zSq (by kernel_rfl) ?_
  refine zPl [0, 1] (by kernel_rfl) ?_
  refine plain_act (i := 0) (by kernel_rfl) ?_
  refine an_new (d := 1) (fun xb_ => pV xb_) (fun xb_ => Obj.cells [iV do_, iV ox, iV oy, uV oz, .string (St T1), iV hx, uV hy, iV dx, iV dy, uV dz, iV vn, iV rx, iV ry, uV rz, iV rs, iV rw, iV rt, iV rn, .string (St T2)].toArray 69 (0, 0)) (fun xb_ => by kernel_rfl) (by kernel_rfl) rfl h0 ?_
  intro r1 w2 (h3 : sat g w2 [Cl r1 [iV do_, iV ox, iV oy, uV oz, .string (St T1), iV hx, uV hy, iV dx, iV dy, uV dz, iV vn, iV rx, iV ry, uV rz, iV rs, iV rw, iV rt, iV rn, .string (St T2)] 69, Old wo, R])
  refine zB0 [] [1] [(2, .bool false)] (by kernel_rfl) ?_
  refine PO.mk ?_
  change WP _ _ (CA Try.f9 [1]) _ _ _
  refine fk_cut ([(1, pV r1)] : Fr) (by kernel_rfl) (fun a => WP _ _ _ _ a _) (fun lr4 => ?_)
  refine zSq (by kernel_rfl) ?_
  refine zSq (by kernel_rfl) ?_
  refine zPl [0, 1, 2, 3] (by kernel_rfl) ?_
  refine zBb [1, 2, 3] [(26, .agg #[iV do_, iV ox, iV oy, uV oz, .string (St T1), iV hx, uV hy, iV dx, iV dy, uV dz, iV vn, iV rx, iV ry, uV rz, iV rs, iV rw, iV rt, iV rn, .string (St T2)])] [⟨0, [iV do_, iV ox, iV oy, uV oz, .string (St T1), iV hx, uV hy, iV dx, iV dy, uV dz, iV vn, iV rx, iV ry, uV rz, iV rs, iV rw, iV rt, iV rn, .string (St T2)], none⟩] [(0, ⟨r1, 0, none⟩, iV do_), (0, ⟨r1, 1, none⟩, iV ox), (0, ⟨r1, 2, none⟩, iV oy), (0, ⟨r1, 3, none⟩, uV oz), (0, ⟨r1, 4, none⟩, .string (St T1)), (0, ⟨r1, 5, none⟩, iV hx), (0, ⟨r1, 6, none⟩, uV hy), (0, ⟨r1, 7, none⟩, iV dx), (0, ⟨r1, 8, none⟩, iV dy), (0, ⟨r1, 9, none⟩, uV dz), (0, ⟨r1, 10, none⟩, iV vn), (0, ⟨r1, 11, none⟩, iV rx), (0, ⟨r1, 12, none⟩, iV ry), (0, ⟨r1, 13, none⟩, uV rz), (0, ⟨r1, 14, none⟩, iV rs), (0, ⟨r1, 15, none⟩, iV rw), (0, ⟨r1, 16, none⟩, iV rt), (0, ⟨r1, 17, none⟩, iV rn), (0, ⟨r1, 18, none⟩, .string (St T2))] [] (by kernel_rfl) trivial (AllC_cons (sat_cell h3 0 rfl rfl) (AllC_cons (sat_cell h3 0 rfl rfl) (AllC_cons (sat_cell h3 0 rfl rfl) (AllC_cons (sat_cell h3 0 rfl rfl) (AllC_cons (sat_cell h3 0 rfl rfl) (AllC_cons (sat_cell h3 0 rfl rfl) (AllC_cons (sat_cell h3 0 rfl rfl) (AllC_cons (sat_cell h3 0 rfl rfl) (AllC_cons (sat_cell h3 0 rfl rfl) (AllC_cons (sat_cell h3 0 rfl rfl) (AllC_cons (sat_cell h3 0 rfl rfl) (AllC_cons (sat_cell h3 0 rfl rfl) (AllC_cons (sat_cell h3 0 rfl rfl) (AllC_cons (sat_cell h3 0 rfl rfl) (AllC_cons (sat_cell h3 0 rfl rfl) (AllC_cons (sat_cell h3 0 rfl rfl) (AllC_cons (sat_cell h3 0 rfl rfl) (AllC_cons (sat_cell h3 0 rfl rfl) (AllC_cons (sat_cell h3 0 rfl rfl) (AllC_nil _)))))))))))))))))))) ?_
  refine plain_act (i := 1) (by kernel_rfl) ?_
  refine an_new (d := 27) (fun xb_ => .slice (some ⟨xb_, 0, none⟩) 1 1) (fun xb_ => Obj.cells [iV do_, iV ox, iV oy, uV oz, .string (St T1), iV hx, uV hy, iV dx, iV dy, uV dz, iV vn, iV rx, iV ry, uV rz, iV rs, iV rw, iV rt, iV rn, .string (St T2)].toArray 69 (0, 0)) (fun xb_ => by kernel_rfl) (by kernel_rfl) rfl h3 ?_
  intro r5 w6 (h7 : sat g w6 [Cl r5 [iV do_, iV ox, iV oy, uV oz, .string (St T1), iV hx, uV hy, iV dx, iV dy, uV dz, iV vn, iV rx, iV ry, uV rz, iV rs, iV rw, iV rt, iV rn, .string (St T2)] 69, Cl r1 [iV do_, iV ox, iV oy, uV oz, .string (St T1), iV hx, uV hy, iV dx, iV dy, uV dz, iV vn, iV rx, iV ry, uV rz, iV rs, iV rw, iV rt, iV rn, .string (St T2)] 69, Old wo, R])
  by_cases c8 : T1.length ≤ 60
  ·
    by_cases c9 : T2.length ≤ 60
    ·
      refine plain_act (i := 2) (by kernel_rfl) ?_
      refine zCl 28 Try.call33 (short_t r5 do_ ox oy oz hx hy dx dy dz vn rx ry rz rs rw rt rn T1 T2 (by omega) (by omega)) h7 (by kernel_rfl) ?_
      rintro v K w10 (⟨rfl, rfl⟩) h11
      refine ⟨_, rfl, ?_⟩
      have h12 : sat g w10 [Cl r5 [iV do_, iV ox, iV oy, uV oz, .string (St T1), iV hx, uV hy, iV dx, iV dy, uV dz, iV vn, iV rx, iV ry, uV rz, iV rs, iV rw, iV rt, iV rn, .string (St T2)] 69, Cl r1 [iV do_, iV ox, iV oy, uV oz, .string (St T1), iV hx, uV hy, iV dx, iV dy, uV dz, iV vn, iV rx, iV ry, uV rz, iV rs, iV rw, iV rt, iV rn, .string (St T2)] 69, Old wo, R] := h11
      refine zB0 [] [3] [(29, .bool false)] (by kernel_rfl) ?_
      refine PO.mk ?_
      change WP _ _ (CA Try.f9 [1, 0, 1]) _ _ _
      refine fk_cut ([(1, pV r1), (29, .bool false)] : Fr) (by kernel_rfl) (fun a => WP _ _ _ _ a _) (fun lr13 => ?_)
      refine zCf (by kernel_rfl) ?_
      refine gi_skp (by kernel_rfl) ?_
      change WP _ _ (CA Try.f9 [1, 1]) _ _ _
      refine zSq (by kernel_rfl) ?_
      refine zPl [0] (by kernel_rfl) ?_
      refine zB0 [] [0] [(3, .pointer none)] (by kernel_rfl) ?_
      refine PO.mk ?_
      change WP _ _ (CA Try.f9 [1, 1, 1]) _ _ _
      refine fk_cut ([(1, pV r1), (3, .pointer none)] : Fr) (by kernel_rfl) (fun a => WP _ _ _ _ a _) (fun lr14 => ?_)
      refine zSq (by kernel_rfl) ?_
      refine zPl [0, 1, 2, 3, 4] (by kernel_rfl) ?_
      refine zB0 [2, 3, 4] [0, 1] [(32, .agg #[.pointer none, .map none, .slice none 0 0]), (31, .pointer none)] (by kernel_rfl) ?_
      refine plain_act (i := 2) (by kernel_rfl) ?_
      refine an_new (d := 33) (fun xb_ => pV xb_) (fun xb_ => Obj.cells [.pointer none, .map none, .slice none 0 0].toArray 76 (0, 0)) (fun xb_ => by kernel_rfl) (by kernel_rfl) rfl h12 ?_
      intro r15 w16 (h17 : sat g w16 [Cl r15 [.pointer none, .map none, .slice none 0 0] 76, Cl r5 [iV do_, iV ox, iV oy, uV oz, .string (St T1), iV hx, uV hy, iV dx, iV dy, uV dz, iV vn, iV rx, iV ry, uV rz, iV rs, iV rw, iV rt, iV rn, .string (St T2)] 69, Cl r1 [iV do_, iV ox, iV oy, uV oz, .string (St T1), iV hx, uV hy, iV dx, iV dy, uV dz, iV vn, iV rx, iV ry, uV rz, iV rs, iV rw, iV rt, iV rn, .string (St T2)] 69, Old wo, R])
      refine plain_act (i := 3) (by kernel_rfl) ?_
      refine an_new (d := 34) (fun xb_ => .slice (some ⟨xb_, 0, none⟩) 2 2) (fun xb_ => Obj.cells [.pointer none, pV r15].toArray 22 (0, 0)) (fun xb_ => by kernel_rfl) (by kernel_rfl) rfl h17 ?_
      intro r18 w19 (h20 : sat g w19 [Cl r18 [.pointer none, pV r15] 22, Cl r15 [.pointer none, .map none, .slice none 0 0] 76, Cl r5 [iV do_, iV ox, iV oy, uV oz, .string (St T1), iV hx, uV hy, iV dx, iV dy, uV dz, iV vn, iV rx, iV ry, uV rz, iV rs, iV rw, iV rt, iV rn, .string (St T2)] 69, Cl r1 [iV do_, iV ox, iV oy, uV oz, .string (St T1), iV hx, uV hy, iV dx, iV dy, uV dz, iV vn, iV rx, iV ry, uV rz, iV rs, iV rw, iV rt, iV rn, .string (St T2)] 69, Old wo, R])
      refine zB0 [] [4] [(4, .slice (some ⟨r18, 0, none⟩) 2 2)] (by kernel_rfl) ?_
      refine PO.mk ?_
      change WP _ _ (CA Try.f9 [1, 1, 1, 1]) _ _ _
      refine fk_cut ([(1, pV r1), (4, .slice (some ⟨r18, 0, none⟩) 2 2)] : Fr) (by kernel_rfl) (fun a => WP _ _ _ _ a _) (fun lr21 => ?_)
      refine zSq (by kernel_rfl) ?_
      refine zSq (by kernel_rfl) ?_
      refine zPl [0] (by kernel_rfl) ?_
      refine zB0 [] [0] [(5, iV 0)] (by kernel_rfl) ?_
      refine PO.mk ?_
      change WP _ _ (CA Try.f9 [1, 1, 1, 1, 0, 1]) _ _ _
      refine fk_cut ([(1, pV r1), (4, .slice (some ⟨r18, 0, none⟩) 2 2), (5, iV 0)] : Fr) (by kernel_rfl) (fun a => WP _ _ _ _ a _) (fun lr22 => ?_)
      refine gi_blk (id := 0) (x := CA Try.f9 [1, 1, 1, 1, 0, 1, 0]) (by kernel_rfl) ?_
      refine gi_unr (x := CA Try.f9 [1, 1, 1, 1, 0, 1, 0, 0]) 3 (by kernel_rfl) ?_
      change WP _ _ (CA Try.f9 [1, 1, 1, 1, 0, 1, 0, 0]) _ _ _
      refine zSq (by kernel_rfl) ?_
      refine zSq (by kernel_rfl) ?_
      refine zPl [0, 1, 2, 3] (by kernel_rfl) ?_
      refine zBb [] [(38, .bool true), (37, iV 2), (36, .slice (some ⟨r18, 0, none⟩) 2 2), (35, iV 0)] [⟨0, [], none⟩, ⟨1, [], none⟩, ⟨2, [], some (iV 2)⟩, ⟨3, [], none⟩] [] [(iV ((2 : Nat) : Int), iV 2)] (by kernel_rfl) ⟨(ov_int (by omega)), trivial⟩ (AllC_nil _) ?_
      refine PO.mk ?_
      change WP _ _ (CA Try.f9 [1, 1, 1, 1, 0, 1, 0, 0, 0, 1]) _ _ _
      refine fk_cut ([(1, pV r1), (4, .slice (some ⟨r18, 0, none⟩) 2 2), (5, iV 0), (38, .bool true)] : Fr) (by kernel_rfl) (fun a => WP _ _ _ _ a _) (fun lr23 => ?_)
      refine zCt (by kernel_rfl) ?_
      refine gi_skp (by kernel_rfl) ?_
      change WP _ _ (CA Try.f9 [1, 1, 1, 1, 0, 1, 0, 0, 1]) _ _ _
      refine zSq (by kernel_rfl) ?_
      refine gi_blk (id := 1) (x := CA Try.f9 [1, 1, 1, 1, 0, 1, 0, 0, 1, 0, 0]) (by kernel_rfl) ?_
      refine zSq (by kernel_rfl) ?_
      refine zPl [0, 1, 2, 3, 4] (by kernel_rfl) ?_
      refine zB0 [2, 3, 4] [0, 1] [(42, iV 0), (41, .slice (some ⟨r18, 0, none⟩) 2 2)] (by kernel_rfl) ?_
      refine plain_law (i := 2) 43 (pV r18) (by kernel_rfl) (law_indexSl (o := opA (RA Try.f9 [1, 1, 1, 1, 0, 1, 0, 0, 1, 0, 0, 0]) 2) (x := (Operand.tmp 41)) (i := (Operand.tmp 42)) (b := r18) (off := 0) (z := 0) (len := 2) (cap := 2) (by kernel_rfl) Try.underlying77 1 (by kernel_rfl) 0 (by kernel_rfl) (by kernel_rfl) (by omega) (by omega) 0 (by omega) _) ?_
      refine zBb [] [(6, .pointer none), (44, .pointer none)] [⟨3, [.pointer none], none⟩, ⟨4, [], none⟩] [(3, ⟨r18, 0, none⟩, .pointer none)] [] (by kernel_rfl) trivial (AllC_cons (sat_cell h20 0 rfl rfl) (AllC_nil _)) ?_
      refine PO.mk ?_
      change WP _ _ (CA Try.f9 [1, 1, 1, 1, 0, 1, 0, 0, 1, 0, 0, 1]) _ _ _
      refine fk_cut ([(1, pV r1), (4, .slice (some ⟨r18, 0, none⟩) 2 2), (5, iV 0), (6, .pointer none)] : Fr) (by kernel_rfl) (fun a => WP _ _ _ _ a _) (fun lr24 => ?_)
      refine zSq (by kernel_rfl) ?_
      refine zPl [0, 1, 2, 3, 4, 5, 6, 7, 8, 9, 10, 11, 12, 13] (by kernel_rfl) ?_
      refine zBb [7, 8, 9, 10, 11, 12, 13] [(52, .agg #[iV hx, uV hy]), (51, .pointer (some ⟨r1, 5, none⟩)), (50, .string (St T1)), (49, .pointer (some ⟨r1, 4, none⟩)), (48, .agg #[iV ox, iV oy, uV oz]), (47, .pointer (some ⟨r1, 1, none⟩)), (46, .pointer none)] [⟨0, [], none⟩, ⟨1, [], none⟩, ⟨2, [iV ox, iV oy, uV oz], none⟩, ⟨3, [], none⟩, ⟨4, [.string (St T1)], none⟩, ⟨5, [], none⟩, ⟨6, [iV hx, uV hy], none⟩] [(6, ⟨r1, 5, none⟩, iV hx), (6, ⟨r1, 6, none⟩, uV hy), (4, ⟨r1, 4, none⟩, .string (St T1)), (2, ⟨r1, 1, none⟩, iV ox), (2, ⟨r1, 2, none⟩, iV oy), (2, ⟨r1, 3, none⟩, uV oz)] [] (by kernel_rfl) trivial (AllC_cons (sat_cell h20 3 rfl rfl) (AllC_cons (sat_cell h20 3 rfl rfl) (AllC_cons (sat_cell h20 3 rfl rfl) (AllC_cons (sat_cell h20 3 rfl rfl) (AllC_cons (sat_cell h20 3 rfl rfl) (AllC_cons (sat_cell h20 3 rfl rfl) (AllC_nil _))))))) ?_
      refine plain_act (i := 7) (by kernel_rfl) ?_
      refine zCl 53 Try.call12 (topen_n ox oy oz hx hy T1) h20 (by kernel_rfl) ?_
      rintro v K w25 (⟨rfl, rfl⟩) h26
      refine ⟨_, rfl, ?_⟩
      have h27 : sat g w25 [Cl r18 [.pointer none, pV r15] 22, Cl r15 [.pointer none, .map none, .slice none 0 0] 76, Cl r5 [iV do_, iV ox, iV oy, uV oz, .string (St T1), iV hx, uV hy, iV dx, iV dy, uV dz, iV vn, iV rx, iV ry, uV rz, iV rs, iV rw, iV rt, iV rn, .string (St T2)] 69, Cl r1 [iV do_, iV ox, iV oy, uV oz, .string (St T1), iV hx, uV hy, iV dx, iV dy, uV dz, iV vn, iV rx, iV ry, uV rz, iV rs, iV rw, iV rt, iV rn, .string (St T2)] 69, Old wo, R] := h26
      refine zB0 [11, 12, 13] [8, 9, 10] [(55, iV 1), (54, .agg #[iV 0, iV 0, uV 0]), (45, .tuple #[.agg #[iV 0, iV 0, uV 0], iV 1])] (by kernel_rfl) ?_
      refine plain_act (i := 11) (by kernel_rfl) ?_
      refine an_new (d := 7) (fun xb_ => pV xb_) (fun xb_ => Obj.cells [iV 0, iV 0, uV 0].toArray 28 (0, 0)) (fun xb_ => by kernel_rfl) (by kernel_rfl) rfl h27 ?_
      intro r28 w29 (h30 : sat g w29 [Cl r28 [iV 0, iV 0, uV 0] 28, Cl r18 [.pointer none, pV r15] 22, Cl r15 [.pointer none, .map none, .slice none 0 0] 76, Cl r5 [iV do_, iV ox, iV oy, uV oz, .string (St T1), iV hx, uV hy, iV dx, iV dy, uV dz, iV vn, iV rx, iV ry, uV rz, iV rs, iV rw, iV rt, iV rn, .string (St T2)] 69, Cl r1 [iV do_, iV ox, iV oy, uV oz, .string (St T1), iV hx, uV hy, iV dx, iV dy, uV dz, iV vn, iV rx, iV ry, uV rz, iV rs, iV rw, iV rt, iV rn, .string (St T2)] 69, Old wo, R])
      refine plain_act (i := 12) (by kernel_rfl) ?_
      refine an_store [(0, iV 0), (1, iV 0), (2, uV 0)] (cs' := [iV 0, iV 0, uV 0]) (by kernel_rfl) (by kernel_rfl) (allq ⟨⟨by simp, rfl⟩, ⟨by simp, rfl⟩, ⟨by simp, rfl⟩, trivial⟩) rfl h30 ?_
      intro w31 (h32 : sat g w31 [Cl r28 [iV 0, iV 0, uV 0] 28, Cl r18 [.pointer none, pV r15] 22, Cl r15 [.pointer none, .map none, .slice none 0 0] 76, Cl r5 [iV do_, iV ox, iV oy, uV oz, .string (St T1), iV hx, uV hy, iV dx, iV dy, uV dz, iV vn, iV rx, iV ry, uV rz, iV rs, iV rw, iV rt, iV rn, .string (St T2)] 69, Cl r1 [iV do_, iV ox, iV oy, uV oz, .string (St T1), iV hx, uV hy, iV dx, iV dy, uV dz, iV vn, iV rx, iV ry, uV rz, iV rs, iV rw, iV rt, iV rn, .string (St T2)] 69, Old wo, R])
      refine zB0 [] [13] [(8, iV 1)] (by kernel_rfl) ?_
      refine PO.mk ?_
      change WP _ _ (CA Try.f9 [1, 1, 1, 1, 0, 1, 0, 0, 1, 0, 0, 1, 1]) _ _ _
      refine fk_cut ([(1, pV r1), (4, .slice (some ⟨r18, 0, none⟩) 2 2), (5, iV 0), (6, .pointer none), (7, pV r28), (8, iV 1)] : Fr) (by kernel_rfl) (fun a => WP _ _ _ _ a _) (fun lr33 => ?_)
      refine zSq (by kernel_rfl) ?_
      refine zPl [0, 1, 2, 3, 4, 5, 6, 7, 8, 9, 10, 11] (by kernel_rfl) ?_
      refine zBb [5, 6, 7, 8, 9, 10, 11] [(61, .agg #[iV hx, uV hy]), (60, .pointer (some ⟨r1, 5, none⟩)), (59, .agg #[iV dx, iV dy, uV dz]), (58, .pointer (some ⟨r1, 7, none⟩)), (57, .pointer none)] [⟨0, [], none⟩, ⟨1, [], none⟩, ⟨2, [iV dx, iV dy, uV dz], none⟩, ⟨3, [], none⟩, ⟨4, [iV hx, uV hy], none⟩] [(4, ⟨r1, 5, none⟩, iV hx), (4, ⟨r1, 6, none⟩, uV hy), (2, ⟨r1, 7, none⟩, iV dx), (2, ⟨r1, 8, none⟩, iV dy), (2, ⟨r1, 9, none⟩, uV dz)] [] (by kernel_rfl) trivial (AllC_cons (sat_cell h32 4 rfl rfl) (AllC_cons (sat_cell h32 4 rfl rfl) (AllC_cons (sat_cell h32 4 rfl rfl) (AllC_cons (sat_cell h32 4 rfl rfl) (AllC_cons (sat_cell h32 4 rfl rfl) (AllC_nil _)))))) ?_
      refine plain_act (i := 5) (by kernel_rfl) ?_
      refine zCl 62 Try.call14 (tdup_n dx dy dz hx hy) h32 (by kernel_rfl) ?_
      rintro v K w34 (⟨rfl, rfl⟩) h35
      refine ⟨_, rfl, ?_⟩
      have h36 : sat g w34 [Cl r28 [iV 0, iV 0, uV 0] 28, Cl r18 [.pointer none, pV r15] 22, Cl r15 [.pointer none, .map none, .slice none 0 0] 76, Cl r5 [iV do_, iV ox, iV oy, uV oz, .string (St T1), iV hx, uV hy, iV dx, iV dy, uV dz, iV vn, iV rx, iV ry, uV rz, iV rs, iV rw, iV rt, iV rn, .string (St T2)] 69, Cl r1 [iV do_, iV ox, iV oy, uV oz, .string (St T1), iV hx, uV hy, iV dx, iV dy, uV dz, iV vn, iV rx, iV ry, uV rz, iV rs, iV rw, iV rt, iV rn, .string (St T2)] 69, Old wo, R] := h35
      refine zB0 [9, 10, 11] [6, 7, 8] [(64, iV 1), (63, .agg #[iV 0, iV 0, uV 0]), (56, .tuple #[.agg #[iV 0, iV 0, uV 0], iV 1])] (by kernel_rfl) ?_
      refine plain_act (i := 9) (by kernel_rfl) ?_
      refine an_new (d := 9) (fun xb_ => pV xb_) (fun xb_ => Obj.cells [iV 0, iV 0, uV 0].toArray 28 (0, 0)) (fun xb_ => by kernel_rfl) (by kernel_rfl) rfl h36 ?_
      intro r37 w38 (h39 : sat g w38 [Cl r37 [iV 0, iV 0, uV 0] 28, Cl r28 [iV 0, iV 0, uV 0] 28, Cl r18 [.pointer none, pV r15] 22, Cl r15 [.pointer none, .map none, .slice none 0 0] 76, Cl r5 [iV do_, iV ox, iV oy, uV oz, .string (St T1), iV hx, uV hy, iV dx, iV dy, uV dz, iV vn, iV rx, iV ry, uV rz, iV rs, iV rw, iV rt, iV rn, .string (St T2)] 69, Cl r1 [iV do_, iV ox, iV oy, uV oz, .string (St T1), iV hx, uV hy, iV dx, iV dy, uV dz, iV vn, iV rx, iV ry, uV rz, iV rs, iV rw, iV rt, iV rn, .string (St T2)] 69, Old wo, R])
      refine plain_act (i := 10) (by kernel_rfl) ?_
      refine an_store [(0, iV 0), (1, iV 0), (2, uV 0)] (cs' := [iV 0, iV 0, uV 0]) (by kernel_rfl) (by kernel_rfl) (allq ⟨⟨by simp, rfl⟩, ⟨by simp, rfl⟩, ⟨by simp, rfl⟩, trivial⟩) rfl h39 ?_
      intro w40 (h41 : sat g w40 [Cl r37 [iV 0, iV 0, uV 0] 28, Cl r28 [iV 0, iV 0, uV 0] 28, Cl r18 [.pointer none, pV r15] 22, Cl r15 [.pointer none, .map none, .slice none 0 0] 76, Cl r5 [iV do_, iV ox, iV oy, uV oz, .string (St T1), iV hx, uV hy, iV dx, iV dy, uV dz, iV vn, iV rx, iV ry, uV rz, iV rs, iV rw, iV rt, iV rn, .string (St T2)] 69, Cl r1 [iV do_, iV ox, iV oy, uV oz, .string (St T1), iV hx, uV hy, iV dx, iV dy, uV dz, iV vn, iV rx, iV ry, uV rz, iV rs, iV rw, iV rt, iV rn, .string (St T2)] 69, Old wo, R])
      refine zB0 [] [11] [(10, iV 1)] (by kernel_rfl) ?_
      refine PO.mk ?_
      change WP _ _ (CA Try.f9 [1, 1, 1, 1, 0, 1, 0, 0, 1, 0, 0, 1, 1, 1]) _ _ _
      refine fk_cut ([(1, pV r1), (4, .slice (some ⟨r18, 0, none⟩) 2 2), (5, iV 0), (6, .pointer none), (7, pV r28), (8, iV 1), (9, pV r37), (10, iV 1)] : Fr) (by kernel_rfl) (fun a => WP _ _ _ _ a _) (fun lr42 => ?_)
      refine zSq (by kernel_rfl) ?_
      refine zPl [0, 1, 2, 3, 4, 5, 6, 7, 8] (by kernel_rfl) ?_
      refine zBb [3, 4, 5, 6, 7, 8] [(68, .agg #[iV dx, iV dy, uV dz]), (67, .pointer (some ⟨r1, 7, none⟩)), (66, .pointer none)] [⟨0, [], none⟩, ⟨1, [], none⟩, ⟨2, [iV dx, iV dy, uV dz], none⟩] [(2, ⟨r1, 7, none⟩, iV dx), (2, ⟨r1, 8, none⟩, iV dy), (2, ⟨r1, 9, none⟩, uV dz)] [] (by kernel_rfl) trivial (AllC_cons (sat_cell h41 5 rfl rfl) (AllC_cons (sat_cell h41 5 rfl rfl) (AllC_cons (sat_cell h41 5 rfl rfl) (AllC_nil _)))) ?_
      refine plain_act (i := 3) (by kernel_rfl) ?_
      refine zCl 69 Try.call25 (tnum_n dx dy dz) h41 (by kernel_rfl) ?_
      rintro v K w43 (⟨rfl, rfl⟩) h44
      refine ⟨_, rfl, ?_⟩
      have h45 : sat g w43 [Cl r37 [iV 0, iV 0, uV 0] 28, Cl r28 [iV 0, iV 0, uV 0] 28, Cl r18 [.pointer none, pV r15] 22, Cl r15 [.pointer none, .map none, .slice none 0 0] 76, Cl r5 [iV do_, iV ox, iV oy, uV oz, .string (St T1), iV hx, uV hy, iV dx, iV dy, uV dz, iV vn, iV rx, iV ry, uV rz, iV rs, iV rw, iV rt, iV rn, .string (St T2)] 69, Cl r1 [iV do_, iV ox, iV oy, uV oz, .string (St T1), iV hx, uV hy, iV dx, iV dy, uV dz, iV vn, iV rx, iV ry, uV rz, iV rs, iV rw, iV rt, iV rn, .string (St T2)] 69, Old wo, R] := h44
      refine zB0 [] [4, 5, 6, 7, 8] [(12, iV 1), (11, iV 0), (71, iV 1), (70, iV 0), (65, .tuple #[iV 0, iV 1])] (by kernel_rfl) ?_
      refine PO.mk ?_
      change WP _ _ (CA Try.f9 [1, 1, 1, 1, 0, 1, 0, 0, 1, 0, 0, 1, 1, 1, 1]) _ _ _
      refine fk_cut ([(1, pV r1), (4, .slice (some ⟨r18, 0, none⟩) 2 2), (5, iV 0), (6, .pointer none), (7, pV r28), (8, iV 1), (9, pV r37), (10, iV 1), (11, iV 0), (12, iV 1)] : Fr) (by kernel_rfl) (fun a => WP _ _ _ _ a _) (fun lr46 => ?_)
      refine zSq (by kernel_rfl) ?_
      refine zPl [0, 1, 2, 3, 4, 5, 6, 7, 8, 9] (by kernel_rfl) ?_
      refine zBb [3, 4, 5, 6, 7, 8, 9] [(75, .agg #[iV dx, iV dy, uV dz]), (74, .pointer (some ⟨r1, 7, none⟩)), (73, .pointer none)] [⟨0, [], none⟩, ⟨1, [], none⟩, ⟨2, [iV dx, iV dy, uV dz], none⟩] [(2, ⟨r1, 7, none⟩, iV dx), (2, ⟨r1, 8, none⟩, iV dy), (2, ⟨r1, 9, none⟩, uV dz)] [] (by kernel_rfl) trivial (AllC_cons (sat_cell h45 5 rfl rfl) (AllC_cons (sat_cell h45 5 rfl rfl) (AllC_cons (sat_cell h45 5 rfl rfl) (AllC_nil _)))) ?_
      refine plain_act (i := 3) (by kernel_rfl) ?_
      refine zCl 76 Try.call26 (thnd_n dx dy dz) h45 (by kernel_rfl) ?_
      rintro v K w47 (⟨rfl, rfl⟩) h48
      refine ⟨_, rfl, ?_⟩
      have h49 : sat g w47 [Cl r37 [iV 0, iV 0, uV 0] 28, Cl r28 [iV 0, iV 0, uV 0] 28, Cl r18 [.pointer none, pV r15] 22, Cl r15 [.pointer none, .map none, .slice none 0 0] 76, Cl r5 [iV do_, iV ox, iV oy, uV oz, .string (St T1), iV hx, uV hy, iV dx, iV dy, uV dz, iV vn, iV rx, iV ry, uV rz, iV rs, iV rw, iV rt, iV rn, .string (St T2)] 69, Cl r1 [iV do_, iV ox, iV oy, uV oz, .string (St T1), iV hx, uV hy, iV dx, iV dy, uV dz, iV vn, iV rx, iV ry, uV rz, iV rs, iV rw, iV rt, iV rn, .string (St T2)] 69, Old wo, R] := h48
      refine zB0 [7, 8, 9] [4, 5, 6] [(78, iV 1), (77, .agg #[iV 0, uV 0]), (72, .tuple #[.agg #[iV 0, uV 0], iV 1])] (by kernel_rfl) ?_
      refine plain_act (i := 7) (by kernel_rfl) ?_
      refine an_new (d := 13) (fun xb_ => pV xb_) (fun xb_ => Obj.cells [iV 0, uV 0].toArray 34 (0, 0)) (fun xb_ => by kernel_rfl) (by kernel_rfl) rfl h49 ?_
      intro r50 w51 (h52 : sat g w51 [Cl r50 [iV 0, uV 0] 34, Cl r37 [iV 0, iV 0, uV 0] 28, Cl r28 [iV 0, iV 0, uV 0] 28, Cl r18 [.pointer none, pV r15] 22, Cl r15 [.pointer none, .map none, .slice none 0 0] 76, Cl r5 [iV do_, iV ox, iV oy, uV oz, .string (St T1), iV hx, uV hy, iV dx, iV dy, uV dz, iV vn, iV rx, iV ry, uV rz, iV rs, iV rw, iV rt, iV rn, .string (St T2)] 69, Cl r1 [iV do_, iV ox, iV oy, uV oz, .string (St T1), iV hx, uV hy, iV dx, iV dy, uV dz, iV vn, iV rx, iV ry, uV rz, iV rs, iV rw, iV rt, iV rn, .string (St T2)] 69, Old wo, R])
      refine plain_act (i := 8) (by kernel_rfl) ?_
      refine an_store [(0, iV 0), (1, uV 0)] (cs' := [iV 0, uV 0]) (by kernel_rfl) (by kernel_rfl) (allq ⟨⟨by simp, rfl⟩, ⟨by simp, rfl⟩, trivial⟩) rfl h52 ?_
      intro w53 (h54 : sat g w53 [Cl r50 [iV 0, uV 0] 34, Cl r37 [iV 0, iV 0, uV 0] 28, Cl r28 [iV 0, iV 0, uV 0] 28, Cl r18 [.pointer none, pV r15] 22, Cl r15 [.pointer none, .map none, .slice none 0 0] 76, Cl r5 [iV do_, iV ox, iV oy, uV oz, .string (St T1), iV hx, uV hy, iV dx, iV dy, uV dz, iV vn, iV rx, iV ry, uV rz, iV rs, iV rw, iV rt, iV rn, .string (St T2)] 69, Cl r1 [iV do_, iV ox, iV oy, uV oz, .string (St T1), iV hx, uV hy, iV dx, iV dy, uV dz, iV vn, iV rx, iV ry, uV rz, iV rs, iV rw, iV rt, iV rn, .string (St T2)] 69, Old wo, R])
      refine zB0 [] [9] [(14, iV 1)] (by kernel_rfl) ?_
      refine PO.mk ?_
      change WP _ _ (CA Try.f9 [1, 1, 1, 1, 0, 1, 0, 0, 1, 0, 0, 1, 1, 1, 1, 1]) _ _ _
      refine fk_cut ([(1, pV r1), (4, .slice (some ⟨r18, 0, none⟩) 2 2), (5, iV 0), (6, .pointer none), (7, pV r28), (8, iV 1), (9, pV r37), (10, iV 1), (11, iV 0), (12, iV 1), (13, pV r50), (14, iV 1)] : Fr) (by kernel_rfl) (fun a => WP _ _ _ _ a _) (fun lr55 => ?_)
      refine zSq (by kernel_rfl) ?_
      refine zPl [0, 1, 2, 3, 4, 5, 6, 7, 8, 9, 10] (by kernel_rfl) ?_
      refine zBb [4, 5, 6, 7, 8, 9, 10] [(83, iV dy), (82, .pointer (some ⟨r1, 8, none⟩)), (81, .pointer (some ⟨r1, 7, none⟩)), (80, .pointer none)] [⟨0, [], none⟩, ⟨1, [], none⟩, ⟨2, [], none⟩, ⟨3, [iV dy], none⟩] [(3, ⟨r1, 8, none⟩, iV dy)] [] (by kernel_rfl) trivial (AllC_cons (sat_cell h54 6 rfl rfl) (AllC_nil _)) ?_
      refine plain_act (i := 4) (by kernel_rfl) ?_
      refine zCl 84 Try.call34 (tat_n dy) h54 (by kernel_rfl) ?_
      rintro v K w56 (⟨rfl, rfl⟩) h57
      refine ⟨_, rfl, ?_⟩
      have h58 : sat g w56 [Cl r50 [iV 0, uV 0] 34, Cl r37 [iV 0, iV 0, uV 0] 28, Cl r28 [iV 0, iV 0, uV 0] 28, Cl r18 [.pointer none, pV r15] 22, Cl r15 [.pointer none, .map none, .slice none 0 0] 76, Cl r5 [iV do_, iV ox, iV oy, uV oz, .string (St T1), iV hx, uV hy, iV dx, iV dy, uV dz, iV vn, iV rx, iV ry, uV rz, iV rs, iV rw, iV rt, iV rn, .string (St T2)] 69, Cl r1 [iV do_, iV ox, iV oy, uV oz, .string (St T1), iV hx, uV hy, iV dx, iV dy, uV dz, iV vn, iV rx, iV ry, uV rz, iV rs, iV rw, iV rt, iV rn, .string (St T2)] 69, Old wo, R] := h57
      refine zB0 [8, 9, 10] [5, 6, 7] [(86, .bool false), (85, .agg #[iV 0, iV 0, uV 0]), (79, .tuple #[.agg #[iV 0, iV 0, uV 0], .bool false])] (by kernel_rfl) ?_
      refine plain_act (i := 8) (by kernel_rfl) ?_
      refine an_new (d := 15) (fun xb_ => pV xb_) (fun xb_ => Obj.cells [iV 0, iV 0, uV 0].toArray 28 (0, 0)) (fun xb_ => by kernel_rfl) (by kernel_rfl) rfl h58 ?_
      intro r59 w60 (h61 : sat g w60 [Cl r59 [iV 0, iV 0, uV 0] 28, Cl r50 [iV 0, uV 0] 34, Cl r37 [iV 0, iV 0, uV 0] 28, Cl r28 [iV 0, iV 0, uV 0] 28, Cl r18 [.pointer none, pV r15] 22, Cl r15 [.pointer none, .map none, .slice none 0 0] 76, Cl r5 [iV do_, iV ox, iV oy, uV oz, .string (St T1), iV hx, uV hy, iV dx, iV dy, uV dz, iV vn, iV rx, iV ry, uV rz, iV rs, iV rw, iV rt, iV rn, .string (St T2)] 69, Cl r1 [iV do_, iV ox, iV oy, uV oz, .string (St T1), iV hx, uV hy, iV dx, iV dy, uV dz, iV vn, iV rx, iV ry, uV rz, iV rs, iV rw, iV rt, iV rn, .string (St T2)] 69, Old wo, R])
      refine plain_act (i := 9) (by kernel_rfl) ?_
      refine an_store [(0, iV 0), (1, iV 0), (2, uV 0)] (cs' := [iV 0, iV 0, uV 0]) (by kernel_rfl) (by kernel_rfl) (allq ⟨⟨by simp, rfl⟩, ⟨by simp, rfl⟩, ⟨by simp, rfl⟩, trivial⟩) rfl h61 ?_
      intro w62 (h63 : sat g w62 [Cl r59 [iV 0, iV 0, uV 0] 28, Cl r50 [iV 0, uV 0] 34, Cl r37 [iV 0, iV 0, uV 0] 28, Cl r28 [iV 0, iV 0, uV 0] 28, Cl r18 [.pointer none, pV r15] 22, Cl r15 [.pointer none, .map none, .slice none 0 0] 76, Cl r5 [iV do_, iV ox, iV oy, uV oz, .string (St T1), iV hx, uV hy, iV dx, iV dy, uV dz, iV vn, iV rx, iV ry, uV rz, iV rs, iV rw, iV rt, iV rn, .string (St T2)] 69, Cl r1 [iV do_, iV ox, iV oy, uV oz, .string (St T1), iV hx, uV hy, iV dx, iV dy, uV dz, iV vn, iV rx, iV ry, uV rz, iV rs, iV rw, iV rt, iV rn, .string (St T2)] 69, Old wo, R])
      refine zB0 [] [10] [(16, .bool false)] (by kernel_rfl) ?_
      refine PO.mk ?_
      change WP _ _ (CA Try.f9 [1, 1, 1, 1, 0, 1, 0, 0, 1, 0, 0, 1, 1, 1, 1, 1, 1]) _ _ _
      refine fk_cut ([(1, pV r1), (4, .slice (some ⟨r18, 0, none⟩) 2 2), (5, iV 0), (6, .pointer none), (7, pV r28), (8, iV 1), (9, pV r37), (10, iV 1), (11, iV 0), (12, iV 1), (13, pV r50), (14, iV 1), (15, pV r59), (16, .bool false)] : Fr) (by kernel_rfl) (fun a => WP _ _ _ _ a _) (fun lr64 => ?_)
      refine zSq (by kernel_rfl) ?_
      refine zPl [0, 1, 2, 3, 4, 5, 6, 7, 8, 9, 10] (by kernel_rfl) ?_
      refine zBb [3, 4, 5, 6, 7, 8, 9, 10] [(90, .agg #[iV dx, iV dy, uV dz]), (89, .pointer (some ⟨r1, 7, none⟩)), (88, .pointer none)] [⟨0, [], none⟩, ⟨1, [], none⟩, ⟨2, [iV dx, iV dy, uV dz], none⟩] [(2, ⟨r1, 7, none⟩, iV dx), (2, ⟨r1, 8, none⟩, iV dy), (2, ⟨r1, 9, none⟩, uV dz)] [] (by kernel_rfl) trivial (AllC_cons (sat_cell h63 7 rfl rfl) (AllC_cons (sat_cell h63 7 rfl rfl) (AllC_cons (sat_cell h63 7 rfl rfl) (AllC_nil _)))) ?_
      refine plain_act (i := 3) (by kernel_rfl) ?_
      refine zCl 91 Try.call15 (tclose_n dx dy dz) h63 (by kernel_rfl) ?_
      rintro v K w65 (⟨rfl, rfl⟩) h66
      refine ⟨_, rfl, ?_⟩
      have h67 : sat g w65 [Cl r59 [iV 0, iV 0, uV 0] 28, Cl r50 [iV 0, uV 0] 34, Cl r37 [iV 0, iV 0, uV 0] 28, Cl r28 [iV 0, iV 0, uV 0] 28, Cl r18 [.pointer none, pV r15] 22, Cl r15 [.pointer none, .map none, .slice none 0 0] 76, Cl r5 [iV do_, iV ox, iV oy, uV oz, .string (St T1), iV hx, uV hy, iV dx, iV dy, uV dz, iV vn, iV rx, iV ry, uV rz, iV rs, iV rw, iV rt, iV rn, .string (St T2)] 69, Cl r1 [iV do_, iV ox, iV oy, uV oz, .string (St T1), iV hx, uV hy, iV dx, iV dy, uV dz, iV vn, iV rx, iV ry, uV rz, iV rs, iV rw, iV rt, iV rn, .string (St T2)] 69, Old wo, R] := h66
      refine zB0 [] [4, 5, 6, 7, 8, 9, 10] [(19, iV 1), (18, .bool false), (17, iV 0), (94, iV 1), (93, .bool false), (92, iV 0), (87, .tuple #[iV 0, .bool false, iV 1])] (by kernel_rfl) ?_
      refine PO.mk ?_
      change WP _ _ (CA Try.f9 [1, 1, 1, 1, 0, 1, 0, 0, 1, 0, 0, 1, 1, 1, 1, 1, 1, 1]) _ _ _
      refine fk_cut ([(1, pV r1), (4, .slice (some ⟨r18, 0, none⟩) 2 2), (5, iV 0), (6, .pointer none), (7, pV r28), (8, iV 1), (9, pV r37), (10, iV 1), (11, iV 0), (12, iV 1), (13, pV r50), (14, iV 1), (15, pV r59), (16, .bool false), (17, iV 0), (18, .bool false), (19, iV 1)] : Fr) (by kernel_rfl) (fun a => WP _ _ _ _ a _) (fun lr68 => ?_)
      refine zSq (by kernel_rfl) ?_
      refine zPl [0, 1, 2, 3, 4, 5, 6, 7, 8] (by kernel_rfl) ?_
      refine zBb [3, 4, 5, 6, 7, 8] [(98, iV vn), (97, .pointer (some ⟨r1, 10, none⟩)), (96, .pointer none)] [⟨0, [], none⟩, ⟨1, [], none⟩, ⟨2, [iV vn], none⟩] [(2, ⟨r1, 10, none⟩, iV vn)] [] (by kernel_rfl) trivial (AllC_cons (sat_cell h67 7 rfl rfl) (AllC_nil _)) ?_
      refine plain_act (i := 3) (by kernel_rfl) ?_
      refine zCl 99 Try.call31 (texp_n vn) h67 (by kernel_rfl) ?_
      rintro v K w69 (⟨rfl, rfl⟩) h70
      refine ⟨_, rfl, ?_⟩
      have h71 : sat g w69 [Cl r59 [iV 0, iV 0, uV 0] 28, Cl r50 [iV 0, uV 0] 34, Cl r37 [iV 0, iV 0, uV 0] 28, Cl r28 [iV 0, iV 0, uV 0] 28, Cl r18 [.pointer none, pV r15] 22, Cl r15 [.pointer none, .map none, .slice none 0 0] 76, Cl r5 [iV do_, iV ox, iV oy, uV oz, .string (St T1), iV hx, uV hy, iV dx, iV dy, uV dz, iV vn, iV rx, iV ry, uV rz, iV rs, iV rw, iV rt, iV rn, .string (St T2)] 69, Cl r1 [iV do_, iV ox, iV oy, uV oz, .string (St T1), iV hx, uV hy, iV dx, iV dy, uV dz, iV vn, iV rx, iV ry, uV rz, iV rs, iV rw, iV rt, iV rn, .string (St T2)] 69, Old wo, R] := h70
      refine zB0 [] [4, 5, 6, 7, 8] [(21, iV 1), (20, .slice none 0 0), (101, iV 1), (100, .slice none 0 0), (95, .tuple #[.slice none 0 0, iV 1])] (by kernel_rfl) ?_
      refine PO.mk ?_
      change WP _ _ (CA Try.f9 [1, 1, 1, 1, 0, 1, 0, 0, 1, 0, 0, 1, 1, 1, 1, 1, 1, 1, 1]) _ _ _
      refine fk_cut ([(1, pV r1), (4, .slice (some ⟨r18, 0, none⟩) 2 2), (5, iV 0), (6, .pointer none), (7, pV r28), (8, iV 1), (9, pV r37), (10, iV 1), (11, iV 0), (12, iV 1), (13, pV r50), (14, iV 1), (15, pV r59), (16, .bool false), (17, iV 0), (18, .bool false), (19, iV 1), (20, .slice none 0 0), (21, iV 1)] : Fr) (by kernel_rfl) (fun a => WP _ _ _ _ a _) (fun lr72 => ?_)
      refine zSq (by kernel_rfl) ?_
      refine zPl [0, 1, 2, 3, 4, 5, 6, 7, 8, 9] (by kernel_rfl) ?_
      refine zBb [3, 4, 5, 6, 7, 8, 9] [(105, iV vn), (104, .pointer (some ⟨r1, 10, none⟩)), (103, .pointer none)] [⟨0, [], none⟩, ⟨1, [], none⟩, ⟨2, [iV vn], none⟩] [(2, ⟨r1, 10, none⟩, iV vn)] [] (by kernel_rfl) trivial (AllC_cons (sat_cell h71 7 rfl rfl) (AllC_nil _)) ?_
      refine plain_act (i := 3) (by kernel_rfl) ?_
      refine zCl 106 Try.call20 (tget_n vn) h71 (by kernel_rfl) ?_
      rintro v K w73 (⟨rfl, rfl⟩) h74
      refine ⟨_, rfl, ?_⟩
      have h75 : sat g w73 [Cl r59 [iV 0, iV 0, uV 0] 28, Cl r50 [iV 0, uV 0] 34, Cl r37 [iV 0, iV 0, uV 0] 28, Cl r28 [iV 0, iV 0, uV 0] 28, Cl r18 [.pointer none, pV r15] 22, Cl r15 [.pointer none, .map none, .slice none 0 0] 76, Cl r5 [iV do_, iV ox, iV oy, uV oz, .string (St T1), iV hx, uV hy, iV dx, iV dy, uV dz, iV vn, iV rx, iV ry, uV rz, iV rs, iV rw, iV rt, iV rn, .string (St T2)] 69, Cl r1 [iV do_, iV ox, iV oy, uV oz, .string (St T1), iV hx, uV hy, iV dx, iV dy, uV dz, iV vn, iV rx, iV ry, uV rz, iV rs, iV rw, iV rt, iV rn, .string (St T2)] 69, Old wo, R] := h74
      refine zB0 [7, 8, 9] [4, 5, 6] [(108, iV 1), (107, .agg #[iV 0, iV 0, uV 0, iV 0, iV 0, iV 0, iV 0, .string (St [])]), (102, .tuple #[.agg #[iV 0, iV 0, uV 0, iV 0, iV 0, iV 0, iV 0, .string (St [])], iV 1])] (by kernel_rfl) ?_
      refine plain_act (i := 7) (by kernel_rfl) ?_
      refine an_new (d := 22) (fun xb_ => pV xb_) (fun xb_ => Obj.cells [iV 0, iV 0, uV 0, iV 0, iV 0, iV 0, iV 0, .string (St [])].toArray 42 (0, 0)) (fun xb_ => by kernel_rfl) (by kernel_rfl) rfl h75 ?_
      intro r76 w77 (h78 : sat g w77 [Cl r76 [iV 0, iV 0, uV 0, iV 0, iV 0, iV 0, iV 0, .string (St [])] 42, Cl r59 [iV 0, iV 0, uV 0] 28, Cl r50 [iV 0, uV 0] 34, Cl r37 [iV 0, iV 0, uV 0] 28, Cl r28 [iV 0, iV 0, uV 0] 28, Cl r18 [.pointer none, pV r15] 22, Cl r15 [.pointer none, .map none, .slice none 0 0] 76, Cl r5 [iV do_, iV ox, iV oy, uV oz, .string (St T1), iV hx, uV hy, iV dx, iV dy, uV dz, iV vn, iV rx, iV ry, uV rz, iV rs, iV rw, iV rt, iV rn, .string (St T2)] 69, Cl r1 [iV do_, iV ox, iV oy, uV oz, .string (St T1), iV hx, uV hy, iV dx, iV dy, uV dz, iV vn, iV rx, iV ry, uV rz, iV rs, iV rw, iV rt, iV rn, .string (St T2)] 69, Old wo, R])
      refine plain_act (i := 8) (by kernel_rfl) ?_
      refine an_store [(0, iV 0), (1, iV 0), (2, uV 0), (3, iV 0), (4, iV 0), (5, iV 0), (6, iV 0), (7, .string (St []))] (cs' := [iV 0, iV 0, uV 0, iV 0, iV 0, iV 0, iV 0, .string (St [])]) (by kernel_rfl) (by kernel_rfl) (allq ⟨⟨by simp, rfl⟩, ⟨by simp, rfl⟩, ⟨by simp, rfl⟩, ⟨by simp, rfl⟩, ⟨by simp, rfl⟩, ⟨by simp, rfl⟩, ⟨by simp, rfl⟩, ⟨by simp, rfl⟩, trivial⟩) rfl h78 ?_
      intro w79 (h80 : sat g w79 [Cl r76 [iV 0, iV 0, uV 0, iV 0, iV 0, iV 0, iV 0, .string (St [])] 42, Cl r59 [iV 0, iV 0, uV 0] 28, Cl r50 [iV 0, uV 0] 34, Cl r37 [iV 0, iV 0, uV 0] 28, Cl r28 [iV 0, iV 0, uV 0] 28, Cl r18 [.pointer none, pV r15] 22, Cl r15 [.pointer none, .map none, .slice none 0 0] 76, Cl r5 [iV do_, iV ox, iV oy, uV oz, .string (St T1), iV hx, uV hy, iV dx, iV dy, uV dz, iV vn, iV rx, iV ry, uV rz, iV rs, iV rw, iV rt, iV rn, .string (St T2)] 69, Cl r1 [iV do_, iV ox, iV oy, uV oz, .string (St T1), iV hx, uV hy, iV dx, iV dy, uV dz, iV vn, iV rx, iV ry, uV rz, iV rs, iV rw, iV rt, iV rn, .string (St T2)] 69, Old wo, R])
      refine zB0 [] [9] [(23, iV 1)] (by kernel_rfl) ?_
      refine PO.mk ?_
      change WP _ _ (CA Try.f9 [1, 1, 1, 1, 0, 1, 0, 0, 1, 0, 0, 1, 1, 1, 1, 1, 1, 1, 1, 1]) _ _ _
      refine fk_cut ([(1, pV r1), (4, .slice (some ⟨r18, 0, none⟩) 2 2), (5, iV 0), (6, .pointer none), (7, pV r28), (8, iV 1), (9, pV r37), (10, iV 1), (11, iV 0), (12, iV 1), (13, pV r50), (14, iV 1), (15, pV r59), (16, .bool false), (17, iV 0), (18, .bool false), (19, iV 1), (20, .slice none 0 0), (21, iV 1), (22, pV r76), (23, iV 1)] : Fr) (by kernel_rfl) (fun a => WP _ _ _ _ a _) (fun lr81 => ?_)
      refine zSq (by kernel_rfl) ?_
      refine zPl [0, 1, 2, 3, 4, 5, 6, 7, 8] (by kernel_rfl) ?_
      refine zBb [3, 4, 5, 6, 7, 8] [(112, iV vn), (111, .pointer (some ⟨r1, 10, none⟩)), (110, .pointer none)] [⟨0, [], none⟩, ⟨1, [], none⟩, ⟨2, [iV vn], none⟩] [(2, ⟨r1, 10, none⟩, iV vn)] [] (by kernel_rfl) trivial (AllC_cons (sat_cell h80 8 rfl rfl) (AllC_nil _)) ?_
      refine plain_act (i := 3) (by kernel_rfl) ?_
      refine zCl 113 Try.call21 (tdescs_n vn) h80 (by kernel_rfl) ?_
      rintro v K w82 (⟨rfl, rfl⟩) h83
      refine ⟨_, rfl, ?_⟩
      have h84 : sat g w82 [Cl r76 [iV 0, iV 0, uV 0, iV 0, iV 0, iV 0, iV 0, .string (St [])] 42, Cl r59 [iV 0, iV 0, uV 0] 28, Cl r50 [iV 0, uV 0] 34, Cl r37 [iV 0, iV 0, uV 0] 28, Cl r28 [iV 0, iV 0, uV 0] 28, Cl r18 [.pointer none, pV r15] 22, Cl r15 [.pointer none, .map none, .slice none 0 0] 76, Cl r5 [iV do_, iV ox, iV oy, uV oz, .string (St T1), iV hx, uV hy, iV dx, iV dy, uV dz, iV vn, iV rx, iV ry, uV rz, iV rs, iV rw, iV rt, iV rn, .string (St T2)] 69, Cl r1 [iV do_, iV ox, iV oy, uV oz, .string (St T1), iV hx, uV hy, iV dx, iV dy, uV dz, iV vn, iV rx, iV ry, uV rz, iV rs, iV rw, iV rt, iV rn, .string (St T2)] 69, Old wo, R] := h83
      refine zB0 [] [4, 5, 6, 7, 8] [(25, iV 1), (24, .slice none 0 0), (115, iV 1), (114, .slice none 0 0), (109, .tuple #[.slice none 0 0, iV 1])] (by kernel_rfl) ?_
      refine PO.mk ?_
      change WP _ _ (CA Try.f9 [1, 1, 1, 1, 0, 1, 0, 0, 1, 0, 0, 1, 1, 1, 1, 1, 1, 1, 1, 1, 1]) _ _ _
      refine fk_cut ([(1, pV r1), (4, .slice (some ⟨r18, 0, none⟩) 2 2), (5, iV 0), (6, .pointer none), (7, pV r28), (8, iV 1), (9, pV r37), (10, iV 1), (11, iV 0), (12, iV 1), (13, pV r50), (14, iV 1), (15, pV r59), (16, .bool false), (17, iV 0), (18, .bool false), (19, iV 1), (20, .slice none 0 0), (21, iV 1), (22, pV r76), (23, iV 1), (24, .slice none 0 0), (25, iV 1)] : Fr) (by kernel_rfl) (fun a => WP _ _ _ _ a _) (fun lr85 => ?_)
      refine zSq (by kernel_rfl) ?_
      refine zPl [0, 1, 2, 3, 4, 5, 6, 7, 8, 9, 10, 11, 12, 13, 14, 15, 16, 17, 18, 19, 20, 21, 22, 23, 24, 25, 26, 27, 28, 29, 30, 31, 32, 33, 34, 35, 36, 37, 38, 39, 40, 41, 42, 43, 44, 45, 46, 47, 48, 49, 50, 51, 52, 53, 54, 55, 56, 57, 58, 59, 60, 61, 62, 63, 64, 65, 66, 67, 68, 69, 70, 71, 72, 73, 74, 75, 76, 77, 78, 79, 80, 81, 82, 83, 84, 85, 86, 87, 88, 89, 90, 91, 92, 93, 94, 95, 96, 97, 98, 99, 100, 101, 102, 103, 104, 105, 106, 107, 108] (by kernel_rfl) ?_
      refine zBb [2, 3, 4, 5, 6, 7, 8, 9, 10, 11, 12, 13, 14, 15, 16, 17, 18, 19, 20, 21, 22, 23, 24, 25, 26, 27, 28, 29, 30, 31, 32, 33, 34, 35, 36, 37, 38, 39, 40, 41, 42, 43, 44, 45, 46, 47, 48, 49, 50, 51, 52, 53, 54, 55, 56, 57, 58, 59, 60, 61, 62, 63, 64, 65, 66, 67, 68, 69, 70, 71, 72, 73, 74, 75, 76, 77, 78, 79, 80, 81, 82, 83, 84, 85, 86, 87, 88, 89, 90, 91, 92, 93, 94, 95, 96, 97, 98, 99, 100, 101, 102, 103, 104, 105, 106, 107, 108] [(117, .agg #[iV 0, iV 0, uV 0]), (116, .agg #[iV 0, iV 0, uV 0])] [⟨0, [iV 0, iV 0, uV 0], none⟩, ⟨1, [], none⟩] [(0, ⟨r28, 0, none⟩, iV 0), (0, ⟨r28, 1, none⟩, iV 0), (0, ⟨r28, 2, none⟩, uV 0)] [] (by kernel_rfl) trivial (AllC_cons (sat_cell h84 4 rfl rfl) (AllC_cons (sat_cell h84 4 rfl rfl) (AllC_cons (sat_cell h84 4 rfl rfl) (AllC_nil _)))) ?_
      refine plain_law (i := 2) 118 (.bool false) (by kernel_rfl) (seq28_neq_t (o := opA (RA Try.f9 [1, 1, 1, 1, 0, 1, 0, 0, 1, 0, 0, 1, 1, 1, 1, 1, 1, 1, 1, 1, 1, 0]) 2) (x := (Operand.tmp 116)) (y := (Operand.tmp 117)) 0 0 0 0 0 0 (by kernel_rfl) (by kernel_rfl) (by kernel_rfl) ⟨rfl, rfl, rfl⟩ _) ?_
      refine zBb [10, 11, 12, 13, 14, 15, 16, 17, 18, 19, 20, 21, 22, 23, 24, 25, 26, 27, 28, 29, 30, 31, 32, 33, 34, 35, 36, 37, 38, 39, 40, 41, 42, 43, 44, 45, 46, 47, 48, 49, 50, 51, 52, 53, 54, 55, 56, 57, 58, 59, 60, 61, 62, 63, 64, 65, 66, 67, 68, 69, 70, 71, 72, 73, 74, 75, 76, 77, 78, 79, 80, 81, 82, 83, 84, 85, 86, 87, 88, 89, 90, 91, 92, 93, 94, 95, 96, 97, 98, 99, 100, 101, 102, 103, 104, 105, 106, 107, 108] [(125, .agg #[iV 0, iV 0, uV 0]), (124, .agg #[iV 0, iV 0, uV 0]), (123, .bool false), (122, .bool false), (121, .bool false), (120, iV 1), (119, .bool false)] [⟨3, [], none⟩, ⟨4, [], none⟩, ⟨5, [], none⟩, ⟨6, [], none⟩, ⟨7, [], none⟩, ⟨8, [iV 0, iV 0, uV 0], none⟩, ⟨9, [iV 0, iV 0, uV 0], none⟩] [(9, ⟨r28, 0, none⟩, iV 0), (9, ⟨r28, 1, none⟩, iV 0), (9, ⟨r28, 2, none⟩, uV 0), (8, ⟨r37, 0, none⟩, iV 0), (8, ⟨r37, 1, none⟩, iV 0), (8, ⟨r37, 2, none⟩, uV 0)] [] (by kernel_rfl) trivial (AllC_cons (sat_cell h84 4 rfl rfl) (AllC_cons (sat_cell h84 4 rfl rfl) (AllC_cons (sat_cell h84 4 rfl rfl) (AllC_cons (sat_cell h84 3 rfl rfl) (AllC_cons (sat_cell h84 3 rfl rfl) (AllC_cons (sat_cell h84 3 rfl rfl) (AllC_nil _))))))) ?_
      refine plain_law (i := 10) 126 (.bool false) (by kernel_rfl) (seq28_neq_t (o := opA (RA Try.f9 [1, 1, 1, 1, 0, 1, 0, 0, 1, 0, 0, 1, 1, 1, 1, 1, 1, 1, 1, 1, 1, 0]) 10) (x := (Operand.tmp 124)) (y := (Operand.tmp 125)) 0 0 0 0 0 0 (by kernel_rfl) (by kernel_rfl) (by kernel_rfl) ⟨rfl, rfl, rfl⟩ _) ?_
      refine zBb [27, 28, 29, 30, 31, 32, 33, 34, 35, 36, 37, 38, 39, 40, 41, 42, 43, 44, 45, 46, 47, 48, 49, 50, 51, 52, 53, 54, 55, 56, 57, 58, 59, 60, 61, 62, 63, 64, 65, 66, 67, 68, 69, 70, 71, 72, 73, 74, 75, 76, 77, 78, 79, 80, 81, 82, 83, 84, 85, 86, 87, 88, 89, 90, 91, 92, 93, 94, 95, 96, 97, 98, 99, 100, 101, 102, 103, 104, 105, 106, 107, 108] [(142, .agg #[iV 0, uV 0]), (141, .agg #[iV 0, uV 0]), (140, .bool false), (139, .bool false), (138, .bool false), (137, iV 1), (136, .bool false), (135, .bool false), (134, .bool false), (133, iV 0), (132, .bool false), (131, .bool false), (130, .bool false), (129, iV 1), (128, .bool false), (127, .bool false)] [⟨11, [], none⟩, ⟨12, [], none⟩, ⟨13, [], none⟩, ⟨14, [], none⟩, ⟨15, [], none⟩, ⟨16, [], none⟩, ⟨17, [], none⟩, ⟨18, [], none⟩, ⟨19, [], none⟩, ⟨20, [], none⟩, ⟨21, [], none⟩, ⟨22, [], none⟩, ⟨23, [], none⟩, ⟨24, [], none⟩, ⟨25, [iV 0, uV 0], none⟩, ⟨26, [], none⟩] [(25, ⟨r50, 0, none⟩, iV 0), (25, ⟨r50, 1, none⟩, uV 0)] [] (by kernel_rfl) trivial (AllC_cons (sat_cell h84 2 rfl rfl) (AllC_cons (sat_cell h84 2 rfl rfl) (AllC_nil _))) ?_
      refine fk_cut ([(142, .agg #[iV 0, uV 0]), (141, .agg #[iV 0, uV 0]), (140, .bool false), (1, pV r1), (4, .slice (some ⟨r18, 0, none⟩) 2 2), (5, iV 0), (6, .pointer none), (7, pV r28), (8, iV 1), (9, pV r37), (10, iV 1), (11, iV 0), (12, iV 1), (13, pV r50), (14, iV 1), (15, pV r59), (16, .bool false), (17, iV 0), (18, .bool false), (19, iV 1), (20, .slice none 0 0), (21, iV 1), (22, pV r76), (23, iV 1), (24, .slice none 0 0), (25, iV 1)] : Fr) (by kernel_rfl) (fun a => PO _ _ _ _ a _) (fun lr86 => ?_)
      refine plain_law (i := 27) 143 (.bool false) (by kernel_rfl) (seq34_neq_t (o := opA (RA Try.f9 [1, 1, 1, 1, 0, 1, 0, 0, 1, 0, 0, 1, 1, 1, 1, 1, 1, 1, 1, 1, 1, 0]) 27) (x := (Operand.tmp 141)) (y := (Operand.tmp 142)) 0 0 0 0 (by kernel_rfl) (by kernel_rfl) (by kernel_rfl) ⟨rfl, rfl⟩ _) ?_
      refine zBb [36, 37, 38, 39, 40, 41, 42, 43, 44, 45, 46, 47, 48, 49, 50, 51, 52, 53, 54, 55, 56, 57, 58, 59, 60, 61, 62, 63, 64, 65, 66, 67, 68, 69, 70, 71, 72, 73, 74, 75, 76, 77, 78, 79, 80, 81, 82, 83, 84, 85, 86, 87, 88, 89, 90, 91, 92, 93, 94, 95, 96, 97, 98, 99, 100, 101, 102, 103, 104, 105, 106, 107, 108] [(151, .agg #[iV 0, iV 0, uV 0]), (150, .agg #[iV 0, iV 0, uV 0]), (149, .bool false), (148, .bool false), (147, .bool false), (146, iV 1), (145, .bool false), (144, .bool false)] [⟨28, [], none⟩, ⟨29, [], none⟩, ⟨30, [], none⟩, ⟨31, [], none⟩, ⟨32, [], none⟩, ⟨33, [], none⟩, ⟨34, [iV 0, iV 0, uV 0], none⟩, ⟨35, [iV 0, iV 0, uV 0], none⟩] [(35, ⟨r28, 0, none⟩, iV 0), (35, ⟨r28, 1, none⟩, iV 0), (35, ⟨r28, 2, none⟩, uV 0), (34, ⟨r59, 0, none⟩, iV 0), (34, ⟨r59, 1, none⟩, iV 0), (34, ⟨r59, 2, none⟩, uV 0)] [] (by kernel_rfl) trivial (AllC_cons (sat_cell h84 4 rfl rfl) (AllC_cons (sat_cell h84 4 rfl rfl) (AllC_cons (sat_cell h84 4 rfl rfl) (AllC_cons (sat_cell h84 1 rfl rfl) (AllC_cons (sat_cell h84 1 rfl rfl) (AllC_cons (sat_cell h84 1 rfl rfl) (AllC_nil _))))))) ?_
      refine fk_cut ([(151, .agg #[iV 0, iV 0, uV 0]), (150, .agg #[iV 0, iV 0, uV 0]), (149, .bool false), (1, pV r1), (4, .slice (some ⟨r18, 0, none⟩) 2 2), (5, iV 0), (6, .pointer none), (7, pV r28), (8, iV 1), (9, pV r37), (10, iV 1), (11, iV 0), (12, iV 1), (13, pV r50), (14, iV 1), (15, pV r59), (16, .bool false), (17, iV 0), (18, .bool false), (19, iV 1), (20, .slice none 0 0), (21, iV 1), (22, pV r76), (23, iV 1), (24, .slice none 0 0), (25, iV 1)] : Fr) (by kernel_rfl) (fun a => PO _ _ _ _ a _) (fun lr87 => ?_)
      refine plain_law (i := 36) 152 (.bool false) (by kernel_rfl) (seq28_neq_t (o := opA (RA Try.f9 [1, 1, 1, 1, 0, 1, 0, 0, 1, 0, 0, 1, 1, 1, 1, 1, 1, 1, 1, 1, 1, 0]) 36) (x := (Operand.tmp 150)) (y := (Operand.tmp 151)) 0 0 0 0 0 0 (by kernel_rfl) (by kernel_rfl) (by kernel_rfl) ⟨rfl, rfl, rfl⟩ _) ?_
      refine zBb [64, 65, 66, 67, 68, 69, 70, 71, 72, 73, 74, 75, 76, 77, 78, 79, 80, 81, 82, 83, 84, 85, 86, 87, 88, 89, 90, 91, 92, 93, 94, 95, 96, 97, 98, 99, 100, 101, 102, 103, 104, 105, 106, 107, 108] [(179, .agg #[iV 0, iV 0, uV 0, iV 0, iV 0, iV 0, iV 0, .string (St [])]), (178, .agg #[iV 0, iV 0, uV 0, iV 0, iV 0, iV 0, iV 0, .string (St [])]), (177, .bool false), (176, .bool false), (175, .bool false), (174, iV 1), (173, .bool false), (172, .bool false), (171, .bool false), (170, iV 0), (169, .slice none 0 0), (168, .bool false), (167, .bool false), (166, .bool false), (165, iV 1), (164, .bool false), (163, .bool false), (162, .bool false), (161, .bool false), (160, .bool false), (159, .bool false), (158, iV 0), (157, .bool false), (156, .bool false), (155, .bool false), (154, .bool false), (153, .bool false)] [⟨37, [], none⟩, ⟨38, [], none⟩, ⟨39, [], none⟩, ⟨40, [], none⟩, ⟨41, [], none⟩, ⟨42, [], none⟩, ⟨43, [], none⟩, ⟨44, [], none⟩, ⟨45, [], none⟩, ⟨46, [], none⟩, ⟨47, [], none⟩, ⟨48, [], none⟩, ⟨49, [], none⟩, ⟨50, [], none⟩, ⟨51, [], none⟩, ⟨52, [], none⟩, ⟨53, [], none⟩, ⟨54, [], none⟩, ⟨55, [], none⟩, ⟨56, [], none⟩, ⟨57, [], none⟩, ⟨58, [], none⟩, ⟨59, [], none⟩, ⟨60, [], none⟩, ⟨61, [], none⟩, ⟨62, [iV 0, iV 0, uV 0, iV 0, iV 0, iV 0, iV 0, .string (St [])], none⟩, ⟨63, [], none⟩] [(62, ⟨r76, 0, none⟩, iV 0), (62, ⟨r76, 1, none⟩, iV 0), (62, ⟨r76, 2, none⟩, uV 0), (62, ⟨r76, 3, none⟩, iV 0), (62, ⟨r76, 4, none⟩, iV 0), (62, ⟨r76, 5, none⟩, iV 0), (62, ⟨r76, 6, none⟩, iV 0), (62, ⟨r76, 7, none⟩, .string (St []))] [] (by kernel_rfl) trivial (AllC_cons (sat_cell h84 0 rfl rfl) (AllC_cons (sat_cell h84 0 rfl rfl) (AllC_cons (sat_cell h84 0 rfl rfl) (AllC_cons (sat_cell h84 0 rfl rfl) (AllC_cons (sat_cell h84 0 rfl rfl) (AllC_cons (sat_cell h84 0 rfl rfl) (AllC_cons (sat_cell h84 0 rfl rfl) (AllC_cons (sat_cell h84 0 rfl rfl) (AllC_nil _))))))))) ?_
      refine fk_cut ([(179, .agg #[iV 0, iV 0, uV 0, iV 0, iV 0, iV 0, iV 0, .string (St [])]), (178, .agg #[iV 0, iV 0, uV 0, iV 0, iV 0, iV 0, iV 0, .string (St [])]), (177, .bool false), (1, pV r1), (4, .slice (some ⟨r18, 0, none⟩) 2 2), (5, iV 0), (6, .pointer none), (7, pV r28), (8, iV 1), (9, pV r37), (10, iV 1), (11, iV 0), (12, iV 1), (13, pV r50), (14, iV 1), (15, pV r59), (16, .bool false), (17, iV 0), (18, .bool false), (19, iV 1), (20, .slice none 0 0), (21, iV 1), (22, pV r76), (23, iV 1), (24, .slice none 0 0), (25, iV 1)] : Fr) (by kernel_rfl) (fun a => PO _ _ _ _ a _) (fun lr88 => ?_)
      refine plain_law (i := 64) 180 (.bool false) (by kernel_rfl) (seq42_neq_t (o := opA (RA Try.f9 [1, 1, 1, 1, 0, 1, 0, 0, 1, 0, 0, 1, 1, 1, 1, 1, 1, 1, 1, 1, 1, 0]) 64) (x := (Operand.tmp 178)) (y := (Operand.tmp 179)) 0 0 0 0 0 0 0 [] 0 0 0 0 0 0 0 [] (by kernel_rfl) (by kernel_rfl) (by kernel_rfl) ⟨rfl, rfl, rfl, rfl, rfl, rfl, rfl, rfl⟩ _) ?_
      refine zBb [85, 86, 87, 88, 89, 90, 91, 92, 93, 94, 95, 96, 97, 98, 99, 100, 101, 102, 103, 104, 105, 106, 107, 108] [(200, .agg #[iV rx, iV ry, uV rz, iV rs, iV rw, iV rt, iV rn, .string (St T2)]), (199, .pointer (some ⟨r1, 11, none⟩)), (198, iV vn), (197, .pointer (some ⟨r1, 10, none⟩)), (196, .pointer none), (195, .bool false), (194, .bool false), (193, .bool false), (192, iV 1), (191, .bool false), (190, .bool false), (189, .bool false), (188, iV 0), (187, .slice none 0 0), (186, .bool false), (185, .bool false), (184, .bool false), (183, iV 1), (182, .bool false), (181, .bool false)] [⟨65, [], none⟩, ⟨66, [], none⟩, ⟨67, [], none⟩, ⟨68, [], none⟩, ⟨69, [], none⟩, ⟨70, [], none⟩, ⟨71, [], none⟩, ⟨72, [], none⟩, ⟨73, [], none⟩, ⟨74, [], none⟩, ⟨75, [], none⟩, ⟨76, [], none⟩, ⟨77, [], none⟩, ⟨78, [], none⟩, ⟨79, [], none⟩, ⟨80, [], none⟩, ⟨81, [], none⟩, ⟨82, [iV vn], none⟩, ⟨83, [], none⟩, ⟨84, [iV rx, iV ry, uV rz, iV rs, iV rw, iV rt, iV rn, .string (St T2)], none⟩] [(84, ⟨r1, 11, none⟩, iV rx), (84, ⟨r1, 12, none⟩, iV ry), (84, ⟨r1, 13, none⟩, uV rz), (84, ⟨r1, 14, none⟩, iV rs), (84, ⟨r1, 15, none⟩, iV rw), (84, ⟨r1, 16, none⟩, iV rt), (84, ⟨r1, 17, none⟩, iV rn), (84, ⟨r1, 18, none⟩, .string (St T2)), (82, ⟨r1, 10, none⟩, iV vn)] [] (by kernel_rfl) trivial (AllC_cons (sat_cell h84 8 rfl rfl) (AllC_cons (sat_cell h84 8 rfl rfl) (AllC_cons (sat_cell h84 8 rfl rfl) (AllC_cons (sat_cell h84 8 rfl rfl) (AllC_cons (sat_cell h84 8 rfl rfl) (AllC_cons (sat_cell h84 8 rfl rfl) (AllC_cons (sat_cell h84 8 rfl rfl) (AllC_cons (sat_cell h84 8 rfl rfl) (AllC_cons (sat_cell h84 8 rfl rfl) (AllC_nil _)))))))))) ?_
      refine fk_cut ([(200, .agg #[iV rx, iV ry, uV rz, iV rs, iV rw, iV rt, iV rn, .string (St T2)]), (198, iV vn), (196, .pointer none), (195, .bool false), (1, pV r1), (4, .slice (some ⟨r18, 0, none⟩) 2 2), (5, iV 0), (6, .pointer none), (7, pV r28), (8, iV 1), (9, pV r37), (10, iV 1), (11, iV 0), (12, iV 1), (13, pV r50), (14, iV 1), (15, pV r59), (16, .bool false), (17, iV 0), (18, .bool false), (19, iV 1), (20, .slice none 0 0), (21, iV 1), (22, pV r76), (23, iV 1), (24, .slice none 0 0), (25, iV 1)] : Fr) (by kernel_rfl) (fun a => PO _ _ _ _ a _) (fun lr89 => ?_)
      refine plain_act (i := 85) (by kernel_rfl) ?_
      refine zCl 201 Try.call17 (tset_n vn rx ry rz rs rw rt rn T2) h84 (by kernel_rfl) ?_
      rintro v K w90 (⟨rfl, rfl⟩) h91
      refine ⟨_, rfl, ?_⟩
      have h92 : sat g w90 [Cl r76 [iV 0, iV 0, uV 0, iV 0, iV 0, iV 0, iV 0, .string (St [])] 42, Cl r59 [iV 0, iV 0, uV 0] 28, Cl r50 [iV 0, uV 0] 34, Cl r37 [iV 0, iV 0, uV 0] 28, Cl r28 [iV 0, iV 0, uV 0] 28, Cl r18 [.pointer none, pV r15] 22, Cl r15 [.pointer none, .map none, .slice none 0 0] 76, Cl r5 [iV do_, iV ox, iV oy, uV oz, .string (St T1), iV hx, uV hy, iV dx, iV dy, uV dz, iV vn, iV rx, iV ry, uV rz, iV rs, iV rw, iV rt, iV rn, .string (St T2)] 69, Cl r1 [iV do_, iV ox, iV oy, uV oz, .string (St T1), iV hx, uV hy, iV dx, iV dy, uV dz, iV vn, iV rx, iV ry, uV rz, iV rs, iV rw, iV rt, iV rn, .string (St T2)] 69, Old wo, R] := h91
      refine zB0 [90, 91, 92, 93, 94, 95, 96, 97, 98, 99, 100, 101, 102, 103, 104, 105, 106, 107, 108] [86, 87, 88, 89] [(205, .pointer none), (204, .bool false), (203, .bool false), (202, .bool false)] (by kernel_rfl) ?_
      refine plain_act (i := 90) (by kernel_rfl) ?_
      refine zCl 206 Try.call28 (tnums_n 1) h92 (by kernel_rfl) ?_
      rintro v K w93 (⟨rfl, rfl⟩) h94
      refine ⟨_, rfl, ?_⟩
      have h95 : sat g w93 [Cl r76 [iV 0, iV 0, uV 0, iV 0, iV 0, iV 0, iV 0, .string (St [])] 42, Cl r59 [iV 0, iV 0, uV 0] 28, Cl r50 [iV 0, uV 0] 34, Cl r37 [iV 0, iV 0, uV 0] 28, Cl r28 [iV 0, iV 0, uV 0] 28, Cl r18 [.pointer none, pV r15] 22, Cl r15 [.pointer none, .map none, .slice none 0 0] 76, Cl r5 [iV do_, iV ox, iV oy, uV oz, .string (St T1), iV hx, uV hy, iV dx, iV dy, uV dz, iV vn, iV rx, iV ry, uV rz, iV rs, iV rw, iV rt, iV rn, .string (St T2)] 69, Cl r1 [iV do_, iV ox, iV oy, uV oz, .string (St T1), iV hx, uV hy, iV dx, iV dy, uV dz, iV vn, iV rx, iV ry, uV rz, iV rs, iV rw, iV rt, iV rn, .string (St T2)] 69, Old wo, R] := h94
      refine zB0 [96, 97, 98, 99, 100, 101, 102, 103, 104, 105, 106, 107, 108] [91, 92, 93, 94, 95] [(211, .pointer none), (210, .bool false), (209, .bool false), (208, .bool false), (207, iV 0)] (by kernel_rfl) ?_
      refine fk_cut ([(211, .pointer none), (210, .bool false), (1, pV r1), (4, .slice (some ⟨r18, 0, none⟩) 2 2), (5, iV 0), (6, .pointer none), (7, pV r28), (8, iV 1), (9, pV r37), (10, iV 1), (11, iV 0), (12, iV 1), (13, pV r50), (14, iV 1), (15, pV r59), (16, .bool false), (17, iV 0), (18, .bool false), (19, iV 1), (20, .slice none 0 0), (21, iV 1), (22, pV r76), (23, iV 1), (24, .slice none 0 0), (25, iV 1)] : Fr) (by kernel_rfl) (fun a => PO _ _ _ _ a _) (fun lr96 => ?_)
      refine plain_act (i := 96) (by kernel_rfl) ?_
      refine zCl 212 Try.call22 (tlen_n) h95 (by kernel_rfl) ?_
      rintro v K w97 (⟨rfl, rfl⟩) h98
      refine ⟨_, rfl, ?_⟩
      have h99 : sat g w97 [Cl r76 [iV 0, iV 0, uV 0, iV 0, iV 0, iV 0, iV 0, .string (St [])] 42, Cl r59 [iV 0, iV 0, uV 0] 28, Cl r50 [iV 0, uV 0] 34, Cl r37 [iV 0, iV 0, uV 0] 28, Cl r28 [iV 0, iV 0, uV 0] 28, Cl r18 [.pointer none, pV r15] 22, Cl r15 [.pointer none, .map none, .slice none 0 0] 76, Cl r5 [iV do_, iV ox, iV oy, uV oz, .string (St T1), iV hx, uV hy, iV dx, iV dy, uV dz, iV vn, iV rx, iV ry, uV rz, iV rs, iV rw, iV rt, iV rn, .string (St T2)] 69, Cl r1 [iV do_, iV ox, iV oy, uV oz, .string (St T1), iV hx, uV hy, iV dx, iV dy, uV dz, iV vn, iV rx, iV ry, uV rz, iV rs, iV rw, iV rt, iV rn, .string (St T2)] 69, Old wo, R] := h98
      refine zB0 [101, 102, 103, 104, 105, 106, 107, 108] [97, 98, 99, 100] [(216, .pointer none), (215, .bool false), (214, .bool false), (213, .bool false)] (by kernel_rfl) ?_
      refine plain_act (i := 101) (by kernel_rfl) ?_
      refine zCl 217 Try.call29 (troom_n) h99 (by kernel_rfl) ?_
      rintro v K w100 (⟨rfl, rfl⟩) h101
      refine ⟨_, rfl, ?_⟩
      have h102 : sat g w100 [Cl r76 [iV 0, iV 0, uV 0, iV 0, iV 0, iV 0, iV 0, .string (St [])] 42, Cl r59 [iV 0, iV 0, uV 0] 28, Cl r50 [iV 0, uV 0] 34, Cl r37 [iV 0, iV 0, uV 0] 28, Cl r28 [iV 0, iV 0, uV 0] 28, Cl r18 [.pointer none, pV r15] 22, Cl r15 [.pointer none, .map none, .slice none 0 0] 76, Cl r5 [iV do_, iV ox, iV oy, uV oz, .string (St T1), iV hx, uV hy, iV dx, iV dy, uV dz, iV vn, iV rx, iV ry, uV rz, iV rs, iV rw, iV rt, iV rn, .string (St T2)] 69, Cl r1 [iV do_, iV ox, iV oy, uV oz, .string (St T1), iV hx, uV hy, iV dx, iV dy, uV dz, iV vn, iV rx, iV ry, uV rz, iV rs, iV rw, iV rt, iV rn, .string (St T2)] 69, Old wo, R] := h101
      refine zB0 [106, 107, 108] [102, 103, 104, 105] [(221, .pointer none), (220, .bool false), (219, .bool false), (218, .bool false)] (by kernel_rfl) ?_
      refine fk_cut ([(221, .pointer none), (220, .bool false), (1, pV r1), (4, .slice (some ⟨r18, 0, none⟩) 2 2), (5, iV 0), (6, .pointer none), (7, pV r28), (8, iV 1), (9, pV r37), (10, iV 1), (11, iV 0), (12, iV 1), (13, pV r50), (14, iV 1), (15, pV r59), (16, .bool false), (17, iV 0), (18, .bool false), (19, iV 1), (20, .slice none 0 0), (21, iV 1), (22, pV r76), (23, iV 1), (24, .slice none 0 0), (25, iV 1)] : Fr) (by kernel_rfl) (fun a => PO _ _ _ _ a _) (fun lr103 => ?_)
      refine plain_act (i := 106) (by kernel_rfl) ?_
      refine zCl 222 Try.call30 (tcopy_n) h102 (by kernel_rfl) ?_
      rintro v K w104 (⟨rfl, rfl⟩) h105
      refine ⟨_, rfl, ?_⟩
      have h106 : sat g w104 [Cl r76 [iV 0, iV 0, uV 0, iV 0, iV 0, iV 0, iV 0, .string (St [])] 42, Cl r59 [iV 0, iV 0, uV 0] 28, Cl r50 [iV 0, uV 0] 34, Cl r37 [iV 0, iV 0, uV 0] 28, Cl r28 [iV 0, iV 0, uV 0] 28, Cl r18 [.pointer none, pV r15] 22, Cl r15 [.pointer none, .map none, .slice none 0 0] 76, Cl r5 [iV do_, iV ox, iV oy, uV oz, .string (St T1), iV hx, uV hy, iV dx, iV dy, uV dz, iV vn, iV rx, iV ry, uV rz, iV rs, iV rw, iV rt, iV rn, .string (St T2)] 69, Cl r1 [iV do_, iV ox, iV oy, uV oz, .string (St T1), iV hx, uV hy, iV dx, iV dy, uV dz, iV vn, iV rx, iV ry, uV rz, iV rs, iV rw, iV rt, iV rn, .string (St T2)] 69, Old wo, R] := h105
      refine zB0 [] [107, 108] [(224, .bool false), (223, .bool false)] (by kernel_rfl) ?_
      refine PO.mk ?_
      change WP _ _ (CA Try.f9 [1, 1, 1, 1, 0, 1, 0, 0, 1, 0, 0, 1, 1, 1, 1, 1, 1, 1, 1, 1, 1, 1]) _ _ _
      refine fk_cut ([(1, pV r1), (4, .slice (some ⟨r18, 0, none⟩) 2 2), (5, iV 0), (224, .bool false)] : Fr) (by kernel_rfl) (fun a => WP _ _ _ _ a _) (fun lr107 => ?_)
      refine zCf (by kernel_rfl) ?_
      refine gi_skp (by kernel_rfl) ?_
      change WP _ _ (CA Try.f9 [1, 1, 1, 1, 0, 1, 0, 0, 1, 1]) _ _ _
      refine zPl [0, 1, 2] (by kernel_rfl) ?_
      refine zB0 [] [0, 1, 2] [(5, iV 1), (40, iV 1), (39, iV 0)] (by kernel_rfl) ?_
      refine PO.mk ?_
      change WP _ _ (CA Try.f9 [1, 1, 1, 1, 0, 1, 0, 0]) _ _ _
      refine fk_cut ([(1, pV r1), (4, .slice (some ⟨r18, 0, none⟩) 2 2), (5, iV 1), (224, .bool false)] : Fr) (by kernel_rfl) (fun a => WP _ _ _ _ a _) (fun lr108 => ?_)
      refine zSq (by kernel_rfl) ?_
      refine zSq (by kernel_rfl) ?_
      refine zPl [0, 1, 2, 3] (by kernel_rfl) ?_
      refine zBb [] [(38, .bool true), (37, iV 2), (36, .slice (some ⟨r18, 0, none⟩) 2 2), (35, iV 1)] [⟨0, [], none⟩, ⟨1, [], none⟩, ⟨2, [], some (iV 2)⟩, ⟨3, [], none⟩] [] [(iV ((2 : Nat) : Int), iV 2)] (by kernel_rfl) ⟨(ov_int (by omega)), trivial⟩ (AllC_nil _) ?_
      refine PO.mk ?_
      change WP _ _ (CA Try.f9 [1, 1, 1, 1, 0, 1, 0, 0, 0, 1]) _ _ _
      refine fk_cut ([(1, pV r1), (4, .slice (some ⟨r18, 0, none⟩) 2 2), (5, iV 1), (38, .bool true)] : Fr) (by kernel_rfl) (fun a => WP _ _ _ _ a _) (fun lr109 => ?_)
      refine zCt (by kernel_rfl) ?_
      refine gi_skp (by kernel_rfl) ?_
      change WP _ _ (CA Try.f9 [1, 1, 1, 1, 0, 1, 0, 0, 1]) _ _ _
      refine zSq (by kernel_rfl) ?_
      refine gi_blk (id := 1) (x := CA Try.f9 [1, 1, 1, 1, 0, 1, 0, 0, 1, 0, 0]) (by kernel_rfl) ?_
      refine zSq (by kernel_rfl) ?_
      refine zPl [0, 1, 2, 3, 4] (by kernel_rfl) ?_
      refine zB0 [2, 3, 4] [0, 1] [(42, iV 1), (41, .slice (some ⟨r18, 0, none⟩) 2 2)] (by kernel_rfl) ?_
      refine plain_law (i := 2) 43 (.pointer (some ⟨r18, 1, none⟩)) (by kernel_rfl) (law_indexSl (o := opA (RA Try.f9 [1, 1, 1, 1, 0, 1, 0, 0, 1, 0, 0, 0]) 2) (x := (Operand.tmp 41)) (i := (Operand.tmp 42)) (b := r18) (off := 0) (z := 1) (len := 2) (cap := 2) (by kernel_rfl) Try.underlying77 1 (by kernel_rfl) 1 (by kernel_rfl) (by kernel_rfl) (by omega) (by omega) 1 (by omega) _) ?_
      refine zBb [] [(6, pV r15), (44, pV r15)] [⟨3, [pV r15], none⟩, ⟨4, [], none⟩] [(3, ⟨r18, 1, none⟩, pV r15)] [] (by kernel_rfl) trivial (AllC_cons (sat_cell h106 5 rfl rfl) (AllC_nil _)) ?_
      refine PO.mk ?_
      change WP _ _ (CA Try.f9 [1, 1, 1, 1, 0, 1, 0, 0, 1, 0, 0, 1]) _ _ _
      refine fk_cut ([(1, pV r1), (4, .slice (some ⟨r18, 0, none⟩) 2 2), (5, iV 1), (6, pV r15)] : Fr) (by kernel_rfl) (fun a => WP _ _ _ _ a _) (fun lr110 => ?_)
      refine zSq (by kernel_rfl) ?_
      refine zPl [0, 1, 2, 3, 4, 5, 6, 7, 8, 9, 10, 11, 12, 13] (by kernel_rfl) ?_
      refine zBb [7, 8, 9, 10, 11, 12, 13] [(52, .agg #[iV hx, uV hy]), (51, .pointer (some ⟨r1, 5, none⟩)), (50, .string (St T1)), (49, .pointer (some ⟨r1, 4, none⟩)), (48, .agg #[iV ox, iV oy, uV oz]), (47, .pointer (some ⟨r1, 1, none⟩)), (46, pV r15)] [⟨0, [], none⟩, ⟨1, [], none⟩, ⟨2, [iV ox, iV oy, uV oz], none⟩, ⟨3, [], none⟩, ⟨4, [.string (St T1)], none⟩, ⟨5, [], none⟩, ⟨6, [iV hx, uV hy], none⟩] [(6, ⟨r1, 5, none⟩, iV hx), (6, ⟨r1, 6, none⟩, uV hy), (4, ⟨r1, 4, none⟩, .string (St T1)), (2, ⟨r1, 1, none⟩, iV ox), (2, ⟨r1, 2, none⟩, iV oy), (2, ⟨r1, 3, none⟩, uV oz)] [] (by kernel_rfl) trivial (AllC_cons (sat_cell h106 8 rfl rfl) (AllC_cons (sat_cell h106 8 rfl rfl) (AllC_cons (sat_cell h106 8 rfl rfl) (AllC_cons (sat_cell h106 8 rfl rfl) (AllC_cons (sat_cell h106 8 rfl rfl) (AllC_cons (sat_cell h106 8 rfl rfl) (AllC_nil _))))))) ?_
      have h111 : sat g w104 [Cl r15 [.pointer none, .map none, .slice none 0 0] 76, Cl r76 [iV 0, iV 0, uV 0, iV 0, iV 0, iV 0, iV 0, .string (St [])] 42, Cl r59 [iV 0, iV 0, uV 0] 28, Cl r50 [iV 0, uV 0] 34, Cl r37 [iV 0, iV 0, uV 0] 28, Cl r28 [iV 0, iV 0, uV 0] 28, Cl r18 [.pointer none, pV r15] 22, Cl r5 [iV do_, iV ox, iV oy, uV oz, .string (St T1), iV hx, uV hy, iV dx, iV dy, uV dz, iV vn, iV rx, iV ry, uV rz, iV rs, iV rw, iV rt, iV rn, .string (St T2)] 69, Cl r1 [iV do_, iV ox, iV oy, uV oz, .string (St T1), iV hx, uV hy, iV dx, iV dy, uV dz, iV vn, iV rx, iV ry, uV rz, iV rs, iV rw, iV rt, iV rn, .string (St T2)] 69, Old wo, R] := sat_sel [6, 0, 1, 2, 3, 4, 5, 7, 8, 9, 10] rfl h106
      refine plain_act (i := 7) (by kernel_rfl) ?_
      refine zCl 53 Try.call12 (topen_z r15 ox oy oz hx hy T1) h111 (by kernel_rfl) ?_
      rintro v K w112 (⟨rfl, rfl⟩) h113
      refine ⟨_, rfl, ?_⟩
      have h114 : sat g w112 [Cl r15 [.pointer none, .map none, .slice none 0 0] 76, Cl r76 [iV 0, iV 0, uV 0, iV 0, iV 0, iV 0, iV 0, .string (St [])] 42, Cl r59 [iV 0, iV 0, uV 0] 28, Cl r50 [iV 0, uV 0] 34, Cl r37 [iV 0, iV 0, uV 0] 28, Cl r28 [iV 0, iV 0, uV 0] 28, Cl r18 [.pointer none, pV r15] 22, Cl r5 [iV do_, iV ox, iV oy, uV oz, .string (St T1), iV hx, uV hy, iV dx, iV dy, uV dz, iV vn, iV rx, iV ry, uV rz, iV rs, iV rw, iV rt, iV rn, .string (St T2)] 69, Cl r1 [iV do_, iV ox, iV oy, uV oz, .string (St T1), iV hx, uV hy, iV dx, iV dy, uV dz, iV vn, iV rx, iV ry, uV rz, iV rs, iV rw, iV rt, iV rn, .string (St T2)] 69, Old wo, R] := h113
      refine zB0 [11, 12, 13] [8, 9, 10] [(55, iV 1), (54, .agg #[iV 0, iV 0, uV 0]), (45, .tuple #[.agg #[iV 0, iV 0, uV 0], iV 1])] (by kernel_rfl) ?_
      refine plain_act (i := 11) (by kernel_rfl) ?_
      refine an_new (d := 7) (fun xb_ => pV xb_) (fun xb_ => Obj.cells [iV 0, iV 0, uV 0].toArray 28 (0, 0)) (fun xb_ => by kernel_rfl) (by kernel_rfl) rfl h114 ?_
      intro r115 w116 (h117 : sat g w116 [Cl r115 [iV 0, iV 0, uV 0] 28, Cl r15 [.pointer none, .map none, .slice none 0 0] 76, Cl r76 [iV 0, iV 0, uV 0, iV 0, iV 0, iV 0, iV 0, .string (St [])] 42, Cl r59 [iV 0, iV 0, uV 0] 28, Cl r50 [iV 0, uV 0] 34, Cl r37 [iV 0, iV 0, uV 0] 28, Cl r28 [iV 0, iV 0, uV 0] 28, Cl r18 [.pointer none, pV r15] 22, Cl r5 [iV do_, iV ox, iV oy, uV oz, .string (St T1), iV hx, uV hy, iV dx, iV dy, uV dz, iV vn, iV rx, iV ry, uV rz, iV rs, iV rw, iV rt, iV rn, .string (St T2)] 69, Cl r1 [iV do_, iV ox, iV oy, uV oz, .string (St T1), iV hx, uV hy, iV dx, iV dy, uV dz, iV vn, iV rx, iV ry, uV rz, iV rs, iV rw, iV rt, iV rn, .string (St T2)] 69, Old wo, R])
      refine plain_act (i := 12) (by kernel_rfl) ?_
      refine an_store [(0, iV 0), (1, iV 0), (2, uV 0)] (cs' := [iV 0, iV 0, uV 0]) (by kernel_rfl) (by kernel_rfl) (allq ⟨⟨by simp, rfl⟩, ⟨by simp, rfl⟩, ⟨by simp, rfl⟩, trivial⟩) rfl h117 ?_
      intro w118 (h119 : sat g w118 [Cl r115 [iV 0, iV 0, uV 0] 28, Cl r15 [.pointer none, .map none, .slice none 0 0] 76, Cl r76 [iV 0, iV 0, uV 0, iV 0, iV 0, iV 0, iV 0, .string (St [])] 42, Cl r59 [iV 0, iV 0, uV 0] 28, Cl r50 [iV 0, uV 0] 34, Cl r37 [iV 0, iV 0, uV 0] 28, Cl r28 [iV 0, iV 0, uV 0] 28, Cl r18 [.pointer none, pV r15] 22, Cl r5 [iV do_, iV ox, iV oy, uV oz, .string (St T1), iV hx, uV hy, iV dx, iV dy, uV dz, iV vn, iV rx, iV ry, uV rz, iV rs, iV rw, iV rt, iV rn, .string (St T2)] 69, Cl r1 [iV do_, iV ox, iV oy, uV oz, .string (St T1), iV hx, uV hy, iV dx, iV dy, uV dz, iV vn, iV rx, iV ry, uV rz, iV rs, iV rw, iV rt, iV rn, .string (St T2)] 69, Old wo, R])
      refine zB0 [] [13] [(8, iV 1)] (by kernel_rfl) ?_
      refine PO.mk ?_
      change WP _ _ (CA Try.f9 [1, 1, 1, 1, 0, 1, 0, 0, 1, 0, 0, 1, 1]) _ _ _
      refine fk_cut ([(1, pV r1), (4, .slice (some ⟨r18, 0, none⟩) 2 2), (5, iV 1), (6, pV r15), (7, pV r115), (8, iV 1)] : Fr) (by kernel_rfl) (fun a => WP _ _ _ _ a _) (fun lr120 => ?_)
      refine zSq (by kernel_rfl) ?_
      refine zPl [0, 1, 2, 3, 4, 5, 6, 7, 8, 9, 10, 11] (by kernel_rfl) ?_
      refine zBb [5, 6, 7, 8, 9, 10, 11] [(61, .agg #[iV hx, uV hy]), (60, .pointer (some ⟨r1, 5, none⟩)), (59, .agg #[iV dx, iV dy, uV dz]), (58, .pointer (some ⟨r1, 7, none⟩)), (57, pV r15)] [⟨0, [], none⟩, ⟨1, [], none⟩, ⟨2, [iV dx, iV dy, uV dz], none⟩, ⟨3, [], none⟩, ⟨4, [iV hx, uV hy], none⟩] [(4, ⟨r1, 5, none⟩, iV hx), (4, ⟨r1, 6, none⟩, uV hy), (2, ⟨r1, 7, none⟩, iV dx), (2, ⟨r1, 8, none⟩, iV dy), (2, ⟨r1, 9, none⟩, uV dz)] [] (by kernel_rfl) trivial (AllC_cons (sat_cell h119 9 rfl rfl) (AllC_cons (sat_cell h119 9 rfl rfl) (AllC_cons (sat_cell h119 9 rfl rfl) (AllC_cons (sat_cell h119 9 rfl rfl) (AllC_cons (sat_cell h119 9 rfl rfl) (AllC_nil _)))))) ?_
      have h121 : sat g w118 [Cl r15 [.pointer none, .map none, .slice none 0 0] 76, Cl r115 [iV 0, iV 0, uV 0] 28, Cl r76 [iV 0, iV 0, uV 0, iV 0, iV 0, iV 0, iV 0, .string (St [])] 42, Cl r59 [iV 0, iV 0, uV 0] 28, Cl r50 [iV 0, uV 0] 34, Cl r37 [iV 0, iV 0, uV 0] 28, Cl r28 [iV 0, iV 0, uV 0] 28, Cl r18 [.pointer none, pV r15] 22, Cl r5 [iV do_, iV ox, iV oy, uV oz, .string (St T1), iV hx, uV hy, iV dx, iV dy, uV dz, iV vn, iV rx, iV ry, uV rz, iV rs, iV rw, iV rt, iV rn, .string (St T2)] 69, Cl r1 [iV do_, iV ox, iV oy, uV oz, .string (St T1), iV hx, uV hy, iV dx, iV dy, uV dz, iV vn, iV rx, iV ry, uV rz, iV rs, iV rw, iV rt, iV rn, .string (St T2)] 69, Old wo, R] := sat_sel [1, 0, 2, 3, 4, 5, 6, 7, 8, 9, 10, 11] rfl h119
      refine plain_act (i := 5) (by kernel_rfl) ?_
      refine zCl 62 Try.call14 (tdup_z r15 dx dy dz hx hy) h121 (by kernel_rfl) ?_
      rintro v K w122 (⟨rfl, rfl⟩) h123
      refine ⟨_, rfl, ?_⟩
      have h124 : sat g w122 [Cl r15 [.pointer none, .map none, .slice none 0 0] 76, Cl r115 [iV 0, iV 0, uV 0] 28, Cl r76 [iV 0, iV 0, uV 0, iV 0, iV 0, iV 0, iV 0, .string (St [])] 42, Cl r59 [iV 0, iV 0, uV 0] 28, Cl r50 [iV 0, uV 0] 34, Cl r37 [iV 0, iV 0, uV 0] 28, Cl r28 [iV 0, iV 0, uV 0] 28, Cl r18 [.pointer none, pV r15] 22, Cl r5 [iV do_, iV ox, iV oy, uV oz, .string (St T1), iV hx, uV hy, iV dx, iV dy, uV dz, iV vn, iV rx, iV ry, uV rz, iV rs, iV rw, iV rt, iV rn, .string (St T2)] 69, Cl r1 [iV do_, iV ox, iV oy, uV oz, .string (St T1), iV hx, uV hy, iV dx, iV dy, uV dz, iV vn, iV rx, iV ry, uV rz, iV rs, iV rw, iV rt, iV rn, .string (St T2)] 69, Old wo, R] := h123
      refine zB0 [9, 10, 11] [6, 7, 8] [(64, iV 1), (63, .agg #[iV 0, iV 0, uV 0]), (56, .tuple #[.agg #[iV 0, iV 0, uV 0], iV 1])] (by kernel_rfl) ?_
      refine plain_act (i := 9) (by kernel_rfl) ?_
      refine an_new (d := 9) (fun xb_ => pV xb_) (fun xb_ => Obj.cells [iV 0, iV 0, uV 0].toArray 28 (0, 0)) (fun xb_ => by kernel_rfl) (by kernel_rfl) rfl h124 ?_
      intro r125 w126 (h127 : sat g w126 [Cl r125 [iV 0, iV 0, uV 0] 28, Cl r15 [.pointer none, .map none, .slice none 0 0] 76, Cl r115 [iV 0, iV 0, uV 0] 28, Cl r76 [iV 0, iV 0, uV 0, iV 0, iV 0, iV 0, iV 0, .string (St [])] 42, Cl r59 [iV 0, iV 0, uV 0] 28, Cl r50 [iV 0, uV 0] 34, Cl r37 [iV 0, iV 0, uV 0] 28, Cl r28 [iV 0, iV 0, uV 0] 28, Cl r18 [.pointer none, pV r15] 22, Cl r5 [iV do_, iV ox, iV oy, uV oz, .string (St T1), iV hx, uV hy, iV dx, iV dy, uV dz, iV vn, iV rx, iV ry, uV rz, iV rs, iV rw, iV rt, iV rn, .string (St T2)] 69, Cl r1 [iV do_, iV ox, iV oy, uV oz, .string (St T1), iV hx, uV hy, iV dx, iV dy, uV dz, iV vn, iV rx, iV ry, uV rz, iV rs, iV rw, iV rt, iV rn, .string (St T2)] 69, Old wo, R])
      refine plain_act (i := 10) (by kernel_rfl) ?_
      refine an_store [(0, iV 0), (1, iV 0), (2, uV 0)] (cs' := [iV 0, iV 0, uV 0]) (by kernel_rfl) (by kernel_rfl) (allq ⟨⟨by simp, rfl⟩, ⟨by simp, rfl⟩, ⟨by simp, rfl⟩, trivial⟩) rfl h127 ?_
      intro w128 (h129 : sat g w128 [Cl r125 [iV 0, iV 0, uV 0] 28, Cl r15 [.pointer none, .map none, .slice none 0 0] 76, Cl r115 [iV 0, iV 0, uV 0] 28, Cl r76 [iV 0, iV 0, uV 0, iV 0, iV 0, iV 0, iV 0, .string (St [])] 42, Cl r59 [iV 0, iV 0, uV 0] 28, Cl r50 [iV 0, uV 0] 34, Cl r37 [iV 0, iV 0, uV 0] 28, Cl r28 [iV 0, iV 0, uV 0] 28, Cl r18 [.pointer none, pV r15] 22, Cl r5 [iV do_, iV ox, iV oy, uV oz, .string (St T1), iV hx, uV hy, iV dx, iV dy, uV dz, iV vn, iV rx, iV ry, uV rz, iV rs, iV rw, iV rt, iV rn, .string (St T2)] 69, Cl r1 [iV do_, iV ox, iV oy, uV oz, .string (St T1), iV hx, uV hy, iV dx, iV dy, uV dz, iV vn, iV rx, iV ry, uV rz, iV rs, iV rw, iV rt, iV rn, .string (St T2)] 69, Old wo, R])
      refine zB0 [] [11] [(10, iV 1)] (by kernel_rfl) ?_
      refine PO.mk ?_
      change WP _ _ (CA Try.f9 [1, 1, 1, 1, 0, 1, 0, 0, 1, 0, 0, 1, 1, 1]) _ _ _
      refine fk_cut ([(1, pV r1), (4, .slice (some ⟨r18, 0, none⟩) 2 2), (5, iV 1), (6, pV r15), (7, pV r115), (8, iV 1), (9, pV r125), (10, iV 1)] : Fr) (by kernel_rfl) (fun a => WP _ _ _ _ a _) (fun lr130 => ?_)
      refine zSq (by kernel_rfl) ?_
      refine zPl [0, 1, 2, 3, 4, 5, 6, 7, 8] (by kernel_rfl) ?_
      refine zBb [3, 4, 5, 6, 7, 8] [(68, .agg #[iV dx, iV dy, uV dz]), (67, .pointer (some ⟨r1, 7, none⟩)), (66, pV r15)] [⟨0, [], none⟩, ⟨1, [], none⟩, ⟨2, [iV dx, iV dy, uV dz], none⟩] [(2, ⟨r1, 7, none⟩, iV dx), (2, ⟨r1, 8, none⟩, iV dy), (2, ⟨r1, 9, none⟩, uV dz)] [] (by kernel_rfl) trivial (AllC_cons (sat_cell h129 10 rfl rfl) (AllC_cons (sat_cell h129 10 rfl rfl) (AllC_cons (sat_cell h129 10 rfl rfl) (AllC_nil _)))) ?_
      have h131 : sat g w128 [Cl r15 [.pointer none, .map none, .slice none 0 0] 76, Cl r125 [iV 0, iV 0, uV 0] 28, Cl r115 [iV 0, iV 0, uV 0] 28, Cl r76 [iV 0, iV 0, uV 0, iV 0, iV 0, iV 0, iV 0, .string (St [])] 42, Cl r59 [iV 0, iV 0, uV 0] 28, Cl r50 [iV 0, uV 0] 34, Cl r37 [iV 0, iV 0, uV 0] 28, Cl r28 [iV 0, iV 0, uV 0] 28, Cl r18 [.pointer none, pV r15] 22, Cl r5 [iV do_, iV ox, iV oy, uV oz, .string (St T1), iV hx, uV hy, iV dx, iV dy, uV dz, iV vn, iV rx, iV ry, uV rz, iV rs, iV rw, iV rt, iV rn, .string (St T2)] 69, Cl r1 [iV do_, iV ox, iV oy, uV oz, .string (St T1), iV hx, uV hy, iV dx, iV dy, uV dz, iV vn, iV rx, iV ry, uV rz, iV rs, iV rw, iV rt, iV rn, .string (St T2)] 69, Old wo, R] := sat_sel [1, 0, 2, 3, 4, 5, 6, 7, 8, 9, 10, 11, 12] rfl h129
      refine plain_act (i := 3) (by kernel_rfl) ?_
      refine zCl 69 Try.call25 (tnum_z r15 dx dy dz) h131 (by kernel_rfl) ?_
      rintro v K w132 (⟨rfl, rfl⟩) h133
      refine ⟨_, rfl, ?_⟩
      have h134 : sat g w132 [Cl r15 [.pointer none, .map none, .slice none 0 0] 76, Cl r125 [iV 0, iV 0, uV 0] 28, Cl r115 [iV 0, iV 0, uV 0] 28, Cl r76 [iV 0, iV 0, uV 0, iV 0, iV 0, iV 0, iV 0, .string (St [])] 42, Cl r59 [iV 0, iV 0, uV 0] 28, Cl r50 [iV 0, uV 0] 34, Cl r37 [iV 0, iV 0, uV 0] 28, Cl r28 [iV 0, iV 0, uV 0] 28, Cl r18 [.pointer none, pV r15] 22, Cl r5 [iV do_, iV ox, iV oy, uV oz, .string (St T1), iV hx, uV hy, iV dx, iV dy, uV dz, iV vn, iV rx, iV ry, uV rz, iV rs, iV rw, iV rt, iV rn, .string (St T2)] 69, Cl r1 [iV do_, iV ox, iV oy, uV oz, .string (St T1), iV hx, uV hy, iV dx, iV dy, uV dz, iV vn, iV rx, iV ry, uV rz, iV rs, iV rw, iV rt, iV rn, .string (St T2)] 69, Old wo, R] := h133
      refine zB0 [] [4, 5, 6, 7, 8] [(12, iV 1), (11, iV 0), (71, iV 1), (70, iV 0), (65, .tuple #[iV 0, iV 1])] (by kernel_rfl) ?_
      refine PO.mk ?_
      change WP _ _ (CA Try.f9 [1, 1, 1, 1, 0, 1, 0, 0, 1, 0, 0, 1, 1, 1, 1]) _ _ _
      refine fk_cut ([(1, pV r1), (4, .slice (some ⟨r18, 0, none⟩) 2 2), (5, iV 1), (6, pV r15), (7, pV r115), (8, iV 1), (9, pV r125), (10, iV 1), (11, iV 0), (12, iV 1)] : Fr) (by kernel_rfl) (fun a => WP _ _ _ _ a _) (fun lr135 => ?_)
      refine zSq (by kernel_rfl) ?_
      refine zPl [0, 1, 2, 3, 4, 5, 6, 7, 8, 9] (by kernel_rfl) ?_
      refine zBb [3, 4, 5, 6, 7, 8, 9] [(75, .agg #[iV dx, iV dy, uV dz]), (74, .pointer (some ⟨r1, 7, none⟩)), (73, pV r15)] [⟨0, [], none⟩, ⟨1, [], none⟩, ⟨2, [iV dx, iV dy, uV dz], none⟩] [(2, ⟨r1, 7, none⟩, iV dx), (2, ⟨r1, 8, none⟩, iV dy), (2, ⟨r1, 9, none⟩, uV dz)] [] (by kernel_rfl) trivial (AllC_cons (sat_cell h134 10 rfl rfl) (AllC_cons (sat_cell h134 10 rfl rfl) (AllC_cons (sat_cell h134 10 rfl rfl) (AllC_nil _)))) ?_
      refine plain_act (i := 3) (by kernel_rfl) ?_
      refine zCl 76 Try.call26 (thnd_z r15 dx dy dz) h134 (by kernel_rfl) ?_
      rintro v K w136 (⟨rfl, rfl⟩) h137
      refine ⟨_, rfl, ?_⟩
      have h138 : sat g w136 [Cl r15 [.pointer none, .map none, .slice none 0 0] 76, Cl r125 [iV 0, iV 0, uV 0] 28, Cl r115 [iV 0, iV 0, uV 0] 28, Cl r76 [iV 0, iV 0, uV 0, iV 0, iV 0, iV 0, iV 0, .string (St [])] 42, Cl r59 [iV 0, iV 0, uV 0] 28, Cl r50 [iV 0, uV 0] 34, Cl r37 [iV 0, iV 0, uV 0] 28, Cl r28 [iV 0, iV 0, uV 0] 28, Cl r18 [.pointer none, pV r15] 22, Cl r5 [iV do_, iV ox, iV oy, uV oz, .string (St T1), iV hx, uV hy, iV dx, iV dy, uV dz, iV vn, iV rx, iV ry, uV rz, iV rs, iV rw, iV rt, iV rn, .string (St T2)] 69, Cl r1 [iV do_, iV ox, iV oy, uV oz, .string (St T1), iV hx, uV hy, iV dx, iV dy, uV dz, iV vn, iV rx, iV ry, uV rz, iV rs, iV rw, iV rt, iV rn, .string (St T2)] 69, Old wo, R] := h137
      refine zB0 [7, 8, 9] [4, 5, 6] [(78, iV 1), (77, .agg #[iV 0, uV 0]), (72, .tuple #[.agg #[iV 0, uV 0], iV 1])] (by kernel_rfl) ?_
      refine plain_act (i := 7) (by kernel_rfl) ?_
      refine an_new (d := 13) (fun xb_ => pV xb_) (fun xb_ => Obj.cells [iV 0, uV 0].toArray 34 (0, 0)) (fun xb_ => by kernel_rfl) (by kernel_rfl) rfl h138 ?_
      intro r139 w140 (h141 : sat g w140 [Cl r139 [iV 0, uV 0] 34, Cl r15 [.pointer none, .map none, .slice none 0 0] 76, Cl r125 [iV 0, iV 0, uV 0] 28, Cl r115 [iV 0, iV 0, uV 0] 28, Cl r76 [iV 0, iV 0, uV 0, iV 0, iV 0, iV 0, iV 0, .string (St [])] 42, Cl r59 [iV 0, iV 0, uV 0] 28, Cl r50 [iV 0, uV 0] 34, Cl r37 [iV 0, iV 0, uV 0] 28, Cl r28 [iV 0, iV 0, uV 0] 28, Cl r18 [.pointer none, pV r15] 22, Cl r5 [iV do_, iV ox, iV oy, uV oz, .string (St T1), iV hx, uV hy, iV dx, iV dy, uV dz, iV vn, iV rx, iV ry, uV rz, iV rs, iV rw, iV rt, iV rn, .string (St T2)] 69, Cl r1 [iV do_, iV ox, iV oy, uV oz, .string (St T1), iV hx, uV hy, iV dx, iV dy, uV dz, iV vn, iV rx, iV ry, uV rz, iV rs, iV rw, iV rt, iV rn, .string (St T2)] 69, Old wo, R])
      refine plain_act (i := 8) (by kernel_rfl) ?_
      refine an_store [(0, iV 0), (1, uV 0)] (cs' := [iV 0, uV 0]) (by kernel_rfl) (by kernel_rfl) (allq ⟨⟨by simp, rfl⟩, ⟨by simp, rfl⟩, trivial⟩) rfl h141 ?_
      intro w142 (h143 : sat g w142 [Cl r139 [iV 0, uV 0] 34, Cl r15 [.pointer none, .map none, .slice none 0 0] 76, Cl r125 [iV 0, iV 0, uV 0] 28, Cl r115 [iV 0, iV 0, uV 0] 28, Cl r76 [iV 0, iV 0, uV 0, iV 0, iV 0, iV 0, iV 0, .string (St [])] 42, Cl r59 [iV 0, iV 0, uV 0] 28, Cl r50 [iV 0, uV 0] 34, Cl r37 [iV 0, iV 0, uV 0] 28, Cl r28 [iV 0, iV 0, uV 0] 28, Cl r18 [.pointer none, pV r15] 22, Cl r5 [iV do_, iV ox, iV oy, uV oz, .string (St T1), iV hx, uV hy, iV dx, iV dy, uV dz, iV vn, iV rx, iV ry, uV rz, iV rs, iV rw, iV rt, iV rn, .string (St T2)] 69, Cl r1 [iV do_, iV ox, iV oy, uV oz, .string (St T1), iV hx, uV hy, iV dx, iV dy, uV dz, iV vn, iV rx, iV ry, uV rz, iV rs, iV rw, iV rt, iV rn, .string (St T2)] 69, Old wo, R])
      refine zB0 [] [9] [(14, iV 1)] (by kernel_rfl) ?_
      refine PO.mk ?_
      change WP _ _ (CA Try.f9 [1, 1, 1, 1, 0, 1, 0, 0, 1, 0, 0, 1, 1, 1, 1, 1]) _ _ _
      refine fk_cut ([(1, pV r1), (4, .slice (some ⟨r18, 0, none⟩) 2 2), (5, iV 1), (6, pV r15), (7, pV r115), (8, iV 1), (9, pV r125), (10, iV 1), (11, iV 0), (12, iV 1), (13, pV r139), (14, iV 1)] : Fr) (by kernel_rfl) (fun a => WP _ _ _ _ a _) (fun lr144 => ?_)
      refine zSq (by kernel_rfl) ?_
      refine zPl [0, 1, 2, 3, 4, 5, 6, 7, 8, 9, 10] (by kernel_rfl) ?_
      refine zBb [4, 5, 6, 7, 8, 9, 10] [(83, iV dy), (82, .pointer (some ⟨r1, 8, none⟩)), (81, .pointer (some ⟨r1, 7, none⟩)), (80, pV r15)] [⟨0, [], none⟩, ⟨1, [], none⟩, ⟨2, [], none⟩, ⟨3, [iV dy], none⟩] [(3, ⟨r1, 8, none⟩, iV dy)] [] (by kernel_rfl) trivial (AllC_cons (sat_cell h143 11 rfl rfl) (AllC_nil _)) ?_
      have h145 : sat g w142 [Cl r15 [.pointer none, .map none, .slice none 0 0] 76, Cl r139 [iV 0, uV 0] 34, Cl r125 [iV 0, iV 0, uV 0] 28, Cl r115 [iV 0, iV 0, uV 0] 28, Cl r76 [iV 0, iV 0, uV 0, iV 0, iV 0, iV 0, iV 0, .string (St [])] 42, Cl r59 [iV 0, iV 0, uV 0] 28, Cl r50 [iV 0, uV 0] 34, Cl r37 [iV 0, iV 0, uV 0] 28, Cl r28 [iV 0, iV 0, uV 0] 28, Cl r18 [.pointer none, pV r15] 22, Cl r5 [iV do_, iV ox, iV oy, uV oz, .string (St T1), iV hx, uV hy, iV dx, iV dy, uV dz, iV vn, iV rx, iV ry, uV rz, iV rs, iV rw, iV rt, iV rn, .string (St T2)] 69, Cl r1 [iV do_, iV ox, iV oy, uV oz, .string (St T1), iV hx, uV hy, iV dx, iV dy, uV dz, iV vn, iV rx, iV ry, uV rz, iV rs, iV rw, iV rt, iV rn, .string (St T2)] 69, Old wo, R] := sat_sel [1, 0, 2, 3, 4, 5, 6, 7, 8, 9, 10, 11, 12, 13] rfl h143
      refine plain_act (i := 4) (by kernel_rfl) ?_
      refine zCl 84 Try.call34 (tat_z r15 dy) h145 (by kernel_rfl) ?_
      rintro v K w146 (⟨rfl, rfl⟩) h147
      refine ⟨_, rfl, ?_⟩
      have h148 : sat g w146 [Cl r15 [.pointer none, .map none, .slice none 0 0] 76, Cl r139 [iV 0, uV 0] 34, Cl r125 [iV 0, iV 0, uV 0] 28, Cl r115 [iV 0, iV 0, uV 0] 28, Cl r76 [iV 0, iV 0, uV 0, iV 0, iV 0, iV 0, iV 0, .string (St [])] 42, Cl r59 [iV 0, iV 0, uV 0] 28, Cl r50 [iV 0, uV 0] 34, Cl r37 [iV 0, iV 0, uV 0] 28, Cl r28 [iV 0, iV 0, uV 0] 28, Cl r18 [.pointer none, pV r15] 22, Cl r5 [iV do_, iV ox, iV oy, uV oz, .string (St T1), iV hx, uV hy, iV dx, iV dy, uV dz, iV vn, iV rx, iV ry, uV rz, iV rs, iV rw, iV rt, iV rn, .string (St T2)] 69, Cl r1 [iV do_, iV ox, iV oy, uV oz, .string (St T1), iV hx, uV hy, iV dx, iV dy, uV dz, iV vn, iV rx, iV ry, uV rz, iV rs, iV rw, iV rt, iV rn, .string (St T2)] 69, Old wo, R] := h147
      refine zB0 [8, 9, 10] [5, 6, 7] [(86, .bool false), (85, .agg #[iV 0, iV 0, uV 0]), (79, .tuple #[.agg #[iV 0, iV 0, uV 0], .bool false])] (by kernel_rfl) ?_
      refine plain_act (i := 8) (by kernel_rfl) ?_
      refine an_new (d := 15) (fun xb_ => pV xb_) (fun xb_ => Obj.cells [iV 0, iV 0, uV 0].toArray 28 (0, 0)) (fun xb_ => by kernel_rfl) (by kernel_rfl) rfl h148 ?_
      intro r149 w150 (h151 : sat g w150 [Cl r149 [iV 0, iV 0, uV 0] 28, Cl r15 [.pointer none, .map none, .slice none 0 0] 76, Cl r139 [iV 0, uV 0] 34, Cl r125 [iV 0, iV 0, uV 0] 28, Cl r115 [iV 0, iV 0, uV 0] 28, Cl r76 [iV 0, iV 0, uV 0, iV 0, iV 0, iV 0, iV 0, .string (St [])] 42, Cl r59 [iV 0, iV 0, uV 0] 28, Cl r50 [iV 0, uV 0] 34, Cl r37 [iV 0, iV 0, uV 0] 28, Cl r28 [iV 0, iV 0, uV 0] 28, Cl r18 [.pointer none, pV r15] 22, Cl r5 [iV do_, iV ox, iV oy, uV oz, .string (St T1), iV hx, uV hy, iV dx, iV dy, uV dz, iV vn, iV rx, iV ry, uV rz, iV rs, iV rw, iV rt, iV rn, .string (St T2)] 69, Cl r1 [iV do_, iV ox, iV oy, uV oz, .string (St T1), iV hx, uV hy, iV dx, iV dy, uV dz, iV vn, iV rx, iV ry, uV rz, iV rs, iV rw, iV rt, iV rn, .string (St T2)] 69, Old wo, R])
      refine plain_act (i := 9) (by kernel_rfl) ?_
      refine an_store [(0, iV 0), (1, iV 0), (2, uV 0)] (cs' := [iV 0, iV 0, uV 0]) (by kernel_rfl) (by kernel_rfl) (allq ⟨⟨by simp, rfl⟩, ⟨by simp, rfl⟩, ⟨by simp, rfl⟩, trivial⟩) rfl h151 ?_
      intro w152 (h153 : sat g w152 [Cl r149 [iV 0, iV 0, uV 0] 28, Cl r15 [.pointer none, .map none, .slice none 0 0] 76, Cl r139 [iV 0, uV 0] 34, Cl r125 [iV 0, iV 0, uV 0] 28, Cl r115 [iV 0, iV 0, uV 0] 28, Cl r76 [iV 0, iV 0, uV 0, iV 0, iV 0, iV 0, iV 0, .string (St [])] 42, Cl r59 [iV 0, iV 0, uV 0] 28, Cl r50 [iV 0, uV 0] 34, Cl r37 [iV 0, iV 0, uV 0] 28, Cl r28 [iV 0, iV 0, uV 0] 28, Cl r18 [.pointer none, pV r15] 22, Cl r5 [iV do_, iV ox, iV oy, uV oz, .string (St T1), iV hx, uV hy, iV dx, iV dy, uV dz, iV vn, iV rx, iV ry, uV rz, iV rs, iV rw, iV rt, iV rn, .string (St T2)] 69, Cl r1 [iV do_, iV ox, iV oy, uV oz, .string (St T1), iV hx, uV hy, iV dx, iV dy, uV dz, iV vn, iV rx, iV ry, uV rz, iV rs, iV rw, iV rt, iV rn, .string (St T2)] 69, Old wo, R])
      refine zB0 [] [10] [(16, .bool false)] (by kernel_rfl) ?_
      refine PO.mk ?_
      change WP _ _ (CA Try.f9 [1, 1, 1, 1, 0, 1, 0, 0, 1, 0, 0, 1, 1, 1, 1, 1, 1]) _ _ _
      refine fk_cut ([(1, pV r1), (4, .slice (some ⟨r18, 0, none⟩) 2 2), (5, iV 1), (6, pV r15), (7, pV r115), (8, iV 1), (9, pV r125), (10, iV 1), (11, iV 0), (12, iV 1), (13, pV r139), (14, iV 1), (15, pV r149), (16, .bool false)] : Fr) (by kernel_rfl) (fun a => WP _ _ _ _ a _) (fun lr154 => ?_)
      refine zSq (by kernel_rfl) ?_
      refine zPl [0, 1, 2, 3, 4, 5, 6, 7, 8, 9, 10] (by kernel_rfl) ?_
      refine zBb [3, 4, 5, 6, 7, 8, 9, 10] [(90, .agg #[iV dx, iV dy, uV dz]), (89, .pointer (some ⟨r1, 7, none⟩)), (88, pV r15)] [⟨0, [], none⟩, ⟨1, [], none⟩, ⟨2, [iV dx, iV dy, uV dz], none⟩] [(2, ⟨r1, 7, none⟩, iV dx), (2, ⟨r1, 8, none⟩, iV dy), (2, ⟨r1, 9, none⟩, uV dz)] [] (by kernel_rfl) trivial (AllC_cons (sat_cell h153 12 rfl rfl) (AllC_cons (sat_cell h153 12 rfl rfl) (AllC_cons (sat_cell h153 12 rfl rfl) (AllC_nil _)))) ?_
      have h155 : sat g w152 [Cl r15 [.pointer none, .map none, .slice none 0 0] 76, Cl r149 [iV 0, iV 0, uV 0] 28, Cl r139 [iV 0, uV 0] 34, Cl r125 [iV 0, iV 0, uV 0] 28, Cl r115 [iV 0, iV 0, uV 0] 28, Cl r76 [iV 0, iV 0, uV 0, iV 0, iV 0, iV 0, iV 0, .string (St [])] 42, Cl r59 [iV 0, iV 0, uV 0] 28, Cl r50 [iV 0, uV 0] 34, Cl r37 [iV 0, iV 0, uV 0] 28, Cl r28 [iV 0, iV 0, uV 0] 28, Cl r18 [.pointer none, pV r15] 22, Cl r5 [iV do_, iV ox, iV oy, uV oz, .string (St T1), iV hx, uV hy, iV dx, iV dy, uV dz, iV vn, iV rx, iV ry, uV rz, iV rs, iV rw, iV rt, iV rn, .string (St T2)] 69, Cl r1 [iV do_, iV ox, iV oy, uV oz, .string (St T1), iV hx, uV hy, iV dx, iV dy, uV dz, iV vn, iV rx, iV ry, uV rz, iV rs, iV rw, iV rt, iV rn, .string (St T2)] 69, Old wo, R] := sat_sel [1, 0, 2, 3, 4, 5, 6, 7, 8, 9, 10, 11, 12, 13, 14] rfl h153
      refine plain_act (i := 3) (by kernel_rfl) ?_
      refine zCl 91 Try.call15 (tclose_z r15 dx dy dz) h155 (by kernel_rfl) ?_
      rintro v K w156 (⟨rfl, rfl⟩) h157
      refine ⟨_, rfl, ?_⟩
      have h158 : sat g w156 [Cl r15 [.pointer none, .map none, .slice none 0 0] 76, Cl r149 [iV 0, iV 0, uV 0] 28, Cl r139 [iV 0, uV 0] 34, Cl r125 [iV 0, iV 0, uV 0] 28, Cl r115 [iV 0, iV 0, uV 0] 28, Cl r76 [iV 0, iV 0, uV 0, iV 0, iV 0, iV 0, iV 0, .string (St [])] 42, Cl r59 [iV 0, iV 0, uV 0] 28, Cl r50 [iV 0, uV 0] 34, Cl r37 [iV 0, iV 0, uV 0] 28, Cl r28 [iV 0, iV 0, uV 0] 28, Cl r18 [.pointer none, pV r15] 22, Cl r5 [iV do_, iV ox, iV oy, uV oz, .string (St T1), iV hx, uV hy, iV dx, iV dy, uV dz, iV vn, iV rx, iV ry, uV rz, iV rs, iV rw, iV rt, iV rn, .string (St T2)] 69, Cl r1 [iV do_, iV ox, iV oy, uV oz, .string (St T1), iV hx, uV hy, iV dx, iV dy, uV dz, iV vn, iV rx, iV ry, uV rz, iV rs, iV rw, iV rt, iV rn, .string (St T2)] 69, Old wo, R] := h157
      refine zB0 [] [4, 5, 6, 7, 8, 9, 10] [(19, iV 1), (18, .bool false), (17, iV 0), (94, iV 1), (93, .bool false), (92, iV 0), (87, .tuple #[iV 0, .bool false, iV 1])] (by kernel_rfl) ?_
      refine PO.mk ?_
      change WP _ _ (CA Try.f9 [1, 1, 1, 1, 0, 1, 0, 0, 1, 0, 0, 1, 1, 1, 1, 1, 1, 1]) _ _ _
      refine fk_cut ([(1, pV r1), (4, .slice (some ⟨r18, 0, none⟩) 2 2), (5, iV 1), (6, pV r15), (7, pV r115), (8, iV 1), (9, pV r125), (10, iV 1), (11, iV 0), (12, iV 1), (13, pV r139), (14, iV 1), (15, pV r149), (16, .bool false), (17, iV 0), (18, .bool false), (19, iV 1)] : Fr) (by kernel_rfl) (fun a => WP _ _ _ _ a _) (fun lr159 => ?_)
      refine zSq (by kernel_rfl) ?_
      refine zPl [0, 1, 2, 3, 4, 5, 6, 7, 8] (by kernel_rfl) ?_
      refine zBb [3, 4, 5, 6, 7, 8] [(98, iV vn), (97, .pointer (some ⟨r1, 10, none⟩)), (96, pV r15)] [⟨0, [], none⟩, ⟨1, [], none⟩, ⟨2, [iV vn], none⟩] [(2, ⟨r1, 10, none⟩, iV vn)] [] (by kernel_rfl) trivial (AllC_cons (sat_cell h158 12 rfl rfl) (AllC_nil _)) ?_
      refine plain_act (i := 3) (by kernel_rfl) ?_
      refine zCl 99 Try.call31 (texp_z r15 vn) h158 (by kernel_rfl) ?_
      rintro v K w160 (⟨rfl, rfl⟩) h161
      refine ⟨_, rfl, ?_⟩
      have h162 : sat g w160 [Cl r15 [.pointer none, .map none, .slice none 0 0] 76, Cl r149 [iV 0, iV 0, uV 0] 28, Cl r139 [iV 0, uV 0] 34, Cl r125 [iV 0, iV 0, uV 0] 28, Cl r115 [iV 0, iV 0, uV 0] 28, Cl r76 [iV 0, iV 0, uV 0, iV 0, iV 0, iV 0, iV 0, .string (St [])] 42, Cl r59 [iV 0, iV 0, uV 0] 28, Cl r50 [iV 0, uV 0] 34, Cl r37 [iV 0, iV 0, uV 0] 28, Cl r28 [iV 0, iV 0, uV 0] 28, Cl r18 [.pointer none, pV r15] 22, Cl r5 [iV do_, iV ox, iV oy, uV oz, .string (St T1), iV hx, uV hy, iV dx, iV dy, uV dz, iV vn, iV rx, iV ry, uV rz, iV rs, iV rw, iV rt, iV rn, .string (St T2)] 69, Cl r1 [iV do_, iV ox, iV oy, uV oz, .string (St T1), iV hx, uV hy, iV dx, iV dy, uV dz, iV vn, iV rx, iV ry, uV rz, iV rs, iV rw, iV rt, iV rn, .string (St T2)] 69, Old wo, R] := h161
      refine zB0 [] [4, 5, 6, 7, 8] [(21, iV 1), (20, .slice none 0 0), (101, iV 1), (100, .slice none 0 0), (95, .tuple #[.slice none 0 0, iV 1])] (by kernel_rfl) ?_
      refine PO.mk ?_
      change WP _ _ (CA Try.f9 [1, 1, 1, 1, 0, 1, 0, 0, 1, 0, 0, 1, 1, 1, 1, 1, 1, 1, 1]) _ _ _
      refine fk_cut ([(1, pV r1), (4, .slice (some ⟨r18, 0, none⟩) 2 2), (5, iV 1), (6, pV r15), (7, pV r115), (8, iV 1), (9, pV r125), (10, iV 1), (11, iV 0), (12, iV 1), (13, pV r139), (14, iV 1), (15, pV r149), (16, .bool false), (17, iV 0), (18, .bool false), (19, iV 1), (20, .slice none 0 0), (21, iV 1)] : Fr) (by kernel_rfl) (fun a => WP _ _ _ _ a _) (fun lr163 => ?_)
      refine zSq (by kernel_rfl) ?_
      refine zPl [0, 1, 2, 3, 4, 5, 6, 7, 8, 9] (by kernel_rfl) ?_
      refine zBb [3, 4, 5, 6, 7, 8, 9] [(105, iV vn), (104, .pointer (some ⟨r1, 10, none⟩)), (103, pV r15)] [⟨0, [], none⟩, ⟨1, [], none⟩, ⟨2, [iV vn], none⟩] [(2, ⟨r1, 10, none⟩, iV vn)] [] (by kernel_rfl) trivial (AllC_cons (sat_cell h162 12 rfl rfl) (AllC_nil _)) ?_
      refine plain_act (i := 3) (by kernel_rfl) ?_
      refine zCl 106 Try.call20 (tget_z r15 vn) h162 (by kernel_rfl) ?_
      rintro v K w164 (⟨rfl, rfl⟩) h165
      refine ⟨_, rfl, ?_⟩
      have h166 : sat g w164 [Cl r15 [.pointer none, .map none, .slice none 0 0] 76, Cl r149 [iV 0, iV 0, uV 0] 28, Cl r139 [iV 0, uV 0] 34, Cl r125 [iV 0, iV 0, uV 0] 28, Cl r115 [iV 0, iV 0, uV 0] 28, Cl r76 [iV 0, iV 0, uV 0, iV 0, iV 0, iV 0, iV 0, .string (St [])] 42, Cl r59 [iV 0, iV 0, uV 0] 28, Cl r50 [iV 0, uV 0] 34, Cl r37 [iV 0, iV 0, uV 0] 28, Cl r28 [iV 0, iV 0, uV 0] 28, Cl r18 [.pointer none, pV r15] 22, Cl r5 [iV do_, iV ox, iV oy, uV oz, .string (St T1), iV hx, uV hy, iV dx, iV dy, uV dz, iV vn, iV rx, iV ry, uV rz, iV rs, iV rw, iV rt, iV rn, .string (St T2)] 69, Cl r1 [iV do_, iV ox, iV oy, uV oz, .string (St T1), iV hx, uV hy, iV dx, iV dy, uV dz, iV vn, iV rx, iV ry, uV rz, iV rs, iV rw, iV rt, iV rn, .string (St T2)] 69, Old wo, R] := h165
      refine zB0 [7, 8, 9] [4, 5, 6] [(108, iV 1), (107, .agg #[iV 0, iV 0, uV 0, iV 0, iV 0, iV 0, iV 0, .string (St [])]), (102, .tuple #[.agg #[iV 0, iV 0, uV 0, iV 0, iV 0, iV 0, iV 0, .string (St [])], iV 1])] (by kernel_rfl) ?_
      refine plain_act (i := 7) (by kernel_rfl) ?_
      refine an_new (d := 22) (fun xb_ => pV xb_) (fun xb_ => Obj.cells [iV 0, iV 0, uV 0, iV 0, iV 0, iV 0, iV 0, .string (St [])].toArray 42 (0, 0)) (fun xb_ => by kernel_rfl) (by kernel_rfl) rfl h166 ?_
      intro r167 w168 (h169 : sat g w168 [Cl r167 [iV 0, iV 0, uV 0, iV 0, iV 0, iV 0, iV 0, .string (St [])] 42, Cl r15 [.pointer none, .map none, .slice none 0 0] 76, Cl r149 [iV 0, iV 0, uV 0] 28, Cl r139 [iV 0, uV 0] 34, Cl r125 [iV 0, iV 0, uV 0] 28, Cl r115 [iV 0, iV 0, uV 0] 28, Cl r76 [iV 0, iV 0, uV 0, iV 0, iV 0, iV 0, iV 0, .string (St [])] 42, Cl r59 [iV 0, iV 0, uV 0] 28, Cl r50 [iV 0, uV 0] 34, Cl r37 [iV 0, iV 0, uV 0] 28, Cl r28 [iV 0, iV 0, uV 0] 28, Cl r18 [.pointer none, pV r15] 22, Cl r5 [iV do_, iV ox, iV oy, uV oz, .string (St T1), iV hx, uV hy, iV dx, iV dy, uV dz, iV vn, iV rx, iV ry, uV rz, iV rs, iV rw, iV rt, iV rn, .string (St T2)] 69, Cl r1 [iV do_, iV ox, iV oy, uV oz, .string (St T1), iV hx, uV hy, iV dx, iV dy, uV dz, iV vn, iV rx, iV ry, uV rz, iV rs, iV rw, iV rt, iV rn, .string (St T2)] 69, Old wo, R])
      refine plain_act (i := 8) (by kernel_rfl) ?_
      refine an_store [(0, iV 0), (1, iV 0), (2, uV 0), (3, iV 0), (4, iV 0), (5, iV 0), (6, iV 0), (7, .string (St []))] (cs' := [iV 0, iV 0, uV 0, iV 0, iV 0, iV 0, iV 0, .string (St [])]) (by kernel_rfl) (by kernel_rfl) (allq ⟨⟨by simp, rfl⟩, ⟨by simp, rfl⟩, ⟨by simp, rfl⟩, ⟨by simp, rfl⟩, ⟨by simp, rfl⟩, ⟨by simp, rfl⟩, ⟨by simp, rfl⟩, ⟨by simp, rfl⟩, trivial⟩) rfl h169 ?_
      intro w170 (h171 : sat g w170 [Cl r167 [iV 0, iV 0, uV 0, iV 0, iV 0, iV 0, iV 0, .string (St [])] 42, Cl r15 [.pointer none, .map none, .slice none 0 0] 76, Cl r149 [iV 0, iV 0, uV 0] 28, Cl r139 [iV 0, uV 0] 34, Cl r125 [iV 0, iV 0, uV 0] 28, Cl r115 [iV 0, iV 0, uV 0] 28, Cl r76 [iV 0, iV 0, uV 0, iV 0, iV 0, iV 0, iV 0, .string (St [])] 42, Cl r59 [iV 0, iV 0, uV 0] 28, Cl r50 [iV 0, uV 0] 34, Cl r37 [iV 0, iV 0, uV 0] 28, Cl r28 [iV 0, iV 0, uV 0] 28, Cl r18 [.pointer none, pV r15] 22, Cl r5 [iV do_, iV ox, iV oy, uV oz, .string (St T1), iV hx, uV hy, iV dx, iV dy, uV dz, iV vn, iV rx, iV ry, uV rz, iV rs, iV rw, iV rt, iV rn, .string (St T2)] 69, Cl r1 [iV do_, iV ox, iV oy, uV oz, .string (St T1), iV hx, uV hy, iV dx, iV dy, uV dz, iV vn, iV rx, iV ry, uV rz, iV rs, iV rw, iV rt, iV rn, .string (St T2)] 69, Old wo, R])
      refine zB0 [] [9] [(23, iV 1)] (by kernel_rfl) ?_
      refine PO.mk ?_
      change WP _ _ (CA Try.f9 [1, 1, 1, 1, 0, 1, 0, 0, 1, 0, 0, 1, 1, 1, 1, 1, 1, 1, 1, 1]) _ _ _
      refine fk_cut ([(1, pV r1), (4, .slice (some ⟨r18, 0, none⟩) 2 2), (5, iV 1), (6, pV r15), (7, pV r115), (8, iV 1), (9, pV r125), (10, iV 1), (11, iV 0), (12, iV 1), (13, pV r139), (14, iV 1), (15, pV r149), (16, .bool false), (17, iV 0), (18, .bool false), (19, iV 1), (20, .slice none 0 0), (21, iV 1), (22, pV r167), (23, iV 1)] : Fr) (by kernel_rfl) (fun a => WP _ _ _ _ a _) (fun lr172 => ?_)
      refine zSq (by kernel_rfl) ?_
      refine zPl [0, 1, 2, 3, 4, 5, 6, 7, 8] (by kernel_rfl) ?_
      refine zBb [3, 4, 5, 6, 7, 8] [(112, iV vn), (111, .pointer (some ⟨r1, 10, none⟩)), (110, pV r15)] [⟨0, [], none⟩, ⟨1, [], none⟩, ⟨2, [iV vn], none⟩] [(2, ⟨r1, 10, none⟩, iV vn)] [] (by kernel_rfl) trivial (AllC_cons (sat_cell h171 13 rfl rfl) (AllC_nil _)) ?_
      have h173 : sat g w170 [Cl r15 [.pointer none, .map none, .slice none 0 0] 76, Cl r167 [iV 0, iV 0, uV 0, iV 0, iV 0, iV 0, iV 0, .string (St [])] 42, Cl r149 [iV 0, iV 0, uV 0] 28, Cl r139 [iV 0, uV 0] 34, Cl r125 [iV 0, iV 0, uV 0] 28, Cl r115 [iV 0, iV 0, uV 0] 28, Cl r76 [iV 0, iV 0, uV 0, iV 0, iV 0, iV 0, iV 0, .string (St [])] 42, Cl r59 [iV 0, iV 0, uV 0] 28, Cl r50 [iV 0, uV 0] 34, Cl r37 [iV 0, iV 0, uV 0] 28, Cl r28 [iV 0, iV 0, uV 0] 28, Cl r18 [.pointer none, pV r15] 22, Cl r5 [iV do_, iV ox, iV oy, uV oz, .string (St T1), iV hx, uV hy, iV dx, iV dy, uV dz, iV vn, iV rx, iV ry, uV rz, iV rs, iV rw, iV rt, iV rn, .string (St T2)] 69, Cl r1 [iV do_, iV ox, iV oy, uV oz, .string (St T1), iV hx, uV hy, iV dx, iV dy, uV dz, iV vn, iV rx, iV ry, uV rz, iV rs, iV rw, iV rt, iV rn, .string (St T2)] 69, Old wo, R] := sat_sel [1, 0, 2, 3, 4, 5, 6, 7, 8, 9, 10, 11, 12, 13, 14, 15] rfl h171
      refine plain_act (i := 3) (by kernel_rfl) ?_
      refine zCl 113 Try.call21 (tdescs_z r15 vn) h173 (by kernel_rfl) ?_
      rintro v K w174 (⟨rfl, rfl⟩) h175
      refine ⟨_, rfl, ?_⟩
      have h176 : sat g w174 [Cl r15 [.pointer none, .map none, .slice none 0 0] 76, Cl r167 [iV 0, iV 0, uV 0, iV 0, iV 0, iV 0, iV 0, .string (St [])] 42, Cl r149 [iV 0, iV 0, uV 0] 28, Cl r139 [iV 0, uV 0] 34, Cl r125 [iV 0, iV 0, uV 0] 28, Cl r115 [iV 0, iV 0, uV 0] 28, Cl r76 [iV 0, iV 0, uV 0, iV 0, iV 0, iV 0, iV 0, .string (St [])] 42, Cl r59 [iV 0, iV 0, uV 0] 28, Cl r50 [iV 0, uV 0] 34, Cl r37 [iV 0, iV 0, uV 0] 28, Cl r28 [iV 0, iV 0, uV 0] 28, Cl r18 [.pointer none, pV r15] 22, Cl r5 [iV do_, iV ox, iV oy, uV oz, .string (St T1), iV hx, uV hy, iV dx, iV dy, uV dz, iV vn, iV rx, iV ry, uV rz, iV rs, iV rw, iV rt, iV rn, .string (St T2)] 69, Cl r1 [iV do_, iV ox, iV oy, uV oz, .string (St T1), iV hx, uV hy, iV dx, iV dy, uV dz, iV vn, iV rx, iV ry, uV rz, iV rs, iV rw, iV rt, iV rn, .string (St T2)] 69, Old wo, R] := h175
      refine zB0 [] [4, 5, 6, 7, 8] [(25, iV 1), (24, .slice none 0 0), (115, iV 1), (114, .slice none 0 0), (109, .tuple #[.slice none 0 0, iV 1])] (by kernel_rfl) ?_
      refine PO.mk ?_
      change WP _ _ (CA Try.f9 [1, 1, 1, 1, 0, 1, 0, 0, 1, 0, 0, 1, 1, 1, 1, 1, 1, 1, 1, 1, 1]) _ _ _
      refine fk_cut ([(1, pV r1), (4, .slice (some ⟨r18, 0, none⟩) 2 2), (5, iV 1), (6, pV r15), (7, pV r115), (8, iV 1), (9, pV r125), (10, iV 1), (11, iV 0), (12, iV 1), (13, pV r139), (14, iV 1), (15, pV r149), (16, .bool false), (17, iV 0), (18, .bool false), (19, iV 1), (20, .slice none 0 0), (21, iV 1), (22, pV r167), (23, iV 1), (24, .slice none 0 0), (25, iV 1)] : Fr) (by kernel_rfl) (fun a => WP _ _ _ _ a _) (fun lr177 => ?_)
      refine zSq (by kernel_rfl) ?_
      refine zPl [0, 1, 2, 3, 4, 5, 6, 7, 8, 9, 10, 11, 12, 13, 14, 15, 16, 17, 18, 19, 20, 21, 22, 23, 24, 25, 26, 27, 28, 29, 30, 31, 32, 33, 34, 35, 36, 37, 38, 39, 40, 41, 42, 43, 44, 45, 46, 47, 48, 49, 50, 51, 52, 53, 54, 55, 56, 57, 58, 59, 60, 61, 62, 63, 64, 65, 66, 67, 68, 69, 70, 71, 72, 73, 74, 75, 76, 77, 78, 79, 80, 81, 82, 83, 84, 85, 86, 87, 88, 89, 90, 91, 92, 93, 94, 95, 96, 97, 98, 99, 100, 101, 102, 103, 104, 105, 106, 107, 108] (by kernel_rfl) ?_
      refine zBb [2, 3, 4, 5, 6, 7, 8, 9, 10, 11, 12, 13, 14, 15, 16, 17, 18, 19, 20, 21, 22, 23, 24, 25, 26, 27, 28, 29, 30, 31, 32, 33, 34, 35, 36, 37, 38, 39, 40, 41, 42, 43, 44, 45, 46, 47, 48, 49, 50, 51, 52, 53, 54, 55, 56, 57, 58, 59, 60, 61, 62, 63, 64, 65, 66, 67, 68, 69, 70, 71, 72, 73, 74, 75, 76, 77, 78, 79, 80, 81, 82, 83, 84, 85, 86, 87, 88, 89, 90, 91, 92, 93, 94, 95, 96, 97, 98, 99, 100, 101, 102, 103, 104, 105, 106, 107, 108] [(117, .agg #[iV 0, iV 0, uV 0]), (116, .agg #[iV 0, iV 0, uV 0])] [⟨0, [iV 0, iV 0, uV 0], none⟩, ⟨1, [], none⟩] [(0, ⟨r115, 0, none⟩, iV 0), (0, ⟨r115, 1, none⟩, iV 0), (0, ⟨r115, 2, none⟩, uV 0)] [] (by kernel_rfl) trivial (AllC_cons (sat_cell h176 5 rfl rfl) (AllC_cons (sat_cell h176 5 rfl rfl) (AllC_cons (sat_cell h176 5 rfl rfl) (AllC_nil _)))) ?_
      refine plain_law (i := 2) 118 (.bool false) (by kernel_rfl) (seq28_neq_t (o := opA (RA Try.f9 [1, 1, 1, 1, 0, 1, 0, 0, 1, 0, 0, 1, 1, 1, 1, 1, 1, 1, 1, 1, 1, 0]) 2) (x := (Operand.tmp 116)) (y := (Operand.tmp 117)) 0 0 0 0 0 0 (by kernel_rfl) (by kernel_rfl) (by kernel_rfl) ⟨rfl, rfl, rfl⟩ _) ?_
      refine zBb [10, 11, 12, 13, 14, 15, 16, 17, 18, 19, 20, 21, 22, 23, 24, 25, 26, 27, 28, 29, 30, 31, 32, 33, 34, 35, 36, 37, 38, 39, 40, 41, 42, 43, 44, 45, 46, 47, 48, 49, 50, 51, 52, 53, 54, 55, 56, 57, 58, 59, 60, 61, 62, 63, 64, 65, 66, 67, 68, 69, 70, 71, 72, 73, 74, 75, 76, 77, 78, 79, 80, 81, 82, 83, 84, 85, 86, 87, 88, 89, 90, 91, 92, 93, 94, 95, 96, 97, 98, 99, 100, 101, 102, 103, 104, 105, 106, 107, 108] [(125, .agg #[iV 0, iV 0, uV 0]), (124, .agg #[iV 0, iV 0, uV 0]), (123, .bool false), (122, .bool false), (121, .bool false), (120, iV 1), (119, .bool false)] [⟨3, [], none⟩, ⟨4, [], none⟩, ⟨5, [], none⟩, ⟨6, [], none⟩, ⟨7, [], none⟩, ⟨8, [iV 0, iV 0, uV 0], none⟩, ⟨9, [iV 0, iV 0, uV 0], none⟩] [(9, ⟨r115, 0, none⟩, iV 0), (9, ⟨r115, 1, none⟩, iV 0), (9, ⟨r115, 2, none⟩, uV 0), (8, ⟨r125, 0, none⟩, iV 0), (8, ⟨r125, 1, none⟩, iV 0), (8, ⟨r125, 2, none⟩, uV 0)] [] (by kernel_rfl) trivial (AllC_cons (sat_cell h176 5 rfl rfl) (AllC_cons (sat_cell h176 5 rfl rfl) (AllC_cons (sat_cell h176 5 rfl rfl) (AllC_cons (sat_cell h176 4 rfl rfl) (AllC_cons (sat_cell h176 4 rfl rfl) (AllC_cons (sat_cell h176 4 rfl rfl) (AllC_nil _))))))) ?_
      refine plain_law (i := 10) 126 (.bool false) (by kernel_rfl) (seq28_neq_t (o := opA (RA Try.f9 [1, 1, 1, 1, 0, 1, 0, 0, 1, 0, 0, 1, 1, 1, 1, 1, 1, 1, 1, 1, 1, 0]) 10) (x := (Operand.tmp 124)) (y := (Operand.tmp 125)) 0 0 0 0 0 0 (by kernel_rfl) (by kernel_rfl) (by kernel_rfl) ⟨rfl, rfl, rfl⟩ _) ?_
      refine zBb [27, 28, 29, 30, 31, 32, 33, 34, 35, 36, 37, 38, 39, 40, 41, 42, 43, 44, 45, 46, 47, 48, 49, 50, 51, 52, 53, 54, 55, 56, 57, 58, 59, 60, 61, 62, 63, 64, 65, 66, 67, 68, 69, 70, 71, 72, 73, 74, 75, 76, 77, 78, 79, 80, 81, 82, 83, 84, 85, 86, 87, 88, 89, 90, 91, 92, 93, 94, 95, 96, 97, 98, 99, 100, 101, 102, 103, 104, 105, 106, 107, 108] [(142, .agg #[iV 0, uV 0]), (141, .agg #[iV 0, uV 0]), (140, .bool false), (139, .bool false), (138, .bool false), (137, iV 1), (136, .bool false), (135, .bool false), (134, .bool false), (133, iV 0), (132, .bool false), (131, .bool false), (130, .bool false), (129, iV 1), (128, .bool false), (127, .bool false)] [⟨11, [], none⟩, ⟨12, [], none⟩, ⟨13, [], none⟩, ⟨14, [], none⟩, ⟨15, [], none⟩, ⟨16, [], none⟩, ⟨17, [], none⟩, ⟨18, [], none⟩, ⟨19, [], none⟩, ⟨20, [], none⟩, ⟨21, [], none⟩, ⟨22, [], none⟩, ⟨23, [], none⟩, ⟨24, [], none⟩, ⟨25, [iV 0, uV 0], none⟩, ⟨26, [], none⟩] [(25, ⟨r139, 0, none⟩, iV 0), (25, ⟨r139, 1, none⟩, uV 0)] [] (by kernel_rfl) trivial (AllC_cons (sat_cell h176 3 rfl rfl) (AllC_cons (sat_cell h176 3 rfl rfl) (AllC_nil _))) ?_
      refine fk_cut ([(142, .agg #[iV 0, uV 0]), (141, .agg #[iV 0, uV 0]), (140, .bool false), (1, pV r1), (4, .slice (some ⟨r18, 0, none⟩) 2 2), (5, iV 1), (6, pV r15), (7, pV r115), (8, iV 1), (9, pV r125), (10, iV 1), (11, iV 0), (12, iV 1), (13, pV r139), (14, iV 1), (15, pV r149), (16, .bool false), (17, iV 0), (18, .bool false), (19, iV 1), (20, .slice none 0 0), (21, iV 1), (22, pV r167), (23, iV 1), (24, .slice none 0 0), (25, iV 1)] : Fr) (by kernel_rfl) (fun a => PO _ _ _ _ a _) (fun lr178 => ?_)
      refine plain_law (i := 27) 143 (.bool false) (by kernel_rfl) (seq34_neq_t (o := opA (RA Try.f9 [1, 1, 1, 1, 0, 1, 0, 0, 1, 0, 0, 1, 1, 1, 1, 1, 1, 1, 1, 1, 1, 0]) 27) (x := (Operand.tmp 141)) (y := (Operand.tmp 142)) 0 0 0 0 (by kernel_rfl) (by kernel_rfl) (by kernel_rfl) ⟨rfl, rfl⟩ _) ?_
      refine zBb [36, 37, 38, 39, 40, 41, 42, 43, 44, 45, 46, 47, 48, 49, 50, 51, 52, 53, 54, 55, 56, 57, 58, 59, 60, 61, 62, 63, 64, 65, 66, 67, 68, 69, 70, 71, 72, 73, 74, 75, 76, 77, 78, 79, 80, 81, 82, 83, 84, 85, 86, 87, 88, 89, 90, 91, 92, 93, 94, 95, 96, 97, 98, 99, 100, 101, 102, 103, 104, 105, 106, 107, 108] [(151, .agg #[iV 0, iV 0, uV 0]), (150, .agg #[iV 0, iV 0, uV 0]), (149, .bool false), (148, .bool false), (147, .bool false), (146, iV 1), (145, .bool false), (144, .bool false)] [⟨28, [], none⟩, ⟨29, [], none⟩, ⟨30, [], none⟩, ⟨31, [], none⟩, ⟨32, [], none⟩, ⟨33, [], none⟩, ⟨34, [iV 0, iV 0, uV 0], none⟩, ⟨35, [iV 0, iV 0, uV 0], none⟩] [(35, ⟨r115, 0, none⟩, iV 0), (35, ⟨r115, 1, none⟩, iV 0), (35, ⟨r115, 2, none⟩, uV 0), (34, ⟨r149, 0, none⟩, iV 0), (34, ⟨r149, 1, none⟩, iV 0), (34, ⟨r149, 2, none⟩, uV 0)] [] (by kernel_rfl) trivial (AllC_cons (sat_cell h176 5 rfl rfl) (AllC_cons (sat_cell h176 5 rfl rfl) (AllC_cons (sat_cell h176 5 rfl rfl) (AllC_cons (sat_cell h176 2 rfl rfl) (AllC_cons (sat_cell h176 2 rfl rfl) (AllC_cons (sat_cell h176 2 rfl rfl) (AllC_nil _))))))) ?_
      refine fk_cut ([(151, .agg #[iV 0, iV 0, uV 0]), (150, .agg #[iV 0, iV 0, uV 0]), (149, .bool false), (1, pV r1), (4, .slice (some ⟨r18, 0, none⟩) 2 2), (5, iV 1), (6, pV r15), (7, pV r115), (8, iV 1), (9, pV r125), (10, iV 1), (11, iV 0), (12, iV 1), (13, pV r139), (14, iV 1), (15, pV r149), (16, .bool false), (17, iV 0), (18, .bool false), (19, iV 1), (20, .slice none 0 0), (21, iV 1), (22, pV r167), (23, iV 1), (24, .slice none 0 0), (25, iV 1)] : Fr) (by kernel_rfl) (fun a => PO _ _ _ _ a _) (fun lr179 => ?_)
      refine plain_law (i := 36) 152 (.bool false) (by kernel_rfl) (seq28_neq_t (o := opA (RA Try.f9 [1, 1, 1, 1, 0, 1, 0, 0, 1, 0, 0, 1, 1, 1, 1, 1, 1, 1, 1, 1, 1, 0]) 36) (x := (Operand.tmp 150)) (y := (Operand.tmp 151)) 0 0 0 0 0 0 (by kernel_rfl) (by kernel_rfl) (by kernel_rfl) ⟨rfl, rfl, rfl⟩ _) ?_
      refine zBb [64, 65, 66, 67, 68, 69, 70, 71, 72, 73, 74, 75, 76, 77, 78, 79, 80, 81, 82, 83, 84, 85, 86, 87, 88, 89, 90, 91, 92, 93, 94, 95, 96, 97, 98, 99, 100, 101, 102, 103, 104, 105, 106, 107, 108] [(179, .agg #[iV 0, iV 0, uV 0, iV 0, iV 0, iV 0, iV 0, .string (St [])]), (178, .agg #[iV 0, iV 0, uV 0, iV 0, iV 0, iV 0, iV 0, .string (St [])]), (177, .bool false), (176, .bool false), (175, .bool false), (174, iV 1), (173, .bool false), (172, .bool false), (171, .bool false), (170, iV 0), (169, .slice none 0 0), (168, .bool false), (167, .bool false), (166, .bool false), (165, iV 1), (164, .bool false), (163, .bool false), (162, .bool false), (161, .bool false), (160, .bool false), (159, .bool false), (158, iV 0), (157, .bool false), (156, .bool false), (155, .bool false), (154, .bool false), (153, .bool false)] [⟨37, [], none⟩, ⟨38, [], none⟩, ⟨39, [], none⟩, ⟨40, [], none⟩, ⟨41, [], none⟩, ⟨42, [], none⟩, ⟨43, [], none⟩, ⟨44, [], none⟩, ⟨45, [], none⟩, ⟨46, [], none⟩, ⟨47, [], none⟩, ⟨48, [], none⟩, ⟨49, [], none⟩, ⟨50, [], none⟩, ⟨51, [], none⟩, ⟨52, [], none⟩, ⟨53, [], none⟩, ⟨54, [], none⟩, ⟨55, [], none⟩, ⟨56, [], none⟩, ⟨57, [], none⟩, ⟨58, [], none⟩, ⟨59, [], none⟩, ⟨60, [], none⟩, ⟨61, [], none⟩, ⟨62, [iV 0, iV 0, uV 0, iV 0, iV 0, iV 0, iV 0, .string (St [])], none⟩, ⟨63, [], none⟩] [(62, ⟨r167, 0, none⟩, iV 0), (62, ⟨r167, 1, none⟩, iV 0), (62, ⟨r167, 2, none⟩, uV 0), (62, ⟨r167, 3, none⟩, iV 0), (62, ⟨r167, 4, none⟩, iV 0), (62, ⟨r167, 5, none⟩, iV 0), (62, ⟨r167, 6, none⟩, iV 0), (62, ⟨r167, 7, none⟩, .string (St []))] [] (by kernel_rfl) trivial (AllC_cons (sat_cell h176 1 rfl rfl) (AllC_cons (sat_cell h176 1 rfl rfl) (AllC_cons (sat_cell h176 1 rfl rfl) (AllC_cons (sat_cell h176 1 rfl rfl) (AllC_cons (sat_cell h176 1 rfl rfl) (AllC_cons (sat_cell h176 1 rfl rfl) (AllC_cons (sat_cell h176 1 rfl rfl) (AllC_cons (sat_cell h176 1 rfl rfl) (AllC_nil _))))))))) ?_
      refine fk_cut ([(179, .agg #[iV 0, iV 0, uV 0, iV 0, iV 0, iV 0, iV 0, .string (St [])]), (178, .agg #[iV 0, iV 0, uV 0, iV 0, iV 0, iV 0, iV 0, .string (St [])]), (177, .bool false), (1, pV r1), (4, .slice (some ⟨r18, 0, none⟩) 2 2), (5, iV 1), (6, pV r15), (7, pV r115), (8, iV 1), (9, pV r125), (10, iV 1), (11, iV 0), (12, iV 1), (13, pV r139), (14, iV 1), (15, pV r149), (16, .bool false), (17, iV 0), (18, .bool false), (19, iV 1), (20, .slice none 0 0), (21, iV 1), (22, pV r167), (23, iV 1), (24, .slice none 0 0), (25, iV 1)] : Fr) (by kernel_rfl) (fun a => PO _ _ _ _ a _) (fun lr180 => ?_)
      refine plain_law (i := 64) 180 (.bool false) (by kernel_rfl) (seq42_neq_t (o := opA (RA Try.f9 [1, 1, 1, 1, 0, 1, 0, 0, 1, 0, 0, 1, 1, 1, 1, 1, 1, 1, 1, 1, 1, 0]) 64) (x := (Operand.tmp 178)) (y := (Operand.tmp 179)) 0 0 0 0 0 0 0 [] 0 0 0 0 0 0 0 [] (by kernel_rfl) (by kernel_rfl) (by kernel_rfl) ⟨rfl, rfl, rfl, rfl, rfl, rfl, rfl, rfl⟩ _) ?_
      refine zBb [85, 86, 87, 88, 89, 90, 91, 92, 93, 94, 95, 96, 97, 98, 99, 100, 101, 102, 103, 104, 105, 106, 107, 108] [(200, .agg #[iV rx, iV ry, uV rz, iV rs, iV rw, iV rt, iV rn, .string (St T2)]), (199, .pointer (some ⟨r1, 11, none⟩)), (198, iV vn), (197, .pointer (some ⟨r1, 10, none⟩)), (196, pV r15), (195, .bool false), (194, .bool false), (193, .bool false), (192, iV 1), (191, .bool false), (190, .bool false), (189, .bool false), (188, iV 0), (187, .slice none 0 0), (186, .bool false), (185, .bool false), (184, .bool false), (183, iV 1), (182, .bool false), (181, .bool false)] [⟨65, [], none⟩, ⟨66, [], none⟩, ⟨67, [], none⟩, ⟨68, [], none⟩, ⟨69, [], none⟩, ⟨70, [], none⟩, ⟨71, [], none⟩, ⟨72, [], none⟩, ⟨73, [], none⟩, ⟨74, [], none⟩, ⟨75, [], none⟩, ⟨76, [], none⟩, ⟨77, [], none⟩, ⟨78, [], none⟩, ⟨79, [], none⟩, ⟨80, [], none⟩, ⟨81, [], none⟩, ⟨82, [iV vn], none⟩, ⟨83, [], none⟩, ⟨84, [iV rx, iV ry, uV rz, iV rs, iV rw, iV rt, iV rn, .string (St T2)], none⟩] [(84, ⟨r1, 11, none⟩, iV rx), (84, ⟨r1, 12, none⟩, iV ry), (84, ⟨r1, 13, none⟩, uV rz), (84, ⟨r1, 14, none⟩, iV rs), (84, ⟨r1, 15, none⟩, iV rw), (84, ⟨r1, 16, none⟩, iV rt), (84, ⟨r1, 17, none⟩, iV rn), (84, ⟨r1, 18, none⟩, .string (St T2)), (82, ⟨r1, 10, none⟩, iV vn)] [] (by kernel_rfl) trivial (AllC_cons (sat_cell h176 13 rfl rfl) (AllC_cons (sat_cell h176 13 rfl rfl) (AllC_cons (sat_cell h176 13 rfl rfl) (AllC_cons (sat_cell h176 13 rfl rfl) (AllC_cons (sat_cell h176 13 rfl rfl) (AllC_cons (sat_cell h176 13 rfl rfl) (AllC_cons (sat_cell h176 13 rfl rfl) (AllC_cons (sat_cell h176 13 rfl rfl) (AllC_cons (sat_cell h176 13 rfl rfl) (AllC_nil _)))))))))) ?_
      refine fk_cut ([(200, .agg #[iV rx, iV ry, uV rz, iV rs, iV rw, iV rt, iV rn, .string (St T2)]), (198, iV vn), (196, pV r15), (195, .bool false), (1, pV r1), (4, .slice (some ⟨r18, 0, none⟩) 2 2), (5, iV 1), (6, pV r15), (7, pV r115), (8, iV 1), (9, pV r125), (10, iV 1), (11, iV 0), (12, iV 1), (13, pV r139), (14, iV 1), (15, pV r149), (16, .bool false), (17, iV 0), (18, .bool false), (19, iV 1), (20, .slice none 0 0), (21, iV 1), (22, pV r167), (23, iV 1), (24, .slice none 0 0), (25, iV 1)] : Fr) (by kernel_rfl) (fun a => PO _ _ _ _ a _) (fun lr181 => ?_)
      refine plain_act (i := 85) (by kernel_rfl) ?_
      refine zCl 201 Try.call17 (tset_z r15 vn rx ry rz rs rw rt rn T2) h176 (by kernel_rfl) ?_
      rintro v K w182 (⟨rfl, rfl⟩) h183
      refine ⟨_, rfl, ?_⟩
      have h184 : sat g w182 [Cl r15 [.pointer none, .map none, .slice none 0 0] 76, Cl r167 [iV 0, iV 0, uV 0, iV 0, iV 0, iV 0, iV 0, .string (St [])] 42, Cl r149 [iV 0, iV 0, uV 0] 28, Cl r139 [iV 0, uV 0] 34, Cl r125 [iV 0, iV 0, uV 0] 28, Cl r115 [iV 0, iV 0, uV 0] 28, Cl r76 [iV 0, iV 0, uV 0, iV 0, iV 0, iV 0, iV 0, .string (St [])] 42, Cl r59 [iV 0, iV 0, uV 0] 28, Cl r50 [iV 0, uV 0] 34, Cl r37 [iV 0, iV 0, uV 0] 28, Cl r28 [iV 0, iV 0, uV 0] 28, Cl r18 [.pointer none, pV r15] 22, Cl r5 [iV do_, iV ox, iV oy, uV oz, .string (St T1), iV hx, uV hy, iV dx, iV dy, uV dz, iV vn, iV rx, iV ry, uV rz, iV rs, iV rw, iV rt, iV rn, .string (St T2)] 69, Cl r1 [iV do_, iV ox, iV oy, uV oz, .string (St T1), iV hx, uV hy, iV dx, iV dy, uV dz, iV vn, iV rx, iV ry, uV rz, iV rs, iV rw, iV rt, iV rn, .string (St T2)] 69, Old wo, R] := h183
      refine zB0 [90, 91, 92, 93, 94, 95, 96, 97, 98, 99, 100, 101, 102, 103, 104, 105, 106, 107, 108] [86, 87, 88, 89] [(205, pV r15), (204, .bool false), (203, .bool false), (202, .bool false)] (by kernel_rfl) ?_
      refine plain_act (i := 90) (by kernel_rfl) ?_
      refine zCl 206 Try.call28 (tnums_z r15 1) h184 (by kernel_rfl) ?_
      rintro v K w185 (⟨rfl, rfl⟩) h186
      refine ⟨_, rfl, ?_⟩
      have h187 : sat g w185 [Cl r15 [.pointer none, .map none, .slice none 0 0] 76, Cl r167 [iV 0, iV 0, uV 0, iV 0, iV 0, iV 0, iV 0, .string (St [])] 42, Cl r149 [iV 0, iV 0, uV 0] 28, Cl r139 [iV 0, uV 0] 34, Cl r125 [iV 0, iV 0, uV 0] 28, Cl r115 [iV 0, iV 0, uV 0] 28, Cl r76 [iV 0, iV 0, uV 0, iV 0, iV 0, iV 0, iV 0, .string (St [])] 42, Cl r59 [iV 0, iV 0, uV 0] 28, Cl r50 [iV 0, uV 0] 34, Cl r37 [iV 0, iV 0, uV 0] 28, Cl r28 [iV 0, iV 0, uV 0] 28, Cl r18 [.pointer none, pV r15] 22, Cl r5 [iV do_, iV ox, iV oy, uV oz, .string (St T1), iV hx, uV hy, iV dx, iV dy, uV dz, iV vn, iV rx, iV ry, uV rz, iV rs, iV rw, iV rt, iV rn, .string (St T2)] 69, Cl r1 [iV do_, iV ox, iV oy, uV oz, .string (St T1), iV hx, uV hy, iV dx, iV dy, uV dz, iV vn, iV rx, iV ry, uV rz, iV rs, iV rw, iV rt, iV rn, .string (St T2)] 69, Old wo, R] := h186
      refine zB0 [96, 97, 98, 99, 100, 101, 102, 103, 104, 105, 106, 107, 108] [91, 92, 93, 94, 95] [(211, pV r15), (210, .bool false), (209, .bool false), (208, .bool false), (207, iV 0)] (by kernel_rfl) ?_
      refine fk_cut ([(211, pV r15), (210, .bool false), (1, pV r1), (4, .slice (some ⟨r18, 0, none⟩) 2 2), (5, iV 1), (6, pV r15), (7, pV r115), (8, iV 1), (9, pV r125), (10, iV 1), (11, iV 0), (12, iV 1), (13, pV r139), (14, iV 1), (15, pV r149), (16, .bool false), (17, iV 0), (18, .bool false), (19, iV 1), (20, .slice none 0 0), (21, iV 1), (22, pV r167), (23, iV 1), (24, .slice none 0 0), (25, iV 1)] : Fr) (by kernel_rfl) (fun a => PO _ _ _ _ a _) (fun lr188 => ?_)
      refine plain_act (i := 96) (by kernel_rfl) ?_
      refine zCl 212 Try.call22 (tlen_z r15) h187 (by kernel_rfl) ?_
      rintro v K w189 (⟨rfl, rfl⟩) h190
      refine ⟨_, rfl, ?_⟩
      have h191 : sat g w189 [Cl r15 [.pointer none, .map none, .slice none 0 0] 76, Cl r167 [iV 0, iV 0, uV 0, iV 0, iV 0, iV 0, iV 0, .string (St [])] 42, Cl r149 [iV 0, iV 0, uV 0] 28, Cl r139 [iV 0, uV 0] 34, Cl r125 [iV 0, iV 0, uV 0] 28, Cl r115 [iV 0, iV 0, uV 0] 28, Cl r76 [iV 0, iV 0, uV 0, iV 0, iV 0, iV 0, iV 0, .string (St [])] 42, Cl r59 [iV 0, iV 0, uV 0] 28, Cl r50 [iV 0, uV 0] 34, Cl r37 [iV 0, iV 0, uV 0] 28, Cl r28 [iV 0, iV 0, uV 0] 28, Cl r18 [.pointer none, pV r15] 22, Cl r5 [iV do_, iV ox, iV oy, uV oz, .string (St T1), iV hx, uV hy, iV dx, iV dy, uV dz, iV vn, iV rx, iV ry, uV rz, iV rs, iV rw, iV rt, iV rn, .string (St T2)] 69, Cl r1 [iV do_, iV ox, iV oy, uV oz, .string (St T1), iV hx, uV hy, iV dx, iV dy, uV dz, iV vn, iV rx, iV ry, uV rz, iV rs, iV rw, iV rt, iV rn, .string (St T2)] 69, Old wo, R] := h190
      refine zB0 [101, 102, 103, 104, 105, 106, 107, 108] [97, 98, 99, 100] [(216, pV r15), (215, .bool false), (214, .bool false), (213, .bool false)] (by kernel_rfl) ?_
      refine plain_act (i := 101) (by kernel_rfl) ?_
      refine zCl 217 Try.call29 (troom_z r15) h191 (by kernel_rfl) ?_
      rintro v K w192 (⟨rfl, rfl⟩) h193
      refine ⟨_, rfl, ?_⟩
      have h194 : sat g w192 [Cl r15 [.pointer none, .map none, .slice none 0 0] 76, Cl r167 [iV 0, iV 0, uV 0, iV 0, iV 0, iV 0, iV 0, .string (St [])] 42, Cl r149 [iV 0, iV 0, uV 0] 28, Cl r139 [iV 0, uV 0] 34, Cl r125 [iV 0, iV 0, uV 0] 28, Cl r115 [iV 0, iV 0, uV 0] 28, Cl r76 [iV 0, iV 0, uV 0, iV 0, iV 0, iV 0, iV 0, .string (St [])] 42, Cl r59 [iV 0, iV 0, uV 0] 28, Cl r50 [iV 0, uV 0] 34, Cl r37 [iV 0, iV 0, uV 0] 28, Cl r28 [iV 0, iV 0, uV 0] 28, Cl r18 [.pointer none, pV r15] 22, Cl r5 [iV do_, iV ox, iV oy, uV oz, .string (St T1), iV hx, uV hy, iV dx, iV dy, uV dz, iV vn, iV rx, iV ry, uV rz, iV rs, iV rw, iV rt, iV rn, .string (St T2)] 69, Cl r1 [iV do_, iV ox, iV oy, uV oz, .string (St T1), iV hx, uV hy, iV dx, iV dy, uV dz, iV vn, iV rx, iV ry, uV rz, iV rs, iV rw, iV rt, iV rn, .string (St T2)] 69, Old wo, R] := h193
      refine zB0 [106, 107, 108] [102, 103, 104, 105] [(221, pV r15), (220, .bool false), (219, .bool false), (218, .bool false)] (by kernel_rfl) ?_
      refine fk_cut ([(221, pV r15), (220, .bool false), (1, pV r1), (4, .slice (some ⟨r18, 0, none⟩) 2 2), (5, iV 1), (6, pV r15), (7, pV r115), (8, iV 1), (9, pV r125), (10, iV 1), (11, iV 0), (12, iV 1), (13, pV r139), (14, iV 1), (15, pV r149), (16, .bool false), (17, iV 0), (18, .bool false), (19, iV 1), (20, .slice none 0 0), (21, iV 1), (22, pV r167), (23, iV 1), (24, .slice none 0 0), (25, iV 1)] : Fr) (by kernel_rfl) (fun a => PO _ _ _ _ a _) (fun lr195 => ?_)
      refine plain_act (i := 106) (by kernel_rfl) ?_
      refine zCl 222 Try.call30 (tcopy_z r15) h194 (by kernel_rfl) ?_
      rintro v K w196 (⟨rfl, rfl⟩) h197
      refine ⟨_, rfl, ?_⟩
      have h198 : sat g w196 [Cl r15 [.pointer none, .map none, .slice none 0 0] 76, Cl r167 [iV 0, iV 0, uV 0, iV 0, iV 0, iV 0, iV 0, .string (St [])] 42, Cl r149 [iV 0, iV 0, uV 0] 28, Cl r139 [iV 0, uV 0] 34, Cl r125 [iV 0, iV 0, uV 0] 28, Cl r115 [iV 0, iV 0, uV 0] 28, Cl r76 [iV 0, iV 0, uV 0, iV 0, iV 0, iV 0, iV 0, .string (St [])] 42, Cl r59 [iV 0, iV 0, uV 0] 28, Cl r50 [iV 0, uV 0] 34, Cl r37 [iV 0, iV 0, uV 0] 28, Cl r28 [iV 0, iV 0, uV 0] 28, Cl r18 [.pointer none, pV r15] 22, Cl r5 [iV do_, iV ox, iV oy, uV oz, .string (St T1), iV hx, uV hy, iV dx, iV dy, uV dz, iV vn, iV rx, iV ry, uV rz, iV rs, iV rw, iV rt, iV rn, .string (St T2)] 69, Cl r1 [iV do_, iV ox, iV oy, uV oz, .string (St T1), iV hx, uV hy, iV dx, iV dy, uV dz, iV vn, iV rx, iV ry, uV rz, iV rs, iV rw, iV rt, iV rn, .string (St T2)] 69, Old wo, R] := h197
      refine zB0 [] [107, 108] [(224, .bool false), (223, .bool false)] (by kernel_rfl) ?_
      refine PO.mk ?_
      change WP _ _ (CA Try.f9 [1, 1, 1, 1, 0, 1, 0, 0, 1, 0, 0, 1, 1, 1, 1, 1, 1, 1, 1, 1, 1, 1]) _ _ _
      refine fk_cut ([(1, pV r1), (4, .slice (some ⟨r18, 0, none⟩) 2 2), (5, iV 1), (224, .bool false)] : Fr) (by kernel_rfl) (fun a => WP _ _ _ _ a _) (fun lr199 => ?_)
      refine zCf (by kernel_rfl) ?_
      refine gi_skp (by kernel_rfl) ?_
      change WP _ _ (CA Try.f9 [1, 1, 1, 1, 0, 1, 0, 0, 1, 1]) _ _ _
      refine zPl [0, 1, 2] (by kernel_rfl) ?_
      refine zB0 [] [0, 1, 2] [(5, iV 2), (40, iV 2), (39, iV 1)] (by kernel_rfl) ?_
      refine PO.mk ?_
      change WP _ _ (CA Try.f9 [1, 1, 1, 1, 0, 1, 0, 0]) _ _ _
      refine fk_cut ([(1, pV r1), (4, .slice (some ⟨r18, 0, none⟩) 2 2), (5, iV 2), (224, .bool false)] : Fr) (by kernel_rfl) (fun a => WP _ _ _ _ a _) (fun lr200 => ?_)
      refine zSq (by kernel_rfl) ?_
      refine zSq (by kernel_rfl) ?_
      refine zPl [0, 1, 2, 3] (by kernel_rfl) ?_
      refine zBb [] [(38, .bool false), (37, iV 2), (36, .slice (some ⟨r18, 0, none⟩) 2 2), (35, iV 2)] [⟨0, [], none⟩, ⟨1, [], none⟩, ⟨2, [], some (iV 2)⟩, ⟨3, [], none⟩] [] [(iV ((2 : Nat) : Int), iV 2)] (by kernel_rfl) ⟨(ov_int (by omega)), trivial⟩ (AllC_nil _) ?_
      refine PO.mk ?_
      change WP _ _ (CA Try.f9 [1, 1, 1, 1, 0, 1, 0, 0, 0, 1]) _ _ _
      refine fk_cut ([(1, pV r1), (4, .slice (some ⟨r18, 0, none⟩) 2 2), (5, iV 2), (38, .bool false)] : Fr) (by kernel_rfl) (fun a => WP _ _ _ _ a _) (fun lr201 => ?_)
      refine zCf (by kernel_rfl) ?_
      refine gi_ext (id := 0) (by kernel_rfl) ?_
      change WP _ _ (CA Try.f9 [1, 1, 1, 1, 1]) _ _ _
      refine zSq (by kernel_rfl) ?_
      refine zPl [0, 1] (by kernel_rfl) ?_
      refine plain_act (i := 0) (by kernel_rfl) ?_
      refine zCl 225 Try.call18 (works_ht) h198 (by kernel_rfl) ?_
      rintro v K w202 (⟨rfl, rfl⟩) h203
      refine ⟨_, rfl, ?_⟩
      have h204 : sat g w202 [Cl r15 [.pointer none, .map none, .slice none 0 0] 76, Cl r167 [iV 0, iV 0, uV 0, iV 0, iV 0, iV 0, iV 0, .string (St [])] 42, Cl r149 [iV 0, iV 0, uV 0] 28, Cl r139 [iV 0, uV 0] 34, Cl r125 [iV 0, iV 0, uV 0] 28, Cl r115 [iV 0, iV 0, uV 0] 28, Cl r76 [iV 0, iV 0, uV 0, iV 0, iV 0, iV 0, iV 0, .string (St [])] 42, Cl r59 [iV 0, iV 0, uV 0] 28, Cl r50 [iV 0, uV 0] 34, Cl r37 [iV 0, iV 0, uV 0] 28, Cl r28 [iV 0, iV 0, uV 0] 28, Cl r18 [.pointer none, pV r15] 22, Cl r5 [iV do_, iV ox, iV oy, uV oz, .string (St T1), iV hx, uV hy, iV dx, iV dy, uV dz, iV vn, iV rx, iV ry, uV rz, iV rs, iV rw, iV rt, iV rn, .string (St T2)] 69, Cl r1 [iV do_, iV ox, iV oy, uV oz, .string (St T1), iV hx, uV hy, iV dx, iV dy, uV dz, iV vn, iV rx, iV ry, uV rz, iV rs, iV rw, iV rt, iV rn, .string (St T2)] 69, Old wo, R] := h203
      refine zB0 [] [1] [(2, .bool true)] (by kernel_rfl) ?_
      refine PO.mk ?_
      change WP _ _ (CA Try.f9 [1, 1, 1, 1, 1, 1]) _ _ _
      refine fk_cut ([(2, .bool true)] : Fr) (by kernel_rfl) (fun a => WP _ _ _ _ a _) (fun lr205 => ?_)
      refine gi_rt (by kernel_rfl) ?_
      repeat (first | simp only [Exit.inBlock] | simp only [Exit.then])
      have h206 : sat g w202 [Old wo, Cl r15 [.pointer none, .map none, .slice none 0 0] 76, Cl r167 [iV 0, iV 0, uV 0, iV 0, iV 0, iV 0, iV 0, .string (St [])] 42, Cl r149 [iV 0, iV 0, uV 0] 28, Cl r139 [iV 0, uV 0] 34, Cl r125 [iV 0, iV 0, uV 0] 28, Cl r115 [iV 0, iV 0, uV 0] 28, Cl r76 [iV 0, iV 0, uV 0, iV 0, iV 0, iV 0, iV 0, .string (St [])] 42, Cl r59 [iV 0, iV 0, uV 0] 28, Cl r50 [iV 0, uV 0] 34, Cl r37 [iV 0, iV 0, uV 0] 28, Cl r28 [iV 0, iV 0, uV 0] 28, Cl r18 [.pointer none, pV r15] 22, Cl r5 [iV do_, iV ox, iV oy, uV oz, .string (St T1), iV hx, uV hy, iV dx, iV dy, uV dz, iV vn, iV rx, iV ry, uV rz, iV rs, iV rw, iV rt, iV rn, .string (St T2)] 69, Cl r1 [iV do_, iV ox, iV oy, uV oz, .string (St T1), iV hx, uV hy, iV dx, iV dy, uV dz, iV vn, iV rx, iV ry, uV rz, iV rs, iV rw, iV rt, iV rn, .string (St T2)] 69, R] := sat_sel [14, 0, 1, 2, 3, 4, 5, 6, 7, 8, 9, 10, 11, 12, 13, 15] rfl h204
      have h207 : sat g w202 [Old wo, R] := sat_sel [0, 15] rfl h206
      refine hi_out [] (.bool true) [] (by kernel_rfl) (by intro q hq; cases hq) ?_
      exact ⟨.bool true, [Old wo], rfl, ⟨rfl, rfl⟩, h207⟩
    ·
      refine plain_act (i := 2) (by kernel_rfl) ?_
      refine zCl 28 Try.call33 (short_g r5 do_ ox oy oz hx hy dx dy dz vn rx ry rz rs rw rt rn T1 T2 (by omega) (by omega)) h7 (by kernel_rfl) ?_
      rintro v K w208 (⟨rfl, rfl⟩) h209
      refine ⟨_, rfl, ?_⟩
      have h210 : sat g w208 [Cl r5 [iV do_, iV ox, iV oy, uV oz, .string (St T1), iV hx, uV hy, iV dx, iV dy, uV dz, iV vn, iV rx, iV ry, uV rz, iV rs, iV rw, iV rt, iV rn, .string (St T2)] 69, Cl r1 [iV do_, iV ox, iV oy, uV oz, .string (St T1), iV hx, uV hy, iV dx, iV dy, uV dz, iV vn, iV rx, iV ry, uV rz, iV rs, iV rw, iV rt, iV rn, .string (St T2)] 69, Old wo, R] := h209
      refine zB0 [] [3] [(29, .bool true)] (by kernel_rfl) ?_
      refine PO.mk ?_
      change WP _ _ (CA Try.f9 [1, 0, 1]) _ _ _
      refine fk_cut ([(1, pV r1), (29, .bool true)] : Fr) (by kernel_rfl) (fun a => WP _ _ _ _ a _) (fun lr211 => ?_)
      refine zCt (by kernel_rfl) ?_
      refine zSq (by kernel_rfl) ?_
      refine zPl [0, 1] (by kernel_rfl) ?_
      refine plain_act (i := 0) (by kernel_rfl) ?_
      refine zCl 30 Try.call18 (works_ht) h210 (by kernel_rfl) ?_
      rintro v K w212 (⟨rfl, rfl⟩) h213
      refine ⟨_, rfl, ?_⟩
      have h214 : sat g w212 [Cl r5 [iV do_, iV ox, iV oy, uV oz, .string (St T1), iV hx, uV hy, iV dx, iV dy, uV dz, iV vn, iV rx, iV ry, uV rz, iV rs, iV rw, iV rt, iV rn, .string (St T2)] 69, Cl r1 [iV do_, iV ox, iV oy, uV oz, .string (St T1), iV hx, uV hy, iV dx, iV dy, uV dz, iV vn, iV rx, iV ry, uV rz, iV rs, iV rw, iV rt, iV rn, .string (St T2)] 69, Old wo, R] := h213
      refine zB0 [] [1] [(2, .bool true)] (by kernel_rfl) ?_
      refine PO.mk ?_
      change WP _ _ (CA Try.f9 [1, 0, 1, 0, 1]) _ _ _
      refine fk_cut ([(2, .bool true)] : Fr) (by kernel_rfl) (fun a => WP _ _ _ _ a _) (fun lr215 => ?_)
      refine gi_rt (by kernel_rfl) ?_
      repeat (first | simp only [Exit.inBlock] | simp only [Exit.then])
      have h216 : sat g w212 [Old wo, Cl r5 [iV do_, iV ox, iV oy, uV oz, .string (St T1), iV hx, uV hy, iV dx, iV dy, uV dz, iV vn, iV rx, iV ry, uV rz, iV rs, iV rw, iV rt, iV rn, .string (St T2)] 69, Cl r1 [iV do_, iV ox, iV oy, uV oz, .string (St T1), iV hx, uV hy, iV dx, iV dy, uV dz, iV vn, iV rx, iV ry, uV rz, iV rs, iV rw, iV rt, iV rn, .string (St T2)] 69, R] := sat_sel [2, 0, 1, 3] rfl h214
      have h217 : sat g w212 [Old wo, R] := sat_sel [0, 3] rfl h216
      refine hi_out [] (.bool true) [] (by kernel_rfl) (by intro q hq; cases hq) ?_
      exact ⟨.bool true, [Old wo], rfl, ⟨rfl, rfl⟩, h217⟩
  ·
    refine plain_act (i := 2) (by kernel_rfl) ?_
    refine zCl 28 Try.call33 (short_f r5 do_ ox oy oz hx hy dx dy dz vn rx ry rz rs rw rt rn T1 T2 (by omega)) h7 (by kernel_rfl) ?_
    rintro v K w218 (⟨rfl, rfl⟩) h219
    refine ⟨_, rfl, ?_⟩
    have h220 : sat g w218 [Cl r5 [iV do_, iV ox, iV oy, uV oz, .string (St T1), iV hx, uV hy, iV dx, iV dy, uV dz, iV vn, iV rx, iV ry, uV rz, iV rs, iV rw, iV rt, iV rn, .string (St T2)] 69, Cl r1 [iV do_, iV ox, iV oy, uV oz, .string (St T1), iV hx, uV hy, iV dx, iV dy, uV dz, iV vn, iV rx, iV ry, uV rz, iV rs, iV rw, iV rt, iV rn, .string (St T2)] 69, Old wo, R] := h219
    refine zB0 [] [3] [(29, .bool true)] (by kernel_rfl) ?_
    refine PO.mk ?_
    change WP _ _ (CA Try.f9 [1, 0, 1]) _ _ _
    refine fk_cut ([(1, pV r1), (29, .bool true)] : Fr) (by kernel_rfl) (fun a => WP _ _ _ _ a _) (fun lr221 => ?_)
    refine zCt (by kernel_rfl) ?_
    refine zSq (by kernel_rfl) ?_
    refine zPl [0, 1] (by kernel_rfl) ?_
    refine plain_act (i := 0) (by kernel_rfl) ?_
    refine zCl 30 Try.call18 (works_ht) h220 (by kernel_rfl) ?_
    rintro v K w222 (⟨rfl, rfl⟩) h223
    refine ⟨_, rfl, ?_⟩
    have h224 : sat g w222 [Cl r5 [iV do_, iV ox, iV oy, uV oz, .string (St T1), iV hx, uV hy, iV dx, iV dy, uV dz, iV vn, iV rx, iV ry, uV rz, iV rs, iV rw, iV rt, iV rn, .string (St T2)] 69, Cl r1 [iV do_, iV ox, iV oy, uV oz, .string (St T1), iV hx, uV hy, iV dx, iV dy, uV dz, iV vn, iV rx, iV ry, uV rz, iV rs, iV rw, iV rt, iV rn, .string (St T2)] 69, Old wo, R] := h223
    refine zB0 [] [1] [(2, .bool true)] (by kernel_rfl) ?_
    refine PO.mk ?_
    change WP _ _ (CA Try.f9 [1, 0, 1, 0, 1]) _ _ _
    refine fk_cut ([(2, .bool true)] : Fr) (by kernel_rfl) (fun a => WP _ _ _ _ a _) (fun lr225 => ?_)
    refine gi_rt (by kernel_rfl) ?_
    repeat (first | simp only [Exit.inBlock] | simp only [Exit.then])
    have h226 : sat g w222 [Old wo, Cl r5 [iV do_, iV ox, iV oy, uV oz, .string (St T1), iV hx, uV hy, iV dx, iV dy, uV dz, iV vn, iV rx, iV ry, uV rz, iV rs, iV rw, iV rt, iV rn, .string (St T2)] 69, Cl r1 [iV do_, iV ox, iV oy, uV oz, .string (St T1), iV hx, uV hy, iV dx, iV dy, uV dz, iV vn, iV rx, iV ry, uV rz, iV rs, iV rw, iV rt, iV rn, .string (St T2)] 69, R] := sat_sel [2, 0, 1, 3] rfl h224
    have h227 : sat g w222 [Old wo, R] := sat_sel [0, 3] rfl h226
    refine hi_out [] (.bool true) [] (by kernel_rfl) (by intro q hq; cases hq) ?_
    exact ⟨.bool true, [Old wo], rfl, ⟨rfl, rfl⟩, h227⟩

end Go.Proofs.Ytjjpmehiolejgaa
