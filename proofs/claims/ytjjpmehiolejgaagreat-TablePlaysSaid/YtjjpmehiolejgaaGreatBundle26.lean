/- Walks, printed by my generator z1.py. -/
import Derived.Test.YtjjpmehiolejgaaGreatBundle24
import Derived.Test.YtjjpmehiolejgaaGreatTgD
namespace Go.Proofs.YtjjpmehiolejgaaGreat
theorem getD_at {L : List UInt8} {j : Nat} {x : UInt8} (h : L[j]? = some x) : (L.getD j 0).toNat = x.toNat := by rw [List.getD_eq_getElem?_getD, h]; rfl
theorem cB_some {L : List UInt8} {j : Nat} {x : UInt8} (h : L[j]? = some x) (hx : 128 ≤ x.toNat ∧ x.toNat < 192) : contB L j = some (x.toNat % 64) := by
  unfold contB
  rw [getD_at h, if_pos ⟨(List.getElem?_eq_some_iff.1 h).1, by omega⟩]
theorem cB_none {L : List UInt8} {j : Nat} {x : UInt8} (h : L[j]? = some x) (hx : x.toNat < 128 ∨ 192 ≤ x.toNat) : contB L j = none := by
  unfold contB
  have := x.toNat_lt
  rw [getD_at h, if_neg (fun q => by omega)]
theorem cB_out {L : List UInt8} {j : Nat} (h : L.length ≤ j) : contB L j = none := by
  unfold contB
  rw [if_neg (fun q => by omega)]
theorem rd_of {L : List UInt8} {i : Nat} {x : UInt8} {c1 c2 c3 : Option Nat} (h : L[i]? = some x) (h1 : contB L (i + 1) = c1) (h2 : contB L (i + 2) = c2) (h3 : contB L (i + 3) = c3) : runeD L i = decF x.toNat c1 c2 c3 := by
  unfold runeD
  rw [getD_at h, h1, h2, h3]
set_option maxHeartbeats 4000000 in
theorem rune_ht (L : List UInt8) (i : Nat) (hi : i < L.length) (hm : L.length ≤ 1099511627776) : HT Tryz.prog 109 [Value.string (St L), Value.int IntKind.i64 (((i : Nat) : Int))] [] (fun v K => v = Value.tuple #[Value.int IntKind.i64 ((((runeD L i).1 : Nat) : Int)), Value.int IntKind.i64 ((((runeD L i).2 : Nat) : Int))] ∧ K = []) := by
 refine hiS Tryz.func109 Tryz.ntmps109 fun g w0 R h0 => ?_
 obtain ⟨x10, hx11⟩ : ∃ x, L[i]? = some x := ⟨_, List.getElem?_eq_getElem (by omega)⟩
 have hb12 := x10.toNat_lt
 refine go [.s 1 2] <| lwP (yV (((x10.toNat : Nat) : Int))) (law_idxStr (x := (Operand.tmp 11)) (i := (Operand.tmp 12)) (k := .i64) (s := L) (z := (i : Int)) (b := x10) (by kernel_rfl) Tryz.underlying9 (by kernel_rfl) (by kernel_rfl) i (by omega) hx11 _) <| go [.v 1 3 (oIr (((x10.toNat : Nat) : Int))), .s 2 1] ?_
 by_cases c13 : ((x10.toNat : Nat) : Int) < 128
 ·
  refine go [.v 2 1 (oT (((x10.toNat : Nat) : Int) < 128))] ?_
  have he_ := rd_of hx11 (rfl) (rfl) (rfl)
  unfold decF at he_
  rw [if_pos (by omega)] at he_
  have hr1_ : ((runeD L i).1 : Int) = ((x10.toNat : Nat) : Int) := by rw [he_] <;> first | rfl | (dsimp only; omega)
  have hr2_ : ((runeD L i).2 : Int) = 1 := by rw [he_] <;> rfl
  exact en (.tuple #[iV (((x10.toNat : Nat) : Int)), iV 1]) [] ⟨_, _, rfl, ⟨by rw [hr1_, hr2_], rfl⟩, h0⟩
 refine go [.v 2 1 (oF (((x10.toNat : Nat) : Int) < 128)), .s 6 1] ?_
 by_cases c14 : ((x10.toNat : Nat) : Int) ≥ 192
 ·
  refine go [.v 6 1 (oT (((x10.toNat : Nat) : Int) ≥ 192)), .s 6 4] ?_
  by_cases c15 : ((x10.toNat : Nat) : Int) < 224
  ·
   refine go [.v 6 4 (oT (((x10.toNat : Nat) : Int) < 224)), .v 9 1 (oIr ((((x10.toNat : Nat) : Int)) - 192)), .v 18 5 (oIr ((i : Int) + 2)), .v 18 7 (⟨iV ((St L).size : Int), iV (((L.length : Nat) : Int)), (ov_int (st_len _))⟩), .s 18 8] ?_
   by_cases c16 : (i : Int) + 2 > ((L.length : Nat) : Int)
   ·
    refine go [.v 18 8 (oT ((i : Int) + 2 > ((L.length : Nat) : Int)))] ?_
    have he_ := rd_of hx11 (cB_out (by omega)) (cB_out (by omega)) (cB_out (by omega))
    unfold decF at he_
    rw [if_neg (by omega), if_pos (by omega)] at he_
    have hr1_ : ((runeD L i).1 : Int) = 0 := by rw [he_] <;> first | rfl | (dsimp only; omega)
    have hr2_ : ((runeD L i).2 : Int) = 0 := by rw [he_] <;> rfl
    exact en (.tuple #[iV 0, iV 0]) [] ⟨_, _, rfl, ⟨by rw [hr1_, hr2_], rfl⟩, h0⟩
   refine go [.v 18 8 (oF ((i : Int) + 2 > ((L.length : Nat) : Int)))] <| unS 3 ?_
   obtain ⟨x17, hx18⟩ : ∃ x, L[i + 1]? = some x := ⟨_, List.getElem?_eq_getElem (by omega)⟩
   have hb19 := x17.toNat_lt
   refine go [.v 23 3 (oIr ((i : Int) + 1)), .s 23 4] <| lwP (yV (((x17.toNat : Nat) : Int))) (law_idxStr (x := (Operand.tmp 57)) (i := (Operand.tmp 60)) (k := .i64) (s := L) (z := ((i : Int) + 1)) (b := x17) (by kernel_rfl) Tryz.underlying9 (by kernel_rfl) (by kernel_rfl) (i + 1) (by omega) hx18 _) <| go [.v 23 5 (oIr (((x17.toNat : Nat) : Int))), .s 24 1] ?_
   by_cases c20 : ((x17.toNat : Nat) : Int) < 128
   ·
    refine go [.v 24 1 (oT (((x17.toNat : Nat) : Int) < 128))] <| up <| go [] ?_
    have he_ := rd_of hx11 (cB_none (j := i + 1) (by rw [show i + 1 = (i + 1) from by omega]; exact hx18) (by omega)) (rfl) (rfl)
    unfold decF at he_
    rw [if_neg (by omega), if_pos (by omega)] at he_
    have hr1_ : ((runeD L i).1 : Int) = 0 := by rw [he_] <;> first | rfl | (dsimp only; omega)
    have hr2_ : ((runeD L i).2 : Int) = 0 := by rw [he_] <;> rfl
    exact en (.tuple #[iV 0, iV 0]) [] ⟨_, _, rfl, ⟨by rw [hr1_, hr2_], rfl⟩, h0⟩
   refine go [.v 24 1 (oF (((x17.toNat : Nat) : Int) < 128)), .s 24 4] ?_
   by_cases c21 : ((x17.toNat : Nat) : Int) ≥ 192
   ·
    refine go [.v 24 4 (oT (((x17.toNat : Nat) : Int) ≥ 192))] <| up <| go [] ?_
    have he_ := rd_of hx11 (cB_none (j := i + 1) (by rw [show i + 1 = (i + 1) from by omega]; exact hx18) (by omega)) (rfl) (rfl)
    unfold decF at he_
    rw [if_neg (by omega), if_pos (by omega)] at he_
    have hr1_ : ((runeD L i).1 : Int) = 0 := by rw [he_] <;> first | rfl | (dsimp only; omega)
    have hr2_ : ((runeD L i).2 : Int) = 0 := by rw [he_] <;> rfl
    exact en (.tuple #[iV 0, iV 0]) [] ⟨_, _, rfl, ⟨by rw [hr1_, hr2_], rfl⟩, h0⟩
   refine go [.v 24 4 (oF (((x17.toNat : Nat) : Int) ≥ 192)), .v 26 1 (oI ((((x10.toNat : Nat) : Int) - 192) * 64) (64 * ((x10.toNat : Nat) : Int) - 12288)), .v 26 3 (oI ((64 * ((x10.toNat : Nat) : Int) - 12288) + (((x17.toNat : Nat) : Int))) (64 * ((x10.toNat : Nat) : Int) + ((x17.toNat : Nat) : Int) - 12288)), .v 26 4 (oI ((64 * ((x10.toNat : Nat) : Int) + ((x17.toNat : Nat) : Int) - 12288) - 128) (64 * ((x10.toNat : Nat) : Int) + ((x17.toNat : Nat) : Int) - 12416))] <| unN <| go [] <| up <| go [.s 27 2] ?_
   by_cases c22 : 64 * ((x10.toNat : Nat) : Int) + ((x17.toNat : Nat) : Int) - 12416 < 128
   ·
    refine go [.v 27 2 (oT (64 * ((x10.toNat : Nat) : Int) + ((x17.toNat : Nat) : Int) - 12416 < 128))] ?_
    have he_ := rd_of hx11 (cB_some (j := i + 1) (by rw [show i + 1 = (i + 1) from by omega]; exact hx18) (by omega)) (rfl) (rfl)
    unfold decF at he_
    rw [if_neg (by omega), if_pos (by omega)] at he_
    dsimp only at he_
    rw [if_neg (by omega)] at he_
    have hr1_ : ((runeD L i).1 : Int) = 0 := by rw [he_] <;> first | rfl | (dsimp only; omega)
    have hr2_ : ((runeD L i).2 : Int) = 0 := by rw [he_] <;> rfl
    exact en (.tuple #[iV 0, iV 0]) [] ⟨_, _, rfl, ⟨by rw [hr1_, hr2_], rfl⟩, h0⟩
   refine go [.v 27 2 (oF (64 * ((x10.toNat : Nat) : Int) + ((x17.toNat : Nat) : Int) - 12416 < 128)), .v 27 5 (oF (64 * ((x10.toNat : Nat) : Int) + ((x17.toNat : Nat) : Int) - 12416 > 1114111)), .v 27 9 (oF (64 * ((x10.toNat : Nat) : Int) + ((x17.toNat : Nat) : Int) - 12416 ≥ 55296))] ?_
   have he_ := rd_of hx11 (cB_some (j := i + 1) (by rw [show i + 1 = (i + 1) from by omega]; exact hx18) (by omega)) (rfl) (rfl)
   unfold decF at he_
   rw [if_neg (by omega), if_pos (by omega)] at he_
   dsimp only at he_
   rw [if_pos (by omega)] at he_
   have hr1_ : ((runeD L i).1 : Int) = 64 * ((x10.toNat : Nat) : Int) + ((x17.toNat : Nat) : Int) - 12416 := by rw [he_] <;> first | rfl | (dsimp only; omega)
   have hr2_ : ((runeD L i).2 : Int) = 2 := by rw [he_] <;> rfl
   exact en (.tuple #[iV (64 * ((x10.toNat : Nat) : Int) + ((x17.toNat : Nat) : Int) - 12416), iV 2]) [] ⟨_, _, rfl, ⟨by rw [hr1_, hr2_], rfl⟩, h0⟩
  refine go [.v 6 4 (oF (((x10.toNat : Nat) : Int) < 224)), .v 10 1 (oT (((x10.toNat : Nat) : Int) ≥ 224)), .s 10 4] ?_
  by_cases c23 : ((x10.toNat : Nat) : Int) < 240
  ·
   refine go [.v 10 4 (oT (((x10.toNat : Nat) : Int) < 240)), .v 13 1 (oIr ((((x10.toNat : Nat) : Int)) - 224)), .v 18 5 (oIr ((i : Int) + 3)), .v 18 7 (⟨iV ((St L).size : Int), iV (((L.length : Nat) : Int)), (ov_int (st_len _))⟩), .s 18 8] ?_
   by_cases c24 : (i : Int) + 3 > ((L.length : Nat) : Int)
   ·
    refine go [.v 18 8 (oT ((i : Int) + 3 > ((L.length : Nat) : Int)))] ?_
    have he_ := rd_of hx11 (rfl) (cB_out (by omega)) (cB_out (by omega))
    unfold decF at he_
    rw [if_neg (by omega), if_neg (by omega), if_pos (by omega)] at he_
    have he2_ : runeD L i = (0, 0) := by rw [he_]; cases contB L (i + 1) <;> rfl
    replace he_ := he2_
    have hr1_ : ((runeD L i).1 : Int) = 0 := by rw [he_] <;> first | rfl | (dsimp only; omega)
    have hr2_ : ((runeD L i).2 : Int) = 0 := by rw [he_] <;> rfl
    exact en (.tuple #[iV 0, iV 0]) [] ⟨_, _, rfl, ⟨by rw [hr1_, hr2_], rfl⟩, h0⟩
   refine go [.v 18 8 (oF ((i : Int) + 3 > ((L.length : Nat) : Int)))] <| unS 3 ?_
   obtain ⟨x25, hx26⟩ : ∃ x, L[i + 1]? = some x := ⟨_, List.getElem?_eq_getElem (by omega)⟩
   have hb27 := x25.toNat_lt
   refine go [.v 23 3 (oIr ((i : Int) + 1)), .s 23 4] <| lwP (yV (((x25.toNat : Nat) : Int))) (law_idxStr (x := (Operand.tmp 57)) (i := (Operand.tmp 60)) (k := .i64) (s := L) (z := ((i : Int) + 1)) (b := x25) (by kernel_rfl) Tryz.underlying9 (by kernel_rfl) (by kernel_rfl) (i + 1) (by omega) hx26 _) <| go [.v 23 5 (oIr (((x25.toNat : Nat) : Int))), .s 24 1] ?_
   by_cases c28 : ((x25.toNat : Nat) : Int) < 128
   ·
    refine go [.v 24 1 (oT (((x25.toNat : Nat) : Int) < 128))] <| up <| go [] ?_
    have he_ := rd_of hx11 (cB_none (j := i + 1) (by rw [show i + 1 = (i + 1) from by omega]; exact hx26) (by omega)) (rfl) (rfl)
    unfold decF at he_
    rw [if_neg (by omega), if_neg (by omega), if_pos (by omega)] at he_
    have hr1_ : ((runeD L i).1 : Int) = 0 := by rw [he_] <;> first | rfl | (dsimp only; omega)
    have hr2_ : ((runeD L i).2 : Int) = 0 := by rw [he_] <;> rfl
    exact en (.tuple #[iV 0, iV 0]) [] ⟨_, _, rfl, ⟨by rw [hr1_, hr2_], rfl⟩, h0⟩
   refine go [.v 24 1 (oF (((x25.toNat : Nat) : Int) < 128)), .s 24 4] ?_
   by_cases c29 : ((x25.toNat : Nat) : Int) ≥ 192
   ·
    refine go [.v 24 4 (oT (((x25.toNat : Nat) : Int) ≥ 192))] <| up <| go [] ?_
    have he_ := rd_of hx11 (cB_none (j := i + 1) (by rw [show i + 1 = (i + 1) from by omega]; exact hx26) (by omega)) (rfl) (rfl)
    unfold decF at he_
    rw [if_neg (by omega), if_neg (by omega), if_pos (by omega)] at he_
    have hr1_ : ((runeD L i).1 : Int) = 0 := by rw [he_] <;> first | rfl | (dsimp only; omega)
    have hr2_ : ((runeD L i).2 : Int) = 0 := by rw [he_] <;> rfl
    exact en (.tuple #[iV 0, iV 0]) [] ⟨_, _, rfl, ⟨by rw [hr1_, hr2_], rfl⟩, h0⟩
   refine go [.v 24 4 (oF (((x25.toNat : Nat) : Int) ≥ 192)), .v 26 1 (oI ((((x10.toNat : Nat) : Int) - 224) * 64) (64 * ((x10.toNat : Nat) : Int) - 14336)), .v 26 3 (oI ((64 * ((x10.toNat : Nat) : Int) - 14336) + (((x25.toNat : Nat) : Int))) (64 * ((x10.toNat : Nat) : Int) + ((x25.toNat : Nat) : Int) - 14336)), .v 26 4 (oI ((64 * ((x10.toNat : Nat) : Int) + ((x25.toNat : Nat) : Int) - 14336) - 128) (64 * ((x10.toNat : Nat) : Int) + ((x25.toNat : Nat) : Int) - 14464))] <| unN ?_
   obtain ⟨x30, hx31⟩ : ∃ x, L[i + 2]? = some x := ⟨_, List.getElem?_eq_getElem (by omega)⟩
   have hb32 := x30.toNat_lt
   refine go [.v 23 3 (oIr ((i : Int) + 2)), .s 23 4] <| lwP (yV (((x30.toNat : Nat) : Int))) (law_idxStr (x := (Operand.tmp 57)) (i := (Operand.tmp 60)) (k := .i64) (s := L) (z := ((i : Int) + 2)) (b := x30) (by kernel_rfl) Tryz.underlying9 (by kernel_rfl) (by kernel_rfl) (i + 2) (by omega) hx31 _) <| go [.v 23 5 (oIr (((x30.toNat : Nat) : Int))), .s 24 1] ?_
   by_cases c33 : ((x30.toNat : Nat) : Int) < 128
   ·
    refine go [.v 24 1 (oT (((x30.toNat : Nat) : Int) < 128))] <| up <| go [] ?_
    have he_ := rd_of hx11 (cB_some (j := i + 1) (by rw [show i + 1 = (i + 1) from by omega]; exact hx26) (by omega)) (cB_none (j := i + 2) (by rw [show i + 2 = (i + 2) from by omega]; exact hx31) (by omega)) (rfl)
    unfold decF at he_
    rw [if_neg (by omega), if_neg (by omega), if_pos (by omega)] at he_
    have hr1_ : ((runeD L i).1 : Int) = 0 := by rw [he_] <;> first | rfl | (dsimp only; omega)
    have hr2_ : ((runeD L i).2 : Int) = 0 := by rw [he_] <;> rfl
    exact en (.tuple #[iV 0, iV 0]) [] ⟨_, _, rfl, ⟨by rw [hr1_, hr2_], rfl⟩, h0⟩
   refine go [.v 24 1 (oF (((x30.toNat : Nat) : Int) < 128)), .s 24 4] ?_
   by_cases c34 : ((x30.toNat : Nat) : Int) ≥ 192
   ·
    refine go [.v 24 4 (oT (((x30.toNat : Nat) : Int) ≥ 192))] <| up <| go [] ?_
    have he_ := rd_of hx11 (cB_some (j := i + 1) (by rw [show i + 1 = (i + 1) from by omega]; exact hx26) (by omega)) (cB_none (j := i + 2) (by rw [show i + 2 = (i + 2) from by omega]; exact hx31) (by omega)) (rfl)
    unfold decF at he_
    rw [if_neg (by omega), if_neg (by omega), if_pos (by omega)] at he_
    have hr1_ : ((runeD L i).1 : Int) = 0 := by rw [he_] <;> first | rfl | (dsimp only; omega)
    have hr2_ : ((runeD L i).2 : Int) = 0 := by rw [he_] <;> rfl
    exact en (.tuple #[iV 0, iV 0]) [] ⟨_, _, rfl, ⟨by rw [hr1_, hr2_], rfl⟩, h0⟩
   refine go [.v 24 4 (oF (((x30.toNat : Nat) : Int) ≥ 192)), .v 26 1 (oI ((64 * ((x10.toNat : Nat) : Int) + ((x25.toNat : Nat) : Int) - 14464) * 64) (4096 * ((x10.toNat : Nat) : Int) + 64 * ((x25.toNat : Nat) : Int) - 925696)), .v 26 3 (oI ((4096 * ((x10.toNat : Nat) : Int) + 64 * ((x25.toNat : Nat) : Int) - 925696) + (((x30.toNat : Nat) : Int))) (4096 * ((x10.toNat : Nat) : Int) + 64 * ((x25.toNat : Nat) : Int) + ((x30.toNat : Nat) : Int) - 925696)), .v 26 4 (oI ((4096 * ((x10.toNat : Nat) : Int) + 64 * ((x25.toNat : Nat) : Int) + ((x30.toNat : Nat) : Int) - 925696) - 128) (4096 * ((x10.toNat : Nat) : Int) + 64 * ((x25.toNat : Nat) : Int) + ((x30.toNat : Nat) : Int) - 925824))] <| unN <| go [] <| up <| go [.s 27 2] ?_
   by_cases c35 : 4096 * ((x10.toNat : Nat) : Int) + 64 * ((x25.toNat : Nat) : Int) + ((x30.toNat : Nat) : Int) - 925824 < 2048
   ·
    refine go [.v 27 2 (oT (4096 * ((x10.toNat : Nat) : Int) + 64 * ((x25.toNat : Nat) : Int) + ((x30.toNat : Nat) : Int) - 925824 < 2048))] ?_
    have he_ := rd_of hx11 (cB_some (j := i + 1) (by rw [show i + 1 = (i + 1) from by omega]; exact hx26) (by omega)) (cB_some (j := i + 2) (by rw [show i + 2 = (i + 2) from by omega]; exact hx31) (by omega)) (rfl)
    unfold decF at he_
    rw [if_neg (by omega), if_neg (by omega), if_pos (by omega)] at he_
    dsimp only at he_
    rw [if_neg (by omega)] at he_
    have hr1_ : ((runeD L i).1 : Int) = 0 := by rw [he_] <;> first | rfl | (dsimp only; omega)
    have hr2_ : ((runeD L i).2 : Int) = 0 := by rw [he_] <;> rfl
    exact en (.tuple #[iV 0, iV 0]) [] ⟨_, _, rfl, ⟨by rw [hr1_, hr2_], rfl⟩, h0⟩
   refine go [.v 27 2 (oF (4096 * ((x10.toNat : Nat) : Int) + 64 * ((x25.toNat : Nat) : Int) + ((x30.toNat : Nat) : Int) - 925824 < 2048)), .v 27 5 (oF (4096 * ((x10.toNat : Nat) : Int) + 64 * ((x25.toNat : Nat) : Int) + ((x30.toNat : Nat) : Int) - 925824 > 1114111)), .s 27 9] ?_
   by_cases c36 : 4096 * ((x10.toNat : Nat) : Int) + 64 * ((x25.toNat : Nat) : Int) + ((x30.toNat : Nat) : Int) - 925824 ≥ 55296
   ·
    refine go [.v 27 9 (oT (4096 * ((x10.toNat : Nat) : Int) + 64 * ((x25.toNat : Nat) : Int) + ((x30.toNat : Nat) : Int) - 925824 ≥ 55296)), .s 27 12] ?_
    by_cases c37 : 4096 * ((x10.toNat : Nat) : Int) + 64 * ((x25.toNat : Nat) : Int) + ((x30.toNat : Nat) : Int) - 925824 ≤ 57343
    ·
     refine go [.v 27 12 (oT (4096 * ((x10.toNat : Nat) : Int) + 64 * ((x25.toNat : Nat) : Int) + ((x30.toNat : Nat) : Int) - 925824 ≤ 57343))] ?_
     have he_ := rd_of hx11 (cB_some (j := i + 1) (by rw [show i + 1 = (i + 1) from by omega]; exact hx26) (by omega)) (cB_some (j := i + 2) (by rw [show i + 2 = (i + 2) from by omega]; exact hx31) (by omega)) (rfl)
     unfold decF at he_
     rw [if_neg (by omega), if_neg (by omega), if_pos (by omega)] at he_
     dsimp only at he_
     rw [if_neg (by omega)] at he_
     have hr1_ : ((runeD L i).1 : Int) = 0 := by rw [he_] <;> first | rfl | (dsimp only; omega)
     have hr2_ : ((runeD L i).2 : Int) = 0 := by rw [he_] <;> rfl
     exact en (.tuple #[iV 0, iV 0]) [] ⟨_, _, rfl, ⟨by rw [hr1_, hr2_], rfl⟩, h0⟩
    refine go [.v 27 12 (oF (4096 * ((x10.toNat : Nat) : Int) + 64 * ((x25.toNat : Nat) : Int) + ((x30.toNat : Nat) : Int) - 925824 ≤ 57343))] ?_
    have he_ := rd_of hx11 (cB_some (j := i + 1) (by rw [show i + 1 = (i + 1) from by omega]; exact hx26) (by omega)) (cB_some (j := i + 2) (by rw [show i + 2 = (i + 2) from by omega]; exact hx31) (by omega)) (rfl)
    unfold decF at he_
    rw [if_neg (by omega), if_neg (by omega), if_pos (by omega)] at he_
    dsimp only at he_
    rw [if_pos (by omega)] at he_
    have hr1_ : ((runeD L i).1 : Int) = 4096 * ((x10.toNat : Nat) : Int) + 64 * ((x25.toNat : Nat) : Int) + ((x30.toNat : Nat) : Int) - 925824 := by rw [he_] <;> first | rfl | (dsimp only; omega)
    have hr2_ : ((runeD L i).2 : Int) = 3 := by rw [he_] <;> rfl
    exact en (.tuple #[iV (4096 * ((x10.toNat : Nat) : Int) + 64 * ((x25.toNat : Nat) : Int) + ((x30.toNat : Nat) : Int) - 925824), iV 3]) [] ⟨_, _, rfl, ⟨by rw [hr1_, hr2_], rfl⟩, h0⟩
   refine go [.v 27 9 (oF (4096 * ((x10.toNat : Nat) : Int) + 64 * ((x25.toNat : Nat) : Int) + ((x30.toNat : Nat) : Int) - 925824 ≥ 55296))] ?_
   have he_ := rd_of hx11 (cB_some (j := i + 1) (by rw [show i + 1 = (i + 1) from by omega]; exact hx26) (by omega)) (cB_some (j := i + 2) (by rw [show i + 2 = (i + 2) from by omega]; exact hx31) (by omega)) (rfl)
   unfold decF at he_
   rw [if_neg (by omega), if_neg (by omega), if_pos (by omega)] at he_
   dsimp only at he_
   rw [if_pos (by omega)] at he_
   have hr1_ : ((runeD L i).1 : Int) = 4096 * ((x10.toNat : Nat) : Int) + 64 * ((x25.toNat : Nat) : Int) + ((x30.toNat : Nat) : Int) - 925824 := by rw [he_] <;> first | rfl | (dsimp only; omega)
   have hr2_ : ((runeD L i).2 : Int) = 3 := by rw [he_] <;> rfl
   exact en (.tuple #[iV (4096 * ((x10.toNat : Nat) : Int) + 64 * ((x25.toNat : Nat) : Int) + ((x30.toNat : Nat) : Int) - 925824), iV 3]) [] ⟨_, _, rfl, ⟨by rw [hr1_, hr2_], rfl⟩, h0⟩
  refine go [.v 10 4 (oF (((x10.toNat : Nat) : Int) < 240)), .v 14 1 (oT (((x10.toNat : Nat) : Int) ≥ 240)), .s 14 4] ?_
  by_cases c38 : ((x10.toNat : Nat) : Int) < 248
  ·
   refine go [.v 14 4 (oT (((x10.toNat : Nat) : Int) < 248)), .v 17 1 (oIr ((((x10.toNat : Nat) : Int)) - 240)), .v 18 5 (oIr ((i : Int) + 4)), .v 18 7 (⟨iV ((St L).size : Int), iV (((L.length : Nat) : Int)), (ov_int (st_len _))⟩), .s 18 8] ?_
   by_cases c39 : (i : Int) + 4 > ((L.length : Nat) : Int)
   ·
    refine go [.v 18 8 (oT ((i : Int) + 4 > ((L.length : Nat) : Int)))] ?_
    have he_ := rd_of hx11 (rfl) (rfl) (cB_out (by omega))
    unfold decF at he_
    rw [if_neg (by omega), if_neg (by omega), if_neg (by omega), if_pos (by omega)] at he_
    have he2_ : runeD L i = (0, 0) := by rw [he_]; cases contB L (i + 1) <;> cases contB L (i + 2) <;> rfl
    replace he_ := he2_
    have hr1_ : ((runeD L i).1 : Int) = 0 := by rw [he_] <;> first | rfl | (dsimp only; omega)
    have hr2_ : ((runeD L i).2 : Int) = 0 := by rw [he_] <;> rfl
    exact en (.tuple #[iV 0, iV 0]) [] ⟨_, _, rfl, ⟨by rw [hr1_, hr2_], rfl⟩, h0⟩
   refine go [.v 18 8 (oF ((i : Int) + 4 > ((L.length : Nat) : Int)))] <| unS 3 ?_
   obtain ⟨x40, hx41⟩ : ∃ x, L[i + 1]? = some x := ⟨_, List.getElem?_eq_getElem (by omega)⟩
   have hb42 := x40.toNat_lt
   refine go [.v 23 3 (oIr ((i : Int) + 1)), .s 23 4] <| lwP (yV (((x40.toNat : Nat) : Int))) (law_idxStr (x := (Operand.tmp 57)) (i := (Operand.tmp 60)) (k := .i64) (s := L) (z := ((i : Int) + 1)) (b := x40) (by kernel_rfl) Tryz.underlying9 (by kernel_rfl) (by kernel_rfl) (i + 1) (by omega) hx41 _) <| go [.v 23 5 (oIr (((x40.toNat : Nat) : Int))), .s 24 1] ?_
   by_cases c43 : ((x40.toNat : Nat) : Int) < 128
   ·
    refine go [.v 24 1 (oT (((x40.toNat : Nat) : Int) < 128))] <| up <| go [] ?_
    have he_ := rd_of hx11 (cB_none (j := i + 1) (by rw [show i + 1 = (i + 1) from by omega]; exact hx41) (by omega)) (rfl) (rfl)
    unfold decF at he_
    rw [if_neg (by omega), if_neg (by omega), if_neg (by omega), if_pos (by omega)] at he_
    have hr1_ : ((runeD L i).1 : Int) = 0 := by rw [he_] <;> first | rfl | (dsimp only; omega)
    have hr2_ : ((runeD L i).2 : Int) = 0 := by rw [he_] <;> rfl
    exact en (.tuple #[iV 0, iV 0]) [] ⟨_, _, rfl, ⟨by rw [hr1_, hr2_], rfl⟩, h0⟩
   refine go [.v 24 1 (oF (((x40.toNat : Nat) : Int) < 128)), .s 24 4] ?_
   by_cases c44 : ((x40.toNat : Nat) : Int) ≥ 192
   ·
    refine go [.v 24 4 (oT (((x40.toNat : Nat) : Int) ≥ 192))] <| up <| go [] ?_
    have he_ := rd_of hx11 (cB_none (j := i + 1) (by rw [show i + 1 = (i + 1) from by omega]; exact hx41) (by omega)) (rfl) (rfl)
    unfold decF at he_
    rw [if_neg (by omega), if_neg (by omega), if_neg (by omega), if_pos (by omega)] at he_
    have hr1_ : ((runeD L i).1 : Int) = 0 := by rw [he_] <;> first | rfl | (dsimp only; omega)
    have hr2_ : ((runeD L i).2 : Int) = 0 := by rw [he_] <;> rfl
    exact en (.tuple #[iV 0, iV 0]) [] ⟨_, _, rfl, ⟨by rw [hr1_, hr2_], rfl⟩, h0⟩
   refine go [.v 24 4 (oF (((x40.toNat : Nat) : Int) ≥ 192)), .v 26 1 (oI ((((x10.toNat : Nat) : Int) - 240) * 64) (64 * ((x10.toNat : Nat) : Int) - 15360)), .v 26 3 (oI ((64 * ((x10.toNat : Nat) : Int) - 15360) + (((x40.toNat : Nat) : Int))) (64 * ((x10.toNat : Nat) : Int) + ((x40.toNat : Nat) : Int) - 15360)), .v 26 4 (oI ((64 * ((x10.toNat : Nat) : Int) + ((x40.toNat : Nat) : Int) - 15360) - 128) (64 * ((x10.toNat : Nat) : Int) + ((x40.toNat : Nat) : Int) - 15488))] <| unN ?_
   obtain ⟨x45, hx46⟩ : ∃ x, L[i + 2]? = some x := ⟨_, List.getElem?_eq_getElem (by omega)⟩
   have hb47 := x45.toNat_lt
   refine go [.v 23 3 (oIr ((i : Int) + 2)), .s 23 4] <| lwP (yV (((x45.toNat : Nat) : Int))) (law_idxStr (x := (Operand.tmp 57)) (i := (Operand.tmp 60)) (k := .i64) (s := L) (z := ((i : Int) + 2)) (b := x45) (by kernel_rfl) Tryz.underlying9 (by kernel_rfl) (by kernel_rfl) (i + 2) (by omega) hx46 _) <| go [.v 23 5 (oIr (((x45.toNat : Nat) : Int))), .s 24 1] ?_
   by_cases c48 : ((x45.toNat : Nat) : Int) < 128
   ·
    refine go [.v 24 1 (oT (((x45.toNat : Nat) : Int) < 128))] <| up <| go [] ?_
    have he_ := rd_of hx11 (cB_some (j := i + 1) (by rw [show i + 1 = (i + 1) from by omega]; exact hx41) (by omega)) (cB_none (j := i + 2) (by rw [show i + 2 = (i + 2) from by omega]; exact hx46) (by omega)) (rfl)
    unfold decF at he_
    rw [if_neg (by omega), if_neg (by omega), if_neg (by omega), if_pos (by omega)] at he_
    have hr1_ : ((runeD L i).1 : Int) = 0 := by rw [he_] <;> first | rfl | (dsimp only; omega)
    have hr2_ : ((runeD L i).2 : Int) = 0 := by rw [he_] <;> rfl
    exact en (.tuple #[iV 0, iV 0]) [] ⟨_, _, rfl, ⟨by rw [hr1_, hr2_], rfl⟩, h0⟩
   refine go [.v 24 1 (oF (((x45.toNat : Nat) : Int) < 128)), .s 24 4] ?_
   by_cases c49 : ((x45.toNat : Nat) : Int) ≥ 192
   ·
    refine go [.v 24 4 (oT (((x45.toNat : Nat) : Int) ≥ 192))] <| up <| go [] ?_
    have he_ := rd_of hx11 (cB_some (j := i + 1) (by rw [show i + 1 = (i + 1) from by omega]; exact hx41) (by omega)) (cB_none (j := i + 2) (by rw [show i + 2 = (i + 2) from by omega]; exact hx46) (by omega)) (rfl)
    unfold decF at he_
    rw [if_neg (by omega), if_neg (by omega), if_neg (by omega), if_pos (by omega)] at he_
    have hr1_ : ((runeD L i).1 : Int) = 0 := by rw [he_] <;> first | rfl | (dsimp only; omega)
    have hr2_ : ((runeD L i).2 : Int) = 0 := by rw [he_] <;> rfl
    exact en (.tuple #[iV 0, iV 0]) [] ⟨_, _, rfl, ⟨by rw [hr1_, hr2_], rfl⟩, h0⟩
   refine go [.v 24 4 (oF (((x45.toNat : Nat) : Int) ≥ 192)), .v 26 1 (oI ((64 * ((x10.toNat : Nat) : Int) + ((x40.toNat : Nat) : Int) - 15488) * 64) (4096 * ((x10.toNat : Nat) : Int) + 64 * ((x40.toNat : Nat) : Int) - 991232)), .v 26 3 (oI ((4096 * ((x10.toNat : Nat) : Int) + 64 * ((x40.toNat : Nat) : Int) - 991232) + (((x45.toNat : Nat) : Int))) (4096 * ((x10.toNat : Nat) : Int) + 64 * ((x40.toNat : Nat) : Int) + ((x45.toNat : Nat) : Int) - 991232)), .v 26 4 (oI ((4096 * ((x10.toNat : Nat) : Int) + 64 * ((x40.toNat : Nat) : Int) + ((x45.toNat : Nat) : Int) - 991232) - 128) (4096 * ((x10.toNat : Nat) : Int) + 64 * ((x40.toNat : Nat) : Int) + ((x45.toNat : Nat) : Int) - 991360))] <| unN ?_
   obtain ⟨x50, hx51⟩ : ∃ x, L[i + 3]? = some x := ⟨_, List.getElem?_eq_getElem (by omega)⟩
   have hb52 := x50.toNat_lt
   refine go [.v 23 3 (oIr ((i : Int) + 3)), .s 23 4] <| lwP (yV (((x50.toNat : Nat) : Int))) (law_idxStr (x := (Operand.tmp 57)) (i := (Operand.tmp 60)) (k := .i64) (s := L) (z := ((i : Int) + 3)) (b := x50) (by kernel_rfl) Tryz.underlying9 (by kernel_rfl) (by kernel_rfl) (i + 3) (by omega) hx51 _) <| go [.v 23 5 (oIr (((x50.toNat : Nat) : Int))), .s 24 1] ?_
   by_cases c53 : ((x50.toNat : Nat) : Int) < 128
   ·
    refine go [.v 24 1 (oT (((x50.toNat : Nat) : Int) < 128))] <| up <| go [] ?_
    have he_ := rd_of hx11 (cB_some (j := i + 1) (by rw [show i + 1 = (i + 1) from by omega]; exact hx41) (by omega)) (cB_some (j := i + 2) (by rw [show i + 2 = (i + 2) from by omega]; exact hx46) (by omega)) (cB_none (j := i + 3) (by rw [show i + 3 = (i + 3) from by omega]; exact hx51) (by omega))
    unfold decF at he_
    rw [if_neg (by omega), if_neg (by omega), if_neg (by omega), if_pos (by omega)] at he_
    have hr1_ : ((runeD L i).1 : Int) = 0 := by rw [he_] <;> first | rfl | (dsimp only; omega)
    have hr2_ : ((runeD L i).2 : Int) = 0 := by rw [he_] <;> rfl
    exact en (.tuple #[iV 0, iV 0]) [] ⟨_, _, rfl, ⟨by rw [hr1_, hr2_], rfl⟩, h0⟩
   refine go [.v 24 1 (oF (((x50.toNat : Nat) : Int) < 128)), .s 24 4] ?_
   by_cases c54 : ((x50.toNat : Nat) : Int) ≥ 192
   ·
    refine go [.v 24 4 (oT (((x50.toNat : Nat) : Int) ≥ 192))] <| up <| go [] ?_
    have he_ := rd_of hx11 (cB_some (j := i + 1) (by rw [show i + 1 = (i + 1) from by omega]; exact hx41) (by omega)) (cB_some (j := i + 2) (by rw [show i + 2 = (i + 2) from by omega]; exact hx46) (by omega)) (cB_none (j := i + 3) (by rw [show i + 3 = (i + 3) from by omega]; exact hx51) (by omega))
    unfold decF at he_
    rw [if_neg (by omega), if_neg (by omega), if_neg (by omega), if_pos (by omega)] at he_
    have hr1_ : ((runeD L i).1 : Int) = 0 := by rw [he_] <;> first | rfl | (dsimp only; omega)
    have hr2_ : ((runeD L i).2 : Int) = 0 := by rw [he_] <;> rfl
    exact en (.tuple #[iV 0, iV 0]) [] ⟨_, _, rfl, ⟨by rw [hr1_, hr2_], rfl⟩, h0⟩
   refine go [.v 24 4 (oF (((x50.toNat : Nat) : Int) ≥ 192)), .v 26 1 (oI ((4096 * ((x10.toNat : Nat) : Int) + 64 * ((x40.toNat : Nat) : Int) + ((x45.toNat : Nat) : Int) - 991360) * 64) (262144 * ((x10.toNat : Nat) : Int) + 4096 * ((x40.toNat : Nat) : Int) + 64 * ((x45.toNat : Nat) : Int) - 63447040)), .v 26 3 (oI ((262144 * ((x10.toNat : Nat) : Int) + 4096 * ((x40.toNat : Nat) : Int) + 64 * ((x45.toNat : Nat) : Int) - 63447040) + (((x50.toNat : Nat) : Int))) (262144 * ((x10.toNat : Nat) : Int) + 4096 * ((x40.toNat : Nat) : Int) + 64 * ((x45.toNat : Nat) : Int) + ((x50.toNat : Nat) : Int) - 63447040)), .v 26 4 (oI ((262144 * ((x10.toNat : Nat) : Int) + 4096 * ((x40.toNat : Nat) : Int) + 64 * ((x45.toNat : Nat) : Int) + ((x50.toNat : Nat) : Int) - 63447040) - 128) (262144 * ((x10.toNat : Nat) : Int) + 4096 * ((x40.toNat : Nat) : Int) + 64 * ((x45.toNat : Nat) : Int) + ((x50.toNat : Nat) : Int) - 63447168))] <| unN <| go [] <| up <| go [.s 27 2] ?_
   by_cases c55 : 262144 * ((x10.toNat : Nat) : Int) + 4096 * ((x40.toNat : Nat) : Int) + 64 * ((x45.toNat : Nat) : Int) + ((x50.toNat : Nat) : Int) - 63447168 < 65536
   ·
    refine go [.v 27 2 (oT (262144 * ((x10.toNat : Nat) : Int) + 4096 * ((x40.toNat : Nat) : Int) + 64 * ((x45.toNat : Nat) : Int) + ((x50.toNat : Nat) : Int) - 63447168 < 65536))] ?_
    have he_ := rd_of hx11 (cB_some (j := i + 1) (by rw [show i + 1 = (i + 1) from by omega]; exact hx41) (by omega)) (cB_some (j := i + 2) (by rw [show i + 2 = (i + 2) from by omega]; exact hx46) (by omega)) (cB_some (j := i + 3) (by rw [show i + 3 = (i + 3) from by omega]; exact hx51) (by omega))
    unfold decF at he_
    rw [if_neg (by omega), if_neg (by omega), if_neg (by omega), if_pos (by omega)] at he_
    dsimp only at he_
    rw [if_neg (by omega)] at he_
    have hr1_ : ((runeD L i).1 : Int) = 0 := by rw [he_] <;> first | rfl | (dsimp only; omega)
    have hr2_ : ((runeD L i).2 : Int) = 0 := by rw [he_] <;> rfl
    exact en (.tuple #[iV 0, iV 0]) [] ⟨_, _, rfl, ⟨by rw [hr1_, hr2_], rfl⟩, h0⟩
   refine go [.v 27 2 (oF (262144 * ((x10.toNat : Nat) : Int) + 4096 * ((x40.toNat : Nat) : Int) + 64 * ((x45.toNat : Nat) : Int) + ((x50.toNat : Nat) : Int) - 63447168 < 65536)), .s 27 5] ?_
   by_cases c56 : 262144 * ((x10.toNat : Nat) : Int) + 4096 * ((x40.toNat : Nat) : Int) + 64 * ((x45.toNat : Nat) : Int) + ((x50.toNat : Nat) : Int) - 63447168 > 1114111
   ·
    refine go [.v 27 5 (oT (262144 * ((x10.toNat : Nat) : Int) + 4096 * ((x40.toNat : Nat) : Int) + 64 * ((x45.toNat : Nat) : Int) + ((x50.toNat : Nat) : Int) - 63447168 > 1114111))] ?_
    have he_ := rd_of hx11 (cB_some (j := i + 1) (by rw [show i + 1 = (i + 1) from by omega]; exact hx41) (by omega)) (cB_some (j := i + 2) (by rw [show i + 2 = (i + 2) from by omega]; exact hx46) (by omega)) (cB_some (j := i + 3) (by rw [show i + 3 = (i + 3) from by omega]; exact hx51) (by omega))
    unfold decF at he_
    rw [if_neg (by omega), if_neg (by omega), if_neg (by omega), if_pos (by omega)] at he_
    dsimp only at he_
    rw [if_neg (by omega)] at he_
    have hr1_ : ((runeD L i).1 : Int) = 0 := by rw [he_] <;> first | rfl | (dsimp only; omega)
    have hr2_ : ((runeD L i).2 : Int) = 0 := by rw [he_] <;> rfl
    exact en (.tuple #[iV 0, iV 0]) [] ⟨_, _, rfl, ⟨by rw [hr1_, hr2_], rfl⟩, h0⟩
   refine go [.v 27 5 (oF (262144 * ((x10.toNat : Nat) : Int) + 4096 * ((x40.toNat : Nat) : Int) + 64 * ((x45.toNat : Nat) : Int) + ((x50.toNat : Nat) : Int) - 63447168 > 1114111)), .v 27 9 (oT (262144 * ((x10.toNat : Nat) : Int) + 4096 * ((x40.toNat : Nat) : Int) + 64 * ((x45.toNat : Nat) : Int) + ((x50.toNat : Nat) : Int) - 63447168 ≥ 55296)), .v 27 12 (oF (262144 * ((x10.toNat : Nat) : Int) + 4096 * ((x40.toNat : Nat) : Int) + 64 * ((x45.toNat : Nat) : Int) + ((x50.toNat : Nat) : Int) - 63447168 ≤ 57343))] ?_
   have he_ := rd_of hx11 (cB_some (j := i + 1) (by rw [show i + 1 = (i + 1) from by omega]; exact hx41) (by omega)) (cB_some (j := i + 2) (by rw [show i + 2 = (i + 2) from by omega]; exact hx46) (by omega)) (cB_some (j := i + 3) (by rw [show i + 3 = (i + 3) from by omega]; exact hx51) (by omega))
   unfold decF at he_
   rw [if_neg (by omega), if_neg (by omega), if_neg (by omega), if_pos (by omega)] at he_
   dsimp only at he_
   rw [if_pos (by omega)] at he_
   have hr1_ : ((runeD L i).1 : Int) = 262144 * ((x10.toNat : Nat) : Int) + 4096 * ((x40.toNat : Nat) : Int) + 64 * ((x45.toNat : Nat) : Int) + ((x50.toNat : Nat) : Int) - 63447168 := by rw [he_] <;> first | rfl | (dsimp only; omega)
   have hr2_ : ((runeD L i).2 : Int) = 4 := by rw [he_] <;> rfl
   exact en (.tuple #[iV (262144 * ((x10.toNat : Nat) : Int) + 4096 * ((x40.toNat : Nat) : Int) + 64 * ((x45.toNat : Nat) : Int) + ((x50.toNat : Nat) : Int) - 63447168), iV 4]) [] ⟨_, _, rfl, ⟨by rw [hr1_, hr2_], rfl⟩, h0⟩
  refine go [.v 14 4 (oF (((x10.toNat : Nat) : Int) < 248))] ?_
  have he_ := rd_of hx11 (rfl) (rfl) (rfl)
  unfold decF at he_
  rw [if_neg (by omega), if_neg (by omega), if_neg (by omega), if_neg (by omega)] at he_
  have hr1_ : ((runeD L i).1 : Int) = 0 := by rw [he_] <;> first | rfl | (dsimp only; omega)
  have hr2_ : ((runeD L i).2 : Int) = 0 := by rw [he_] <;> rfl
  exact en (.tuple #[iV 0, iV 0]) [] ⟨_, _, rfl, ⟨by rw [hr1_, hr2_], rfl⟩, h0⟩
 refine go [.v 6 1 (oF (((x10.toNat : Nat) : Int) ≥ 192)), .v 10 1 (oF (((x10.toNat : Nat) : Int) ≥ 224)), .v 14 1 (oF (((x10.toNat : Nat) : Int) ≥ 240))] ?_
 have he_ := rd_of hx11 (rfl) (rfl) (rfl)
 unfold decF at he_
 rw [if_neg (by omega), if_neg (by omega), if_neg (by omega), if_neg (by omega)] at he_
 have hr1_ : ((runeD L i).1 : Int) = 0 := by rw [he_] <;> first | rfl | (dsimp only; omega)
 have hr2_ : ((runeD L i).2 : Int) = 0 := by rw [he_] <;> rfl
 exact en (.tuple #[iV 0, iV 0]) [] ⟨_, _, rfl, ⟨by rw [hr1_, hr2_], rfl⟩, h0⟩

end Go.Proofs.YtjjpmehiolejgaaGreat

/- Walks, printed by my generator z2.py. -/
namespace Go.Proofs.YtjjpmehiolejgaaGreat
def eN (x : Nat) : List Value := [.int .i64 (x : Int)]
theorem eN_ok : Enc 1 eN := ⟨fun _ => rfl, fun x v hv => by simp [eN] at hv; subst hv; rfl⟩
theorem rn_step {L : List UInt8} {f p : Nat} {acc : List Nat} (hr : rnD L L.length 0 = (rnD L f p).map (acc ++ ·)) (h : p < L.length) (hf : L.length ≤ p + f) (hb : (runeD L p).2 ≠ 0) : rnD L L.length 0 = (rnD L (f - 1) (p + (runeD L p).2)).map (acc ++ [(runeD L p).1] ++ ·) := by
  rw [hr, rn_go h hf hb]
  cases rnD L (f - 1) (p + (runeD L p).2) with
  | none => rfl
  | some l => exact congrArg some (by simp)
theorem rn_fin {L : List UInt8} {f p : Nat} {acc : List Nat} (hr : rnD L L.length 0 = (rnD L f p).map (acc ++ ·)) (h : L.length ≤ p) : rnD L L.length 0 = some acc := by
  rw [hr, rn_end h]
  exact congrArg some (List.append_nil _)
theorem rn_no {L : List UInt8} {f p : Nat} {acc : List Nat} (hr : rnD L L.length 0 = (rnD L f p).map (acc ++ ·)) (h : p < L.length) (hf : L.length ≤ p + f) (hb : (runeD L p).2 = 0) : rnD L L.length 0 = none := by
  rw [hr, rn_bad h hf hb]
  rfl
set_option maxHeartbeats 4000000 in
theorem runes_ht (L : List UInt8) (hm : L.length ≤ 100000) : HT Tryz.prog 104 [Value.string (St L)] [] (fun v K => (∃ (l : List Nat) (p : Option Addr) (c : Nat), rnD L L.length 0 = some l ∧ v = Value.tuple #[Value.slice p l.length c, Value.bool true] ∧ K = [Sl 3 1 p l.length c (fl eN l)]) ∨ (rnD L L.length 0 = none ∧ v = Value.tuple #[Value.slice none 0 0, Value.bool false] ∧ K = [])) := by
 refine hiS Tryz.func104 Tryz.ntmps104 fun g w0 R h0 => go [] ?_
 have h10 : sat g w0 [Sl 3 1 none 0 0 (fl eN []), R] := sl_nil 3 1 h0
 refine lpS (fun mz_ a w => ∃ p : Nat, ∃ f : Nat, ∃ acc : List Nat, ∃ p2 : Option Addr, ∃ m2 : Nat, ∃ c2 : Nat, ∃ lr : Fr, mz_ = L.length - p ∧ (p ≤ L.length + 4) ∧ (L.length ≤ p + f) ∧ (rnD L L.length 0 = (rnD L f p).map (acc ++ ·)) ∧ (m2 ≤ p) ∧ a = mk 28 (([(0, .string (St L)), (4, .slice p2 m2 c2), (5, iV (p : Int))] : Fr) ++ lr) ∧ sat g w [Sl 3 1 p2 m2 c2 (fl eN acc), R]) (L.length - 0) ⟨0, L.length, [], none, 0, 0, _, rfl, (by omega), (by omega), (by cases rnD L L.length 0 <;> rfl), (by omega), (lvF [.k 0 (.string (St L)), .k 4 (.slice none 0 0), .o 5 (oJ .i64 0 (0 : Int))]), h10⟩ ?_
 rintro m12 a13 w14 ⟨p, f, acc, p2, m2, c2, lr11, rfl, hp_, hf_, hr_, hm2, rfl, h15⟩
 refine ga <| go [.v 3 2 (⟨iV ((St L).size : Int), iV (((L.length : Nat) : Int)), (ov_int (st_len _))⟩), .s 3 3] ?_
 by_cases c16 : (p : Int) < ((L.length : Nat) : Int)
 ·
  have hb17 := dec_wd L p
  refine go [.v 3 3 (oT ((p : Int) < ((L.length : Nat) : Int)))] <| cl0 Tryz.call109 (rune_ht L p (by omega) (by omega)) h15 fun w18 h19 => go [.s 5 1] ?_
  by_cases c20 : (((runeD L p).2 : Nat) : Int) = 0
  ·
   refine go [.v 5 1 (eT ((((runeD L p).2 : Nat) : Int)) 0)] <| up <| go [] ?_
   exact en (.tuple #[.slice none 0 0, .bool false]) [] ⟨_, _, rfl, .inr ⟨rn_no hr_ (by omega) (by omega) (by omega), rfl, rfl⟩, (tk1 (sf1 h19))⟩
  refine go [.v 5 1 (eF ((((runeD L p).2 : Nat) : Int)) 0)] <| nG (fun q_ => .slice (some ⟨q_, 0, none⟩) 1 1) 3 [iV ((((runeD L p).1 : Nat) : Int))] h19 (fun r22 w23 h24 => ⟨kd [], ?_⟩)
  have h25 := tk3 (sf2 (sf1 (sf2 h24)))
  refine actG ?_
  refine an_append (d := 23) (sz := 1) (s := (Operand.tmp 20)) (x := (Operand.tmp 22)) (z := iV 0) (p := p2) (m := m2) (c := c2) (k := 1) (c2 := 1) (a := ⟨r22, 0, none⟩) (by_ := 8) (by kernel_rfl) (by kernel_rfl) rfl Tryz.underlying108 (by kernel_rfl) rfl (by decide) (by kernel_rfl) (by kernel_rfl) h25 (fl eN [((runeD L p).1)]) rfl (fun j u hj => by rw [add_off]; exact sat_cell h25 1 rfl (by rw [Nat.zero_add]; exact hj)) (fl_one eN_ok _) (by omega) (by omega) (m2 + 1) (by omega) ?_
  intro p26 cap27 w28 h29
  have h30 : sat g w28 [Sl 3 1 p26 (m2 + 1) cap27 (fl eN (acc ++ [((runeD L p).1)])), Cl r22 [iV ((((runeD L p).1 : Nat) : Int))] 3, R] := sat_imp h29 (fun _ hh => by rw [fl_app]; exact hh)
  obtain ⟨hn31, hn32⟩ := sl_le h30
  refine nxA <| go [.v 8 2 (oIr ((p : Int) + ((((runeD L p).2 : Nat) : Int))))] ?_
  refine enL ?_
  have h34 := tk2 (tk3 (sf2 (sf2 (sf1 h30))))
  change ∃ n', n' < _ ∧ _
  refine ⟨(L.length - (p + ((runeD L p).2))), by omega, p + ((runeD L p).2), (f - 1), (acc ++ [((runeD L p).1)]), p26, m2 + 1, cap27, _, rfl, (by omega), (by omega), (rn_step hr_ (by omega) (by omega) (by omega)), (by omega), (lvF [.k 0 (.string (St L)), .k 4 (.slice p26 (m2 + 1) cap27), .o 5 (oJ .i64 ((p : Int) + (((runeD L p).2 : Nat) : Int)) ((((p + ((runeD L p).2)) : Nat) : Int)))]), h34⟩
 refine go [.v 3 3 (oF ((p : Int) < ((L.length : Nat) : Int)))] <| up <| go [] ?_
 have hl35 := fl_n eN_ok (by decide) h15
 have h36 : sat g w14 [Sl 3 1 p2 acc.length c2 (fl eN acc), R] := sat_imp h15 (fun _ hh_ => by rw [hl35]; exact hh_)
 exact en (.tuple #[.slice p2 m2 c2, .bool true]) [] ⟨_, _, rfl, .inl ⟨acc, p2, c2, rn_fin hr_ (by omega), by rw [hl35], rfl⟩, h36⟩

theorem dt_none {L : List UInt8} (h : rnD L L.length 0 = none) : tagE L = 16 := by
  rw [← tagD_eq]
  unfold tagD
  rw [h]
theorem dt_len {L : List UInt8} {l : List Nat} (h : rnD L L.length 0 = some l) (hl : l.length < 1 ∨ 24 < l.length) : tagE L = 16 := by
  rw [← tagD_eq]
  unfold tagD
  rw [h]
  exact if_pos hl
theorem dt_bad {L : List UInt8} {l : List Nat} {k x : Nat} (h : rnD L L.length 0 = some l) (hx : l[k]? = some x) (hb : x < 32 ∨ x = 127) : tagE L = 16 := by
  rw [← tagD_eq]
  unfold tagD
  rw [h]
  have ha : l.any badC = true := List.any_eq_true.2 ⟨x, List.mem_of_getElem? hx, decide_eq_true hb⟩
  simp only [ha, if_true]
  split <;> rfl
theorem dt_ok {L : List UInt8} {l : List Nat} {k : Nat} (h : rnD L L.length 0 = some l) (hl : ¬ (l.length < 1 ∨ 24 < l.length)) (hk : l.length ≤ k) (hb : (l.take k).any badC = false) : tagE L = 0 := by
  rw [← tagD_eq]
  unfold tagD
  rw [h]
  rw [List.take_of_length_le hk] at hb
  simp only [hb, if_neg hl]
  rfl
theorem bd_step {l : List Nat} {k x : Nat} (hb : (l.take k).any badC = false) (hx : l[k]? = some x) (hn : ¬ (x < 32 ∨ x = 127)) : (l.take (k + 1)).any badC = false := by
  rw [List.take_add_one, hx, List.any_append, hb]
  simp [badC, hn]
set_option maxHeartbeats 4000000 in
theorem dtag_ht (L : List UInt8) (hm : L.length ≤ 100000) : HT Tryz.prog 86 [Value.string (St L)] [] (fun v K => v = Value.int IntKind.i64 (tagE L) ∧ K = []) := by
 refine hiS Tryz.func86 Tryz.ntmps86 fun g w0 R h0 => go [] <| cP Tryz.call104 (runes_ht L (by omega)) h0 ?_
 rintro v K w14 (⟨l10, p11, c12, hr13, rfl, rfl⟩ | ⟨hr13, rfl, rfl⟩) h15
 ·
  have h16 := ap1 h15
  refine go [.s 2 5] ?_
  by_cases c17 : ((l10.length : Nat) : Int) < 1
  ·
   refine go [.v 2 5 (oT (((l10.length : Nat) : Int) < 1))] ?_
   exact en (iV 16) [] ⟨_, _, rfl, ⟨by rw [dt_len hr13 (by omega)], rfl⟩, (tk1 (sf1 h16))⟩
  refine go [.v 2 5 (oF (((l10.length : Nat) : Int) < 1)), .s 2 10] ?_
  by_cases c19 : ((l10.length : Nat) : Int) > 24
  ·
   refine go [.v 2 10 (oT (((l10.length : Nat) : Int) > 24))] ?_
   exact en (iV 16) [] ⟨_, _, rfl, ⟨by rw [dt_len hr13 (by omega)], rfl⟩, (tk1 (sf1 h16))⟩
  refine go [.v 2 10 (oF (((l10.length : Nat) : Int) > 24))] ?_
  refine lpS (fun mz_ a w => ∃ k : Nat, ∃ lr : Fr, mz_ = l10.length - k ∧ (k ≤ l10.length) ∧ ((l10.take k).any badC = false) ∧ a = mk 41 (([(3, .slice p11 l10.length c12), (5, iV (k : Int))] : Fr) ++ lr) ∧ sat g w [Sl 3 1 p11 l10.length c12 (fl eN l10), R]) (l10.length - 0) ⟨0, _, rfl, (by omega), rfl, (lvF [.k 3 (.slice p11 l10.length c12), .o 5 (oJ .i64 0 (0 : Int))]), h16⟩ ?_
  rintro m22 a23 w24 ⟨k, lr21, rfl, hk_, hb_, rfl, h25⟩
  refine ga <| go [.s 5 3] ?_
  by_cases c26 : (k : Int) < ((l10.length : Nat) : Int)
  ·
   obtain ⟨b27, hp28⟩ := sl_ptr0 (j := 0) h25 rfl (by omega)
   refine go [.v 5 3 (oT ((k : Int) < ((l10.length : Nat) : Int))), .s 7 2] <| lwP (.pointer (some ⟨b27, k, none⟩)) (law_indexSlP (x := (Operand.tmp 29)) (i := (Operand.tmp 30)) (p := p11) (b := b27) (off := 0) (z := (k : Int)) (len := l10.length) (cap := c12) (by kernel_rfl) Tryz.underlying108 1 (by kernel_rfl) k (by kernel_rfl) hp28 (by kernel_rfl) (by omega) (by omega) k (by omega) _) ?_
   obtain ⟨x29, hx30⟩ : ∃ x, l10[k]? = some x := ⟨_, List.getElem?_eq_getElem (by omega)⟩
   refine go [.r 7 3 b27 k [iV (x29 : Int)] ⟨gv_cell (j := 0) h25 rfl (gv_sl _ _ _) hp28 (fl_get eN_ok (j := 0) (v := iV (x29 : Int)) hx30 rfl) k (by omega), trivial⟩, .s 7 4] ?_
   by_cases c31 : (x29 : Int) < 32
   ·
    refine go [.v 7 4 (oT ((x29 : Int) < 32))] <| up <| go [] ?_
    exact en (iV 16) [] ⟨_, _, rfl, ⟨by rw [dt_bad hr13 hx30 (by omega)], rfl⟩, (tk1 (sf1 h25))⟩
   refine go [.v 7 4 (oF ((x29 : Int) < 32)), .s 7 8] <| lwP (.pointer (some ⟨b27, k, none⟩)) (law_indexSlP (x := (Operand.tmp 35)) (i := (Operand.tmp 36)) (p := p11) (b := b27) (off := 0) (z := (k : Int)) (len := l10.length) (cap := c12) (by kernel_rfl) Tryz.underlying108 1 (by kernel_rfl) k (by kernel_rfl) hp28 (by kernel_rfl) (by omega) (by omega) k (by omega) _) <| go [.r 7 9 b27 k [iV (x29 : Int)] ⟨gv_cell (j := 0) h25 rfl (gv_sl _ _ _) hp28 (fl_get eN_ok (j := 0) (v := iV (x29 : Int)) hx30 rfl) k (by omega), trivial⟩, .s 7 10] ?_
   by_cases c33 : (x29 : Int) = 127
   ·
    refine go [.v 7 10 (eT (x29 : Int) 127)] <| up <| go [] ?_
    exact en (iV 16) [] ⟨_, _, rfl, ⟨by rw [dt_bad hr13 hx30 (by omega)], rfl⟩, (tk1 (sf1 h25))⟩
   refine go [.v 7 10 (eF (x29 : Int) 127), .v 6 1 (oIr ((k : Int) + 1))] ?_
   refine enL ?_
   change ∃ n', n' < _ ∧ _
   refine ⟨(l10.length - (k + 1)), by omega, (k + 1), _, rfl, (by omega), (bd_step hb_ hx30 (by omega)), (lvF [.k 3 (.slice p11 l10.length c12), .o 5 (oJ .i64 ((k : Int) + 1) ((((k + 1) : Nat) : Int)))]), h25⟩
  refine go [.v 5 3 (oF ((k : Int) < ((l10.length : Nat) : Int)))] <| up <| go [] ?_
  exact en (iV 0) [] ⟨_, _, rfl, ⟨by rw [dt_ok hr13 (by omega) (by omega) hb_], rfl⟩, (tk1 (sf1 h25))⟩
 have h36 := ap0 h15
 refine go [] ?_
 exact en (iV 16) [] ⟨_, _, rfl, ⟨by rw [dt_none hr13], rfl⟩, h36⟩

end Go.Proofs.YtjjpmehiolejgaaGreat
