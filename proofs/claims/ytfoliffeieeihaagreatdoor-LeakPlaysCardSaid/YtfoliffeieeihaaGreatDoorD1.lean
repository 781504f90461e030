/- Walks, printed by my generator ../tabz/z1.py. -/
import Derived.Test.YtfoliffeieeihaaGreatDoorBundle28
import Derived.Test.YtfoliffeieeihaaGreatDoorBundle18
namespace Go.Proofs.YtfoliffeieeihaaGreatDoor
theorem getD_at {L : List UInt8} {j : Nat} {x : UInt8} (h : L[j]? = some x) : (L.getD j 0).toNat = x.toNat := by rw [List.getD_eq_getElem?_getD, h]; rfl
theorem cB_some {L : List UInt8} {j : Nat} {x : UInt8} (h : L[j]? = some x) (hx : 128 ≤ x.toNat ∧ x.toNat < 192) : contB L j = some (x.toNat % 64) := by
  unfold contB
  rw [getD_at h, if_pos ⟨(List.getElem?_eq_some_iff.1 h).1, by omega⟩]
theorem cB_none {L : List UInt8} {j : Nat} {x : UInt8} (h : L[j]? = some x) (hx : x.toNat < 128 ∨ 192 ≤ x.toNat) : contB L j = none := by
  unfold contB
  have := x.toNat_lt
  rw [getD_at h, if_neg (fun q => by omega)]
theorem cB_out {L : List UInt8} {j : Nat} (h : L.length ≤ j) : contB L j = none := by
  unfold contB
  rw [if_neg (fun q => by omega)]
theorem rd_of {L : List UInt8} {i : Nat} {x : UInt8} {c1 c2 c3 : Option Nat} (h : L[i]? = some x) (h1 : contB L (i + 1) = c1) (h2 : contB L (i + 2) = c2) (h3 : contB L (i + 3) = c3) : runeD L i = decF x.toNat c1 c2 c3 := by
  unfold runeD
  rw [getD_at h, h1, h2, h3]
set_option maxHeartbeats 4000000 in
theorem rune_ht (L : List UInt8) (i : Nat) (hi : i < L.length) (hm : L.length ≤ 1099511627776) : HT Tryz.prog 72 [.string (St L), iV (((i : Nat) : Int))] [] (fun v K => v = .tuple #[iV ((((runeD L i).1 : Nat) : Int)), iV ((((runeD L i).2 : Nat) : Int))] ∧ K = []) := by
 refine hiS Tryz.func72 Tryz.ntmps72 fun g w0 R h0 => ?_
 obtain ⟨x10, hx11⟩ : ∃ x, L[i]? = some x := ⟨_, List.getElem?_eq_getElem (by omega)⟩
 have hb12 := x10.toNat_lt
 refine go [.s 1 2] <| lwP (yV (((x10.toNat : Nat) : Int))) (law_idxStr (x := (Operand.tmp 11)) (i := (Operand.tmp 12)) (k := .i64) (s := L) (z := (i : Int)) (b := x10) (by kernel_rfl) Tryz.underlying9 (by kernel_rfl) (by kernel_rfl) i (by omega) hx11 _) <| go [.v 1 3 (oIr (((x10.toNat : Nat) : Int))), .s 2 1] ?_
 by_cases c13 : ((x10.toNat : Nat) : Int) < 128
 ·
  refine go [.v 2 1 (oT (((x10.toNat : Nat) : Int) < 128))] ?_
  have he_ := rd_of hx11 (rfl) (rfl) (rfl)
  unfold decF at he_
  rw [if_pos (by omega)] at he_
  have hr1_ : ((runeD L i).1 : Int) = ((x10.toNat : Nat) : Int) := by rw [he_] <;> first | rfl | (dsimp only; omega)
  have hr2_ : ((runeD L i).2 : Int) = 1 := by rw [he_] <;> rfl
  exact en (.tuple #[iV (((x10.toNat : Nat) : Int)), iV 1]) [] ⟨_, _, rfl, ⟨by rw [hr1_, hr2_], rfl⟩, h0⟩
 refine go [.v 2 1 (oF (((x10.toNat : Nat) : Int) < 128)), .s 6 1] ?_
 by_cases c14 : ((x10.toNat : Nat) : Int) ≥ 192
 ·
  refine go [.v 6 1 (oT (((x10.toNat : Nat) : Int) ≥ 192)), .s 6 4] ?_
  by_cases c15 : ((x10.toNat : Nat) : Int) < 224
  ·
   refine go [.v 6 4 (oT (((x10.toNat : Nat) : Int) < 224)), .v 9 1 (oIr ((((x10.toNat : Nat) : Int)) - 192)), .v 18 5 (oIr ((i : Int) + 2)), .v 18 7 (⟨iV ((St L).size : Int), iV (((L.length : Nat) : Int)), (ov_int (st_len _))⟩), .s 18 8] ?_
   by_cases c16 : (i : Int) + 2 > ((L.length : Nat) : Int)
   ·
    refine go [.v 18 8 (oT ((i : Int) + 2 > ((L.length : Nat) : Int)))] ?_
    have he_ := rd_of hx11 (cB_out (by omega)) (cB_out (by omega)) (cB_out (by omega))
    unfold decF at he_
    rw [if_neg (by omega), if_pos (by omega)] at he_
    have hr1_ : ((runeD L i).1 : Int) = 0 := by rw [he_] <;> first | rfl | (dsimp only; omega)
    have hr2_ : ((runeD L i).2 : Int) = 0 := by rw [he_] <;> rfl
    exact en (.tuple #[iV 0, iV 0]) [] ⟨_, _, rfl, ⟨by rw [hr1_, hr2_], rfl⟩, h0⟩
   refine go [.v 18 8 (oF ((i : Int) + 2 > ((L.length : Nat) : Int)))] <| unS 3 ?_
   obtain ⟨x17, hx18⟩ : ∃ x, L[i + 1]? = some x := ⟨_, List.getElem?_eq_getElem (by omega)⟩
   have hb19 := x17.toNat_lt
   refine go [.v 23 3 (oIr ((i : Int) + 1)), .s 23 4] <| lwP (yV (((x17.toNat : Nat) : Int))) (law_idxStr (x := (Operand.tmp 57)) (i := (Operand.tmp 60)) (k := .i64) (s := L) (z := ((i : Int) + 1)) (b := x17) (by kernel_rfl) Tryz.underlying9 (by kernel_rfl) (by kernel_rfl) (i + 1) (by omega) hx18 _) <| go [.v 23 5 (oIr (((x17.toNat : Nat) : Int))), .s 24 1] ?_
   by_cases c20 : ((x17.toNat : Nat) : Int) < 128
   ·
    refine go [.v 24 1 (oT (((x17.toNat : Nat) : Int) < 128))] <| up <| go [] ?_
    have he_ := rd_of hx11 (cB_none (j := i + 1) (by rw [show i + 1 = (i + 1) from by omega]; exact hx18) (by omega)) (rfl) (rfl)
    unfold decF at he_
    rw [if_neg (by omega), if_pos (by omega)] at he_
    have hr1_ : ((runeD L i).1 : Int) = 0 := by rw [he_] <;> first | rfl | (dsimp only; omega)
    have hr2_ : ((runeD L i).2 : Int) = 0 := by rw [he_] <;> rfl
    exact en (.tuple #[iV 0, iV 0]) [] ⟨_, _, rfl, ⟨by rw [hr1_, hr2_], rfl⟩, h0⟩
   refine go [.v 24 1 (oF (((x17.toNat : Nat) : Int) < 128)), .s 24 4] ?_
   by_cases c21 : ((x17.toNat : Nat) : Int) ≥ 192
   ·
    refine go [.v 24 4 (oT (((x17.toNat : Nat) : Int) ≥ 192))] <| up <| go [] ?_
    have he_ := rd_of hx11 (cB_none (j := i + 1) (by rw [show i + 1 = (i + 1) from by omega]; exact hx18) (by omega)) (rfl) (rfl)
    unfold decF at he_
    rw [if_neg (by omega), if_pos (by omega)] at he_
    have hr1_ : ((runeD L i).1 : Int) = 0 := by rw [he_] <;> first | rfl | (dsimp only; omega)
    have hr2_ : ((runeD L i).2 : Int) = 0 := by rw [he_] <;> rfl
    exact en (.tuple #[iV 0, iV 0]) [] ⟨_, _, rfl, ⟨by rw [hr1_, hr2_], rfl⟩, h0⟩
   refine go [.v 24 4 (oF (((x17.toNat : Nat) : Int) ≥ 192)), .v 26 1 (oI ((((x10.toNat : Nat) : Int) - 192) * 64) (64 * ((x10.toNat : Nat) : Int) - 12288)), .v 26 3 (oI ((64 * ((x10.toNat : Nat) : Int) - 12288) + (((x17.toNat : Nat) : Int))) (64 * ((x10.toNat : Nat) : Int) + ((x17.toNat : Nat) : Int) - 12288)), .v 26 4 (oI ((64 * ((x10.toNat : Nat) : Int) + ((x17.toNat : Nat) : Int) - 12288) - 128) (64 * ((x10.toNat : Nat) : Int) + ((x17.toNat : Nat) : Int) - 12416))] <| unN <| go [] <| up <| go [.s 27 2] ?_
   by_cases c22 : 64 * ((x10.toNat : Nat) : Int) + ((x17.toNat : Nat) : Int) - 12416 < 128
   ·
    refine go [.v 27 2 (oT (64 * ((x10.toNat : Nat) : Int) + ((x17.toNat : Nat) : Int) - 12416 < 128))] ?_
    have he_ := rd_of hx11 (cB_some (j := i + 1) (by rw [show i + 1 = (i + 1) from by omega]; exact hx18) (by omega)) (rfl) (rfl)
    unfold decF at he_
    rw [if_neg (by omega), if_pos (by omega)] at he_
    dsimp only at he_
    rw [if_neg (by omega)] at he_
    have hr1_ : ((runeD L i).1 : Int) = 0 := by rw [he_] <;> first | rfl | (dsimp only; omega)
    have hr2_ : ((runeD L i).2 : Int) = 0 := by rw [he_] <;> rfl
    exact en (.tuple #[iV 0, iV 0]) [] ⟨_, _, rfl, ⟨by rw [hr1_, hr2_], rfl⟩, h0⟩
   refine go [.v 27 2 (oF (64 * ((x10.toNat : Nat) : Int) + ((x17.toNat : Nat) : Int) - 12416 < 128)), .v 27 5 (oF (64 * ((x10.toNat : Nat) : Int) + ((x17.toNat : Nat) : Int) - 12416 > 1114111)), .v 27 9 (oF (64 * ((x10.toNat : Nat) : Int) + ((x17.toNat : Nat) : Int) - 12416 ≥ 55296))] ?_
   have he_ := rd_of hx11 (cB_some (j := i + 1) (by rw [show i + 1 = (i + 1) from by omega]; exact hx18) (by omega)) (rfl) (rfl)
   unfold decF at he_
   rw [if_neg (by omega), if_pos (by omega)] at he_
   dsimp only at he_
   rw [if_pos (by omega)] at he_
   have hr1_ : ((runeD L i).1 : Int) = 64 * ((x10.toNat : Nat) : Int) + ((x17.toNat : Nat) : Int) - 12416 := by rw [he_] <;> first | rfl | (dsimp only; omega)
   have hr2_ : ((runeD L i).2 : Int) = 2 := by rw [he_] <;> rfl
   exact en (.tuple #[iV (64 * ((x10.toNat : Nat) : Int) + ((x17.toNat : Nat) : Int) - 12416), iV 2]) [] ⟨_, _, rfl, ⟨by rw [hr1_, hr2_], rfl⟩, h0⟩
  refine go [.v 6 4 (oF (((x10.toNat : Nat) : Int) < 224)), .v 10 1 (oT (((x10.toNat : Nat) : Int) ≥ 224)), .s 10 4] ?_
  by_cases c23 : ((x10.toNat : Nat) : Int) < 240
  ·
   refine go [.v 10 4 (oT (((x10.toNat : Nat) : Int) < 240)), .v 13 1 (oIr ((((x10.toNat : Nat) : Int)) - 224)), .v 18 5 (oIr ((i : Int) + 3)), .v 18 7 (⟨iV ((St L).size : Int), iV (((L.length : Nat) : Int)), (ov_int (st_len _))⟩), .s 18 8] ?_
   by_cases c24 : (i : Int) + 3 > ((L.length : Nat) : Int)
   ·
    refine go [.v 18 8 (oT ((i : Int) + 3 > ((L.length : Nat) : Int)))] ?_
    have he_ := rd_of hx11 (rfl) (cB_out (by omega)) (cB_out (by omega))
    unfold decF at he_
    rw [if_neg (by omega), if_neg (by omega), if_pos (by omega)] at he_
    have he2_ : runeD L i = (0, 0) := by rw [he_]; cases contB L (i + 1) <;> rfl
    replace he_ := he2_
    have hr1_ : ((runeD L i).1 : Int) = 0 := by rw [he_] <;> first | rfl | (dsimp only; omega)
    have hr2_ : ((runeD L i).2 : Int) = 0 := by rw [he_] <;> rfl
    exact en (.tuple #[iV 0, iV 0]) [] ⟨_, _, rfl, ⟨by rw [hr1_, hr2_], rfl⟩, h0⟩
   refine go [.v 18 8 (oF ((i : Int) + 3 > ((L.length : Nat) : Int)))] <| unS 3 ?_
   obtain ⟨x25, hx26⟩ : ∃ x, L[i + 1]? = some x := ⟨_, List.getElem?_eq_getElem (by omega)⟩
   have hb27 := x25.toNat_lt
   refine go [.v 23 3 (oIr ((i : Int) + 1)), .s 23 4] <| lwP (yV (((x25.toNat : Nat) : Int))) (law_idxStr (x := (Operand.tmp 57)) (i := (Operand.tmp 60)) (k := .i64) (s := L) (z := ((i : Int) + 1)) (b := x25) (by kernel_rfl) Tryz.underlying9 (by kernel_rfl) (by kernel_rfl) (i + 1) (by omega) hx26 _) <| go [.v 23 5 (oIr (((x25.toNat : Nat) : Int))), .s 24 1] ?_
   by_cases c28 : ((x25.toNat : Nat) : Int) < 128
   ·
    refine go [.v 24 1 (oT (((x25.toNat : Nat) : Int) < 128))] <| up <| go [] ?_
    have he_ := rd_of hx11 (cB_none (j := i + 1) (by rw [show i + 1 = (i + 1) from by omega]; exact hx26) (by omega)) (rfl) (rfl)
    unfold decF at he_
    rw [if_neg (by omega), if_neg (by omega), if_pos (by omega)] at he_
    have hr1_ : ((runeD L i).1 : Int) = 0 := by rw [he_] <;> first | rfl | (dsimp only; omega)
    have hr2_ : ((runeD L i).2 : Int) = 0 := by rw [he_] <;> rfl
    exact en (.tuple #[iV 0, iV 0]) [] ⟨_, _, rfl, ⟨by rw [hr1_, hr2_], rfl⟩, h0⟩
   refine go [.v 24 1 (oF (((x25.toNat : Nat) : Int) < 128)), .s 24 4] ?_
   by_cases c29 : ((x25.toNat : Nat) : Int) ≥ 192
   ·
    refine go [.v 24 4 (oT (((x25.toNat : Nat) : Int) ≥ 192))] <| up <| go [] ?_
    have he_ := rd_of hx11 (cB_none (j := i + 1) (by rw [show i + 1 = (i + 1) from by omega]; exact hx26) (by omega)) (rfl) (rfl)
    unfold decF at he_
    rw [if_neg (by omega), if_neg (by omega), if_pos (by omega)] at he_
    have hr1_ : ((runeD L i).1 : Int) = 0 := by rw [he_] <;> first | rfl | (dsimp only; omega)
    have hr2_ : ((runeD L i).2 : Int) = 0 := by rw [he_] <;> rfl
    exact en (.tuple #[iV 0, iV 0]) [] ⟨_, _, rfl, ⟨by rw [hr1_, hr2_], rfl⟩, h0⟩
   refine go [.v 24 4 (oF (((x25.toNat : Nat) : Int) ≥ 192)), .v 26 1 (oI ((((x10.toNat : Nat) : Int) - 224) * 64) (64 * ((x10.toNat : Nat) : Int) - 14336)), .v 26 3 (oI ((64 * ((x10.toNat : Nat) : Int) - 14336) + (((x25.toNat : Nat) : Int))) (64 * ((x10.toNat : Nat) : Int) + ((x25.toNat : Nat) : Int) - 14336)), .v 26 4 (oI ((64 * ((x10.toNat : Nat) : Int) + ((x25.toNat : Nat) : Int) - 14336) - 128) (64 * ((x10.toNat : Nat) : Int) + ((x25.toNat : Nat) : Int) - 14464))] <| unN ?_
   obtain ⟨x30, hx31⟩ : ∃ x, L[i + 2]? = some x := ⟨_, List.getElem?_eq_getElem (by omega)⟩
   have hb32 := x30.toNat_lt
   refine go [.v 23 3 (oIr ((i : Int) + 2)), .s 23 4] <| lwP (yV (((x30.toNat : Nat) : Int))) (law_idxStr (x := (Operand.tmp 57)) (i := (Operand.tmp 60)) (k := .i64) (s := L) (z := ((i : Int) + 2)) (b := x30) (by kernel_rfl) Tryz.underlying9 (by kernel_rfl) (by kernel_rfl) (i + 2) (by omega) hx31 _) <| go [.v 23 5 (oIr (((x30.toNat : Nat) : Int))), .s 24 1] ?_
   by_cases c33 : ((x30.toNat : Nat) : Int) < 128
   ·
    refine go [.v 24 1 (oT (((x30.toNat : Nat) : Int) < 128))] <| up <| go [] ?_
    have he_ := rd_of hx11 (cB_some (j := i + 1) (by rw [show i + 1 = (i + 1) from by omega]; exact hx26) (by omega)) (cB_none (j := i + 2) (by rw [show i + 2 = (i + 2) from by omega]; exact hx31) (by omega)) (rfl)
    unfold decF at he_
    rw [if_neg (by omega), if_neg (by omega), if_pos (by omega)] at he_
    have hr1_ : ((runeD L i).1 : Int) = 0 := by rw [he_] <;> first | rfl | (dsimp only; omega)
    have hr2_ : ((runeD L i).2 : Int) = 0 := by rw [he_] <;> rfl
    exact en (.tuple #[iV 0, iV 0]) [] ⟨_, _, rfl, ⟨by rw [hr1_, hr2_], rfl⟩, h0⟩
   refine go [.v 24 1 (oF (((x30.toNat : Nat) : Int) < 128)), .s 24 4] ?_
   by_cases c34 : ((x30.toNat : Nat) : Int) ≥ 192
   ·
    refine go [.v 24 4 (oT (((x30.toNat : Nat) : Int) ≥ 192))] <| up <| go [] ?_
    have he_ := rd_of hx11 (cB_some (j := i + 1) (by rw [show i + 1 = (i + 1) from by omega]; exact hx26) (by omega)) (cB_none (j := i + 2) (by rw [show i + 2 = (i + 2) from by omega]; exact hx31) (by omega)) (rfl)
    unfold decF at he_
    rw [if_neg (by omega), if_neg (by omega), if_pos (by omega)] at he_
    have hr1_ : ((runeD L i).1 : Int) = 0 := by rw [he_] <;> first | rfl | (dsimp only; omega)
    have hr2_ : ((runeD L i).2 : Int) = 0 := by rw [he_] <;> rfl
    exact en (.tuple #[iV 0, iV 0]) [] ⟨_, _, rfl, ⟨by rw [hr1_, hr2_], rfl⟩, h0⟩
   refine go [.v 24 4 (oF (((x30.toNat : Nat) : Int) ≥ 192)), .v 26 1 (oI ((64 * ((x10.toNat : Nat) : Int) + ((x25.toNat : Nat) : Int) - 14464) * 64) (4096 * ((x10.toNat : Nat) : Int) + 64 * ((x25.toNat : Nat) : Int) - 925696)), .v 26 3 (oI ((4096 * ((x10.toNat : Nat) : Int) + 64 * ((x25.toNat : Nat) : Int) - 925696) + (((x30.toNat : Nat) : Int))) (4096 * ((x10.toNat : Nat) : Int) + 64 * ((x25.toNat : Nat) : Int) + ((x30.toNat : Nat) : Int) - 925696)), .v 26 4 (oI ((4096 * ((x10.toNat : Nat) : Int) + 64 * ((x25.toNat : Nat) : Int) + ((x30.toNat : Nat) : Int) - 925696) - 128) (4096 * ((x10.toNat : Nat) : Int) + 64 * ((x25.toNat : Nat) : Int) + ((x30.toNat : Nat) : Int) - 925824))] <| unN <| go [] <| up <| go [.s 27 2] ?_
   by_cases c35 : 4096 * ((x10.toNat : Nat) : Int) + 64 * ((x25.toNat : Nat) : Int) + ((x30.toNat : Nat) : Int) - 925824 < 2048
   ·
    refine go [.v 27 2 (oT (4096 * ((x10.toNat : Nat) : Int) + 64 * ((x25.toNat : Nat) : Int) + ((x30.toNat : Nat) : Int) - 925824 < 2048))] ?_
    have he_ := rd_of hx11 (cB_some (j := i + 1) (by rw [show i + 1 = (i + 1) from by omega]; exact hx26) (by omega)) (cB_some (j := i + 2) (by rw [show i + 2 = (i + 2) from by omega]; exact hx31) (by omega)) (rfl)
    unfold decF at he_
    rw [if_neg (by omega), if_neg (by omega), if_pos (by omega)] at he_
    dsimp only at he_
    rw [if_neg (by omega)] at he_
    have hr1_ : ((runeD L i).1 : Int) = 0 := by rw [he_] <;> first | rfl | (dsimp only; omega)
    have hr2_ : ((runeD L i).2 : Int) = 0 := by rw [he_] <;> rfl
    exact en (.tuple #[iV 0, iV 0]) [] ⟨_, _, rfl, ⟨by rw [hr1_, hr2_], rfl⟩, h0⟩
   refine go [.v 27 2 (oF (4096 * ((x10.toNat : Nat) : Int) + 64 * ((x25.toNat : Nat) : Int) + ((x30.toNat : Nat) : Int) - 925824 < 2048)), .v 27 5 (oF (4096 * ((x10.toNat : Nat) : Int) + 64 * ((x25.toNat : Nat) : Int) + ((x30.toNat : Nat) : Int) - 925824 > 1114111)), .s 27 9] ?_
   by_cases c36 : 4096 * ((x10.toNat : Nat) : Int) + 64 * ((x25.toNat : Nat) : Int) + ((x30.toNat : Nat) : Int) - 925824 ≥ 55296
   ·
    refine go [.v 27 9 (oT (4096 * ((x10.toNat : Nat) : Int) + 64 * ((x25.toNat : Nat) : Int) + ((x30.toNat : Nat) : Int) - 925824 ≥ 55296)), .s 27 12] ?_
    by_cases c37 : 4096 * ((x10.toNat : Nat) : Int) + 64 * ((x25.toNat : Nat) : Int) + ((x30.toNat : Nat) : Int) - 925824 ≤ 57343
    ·
     refine go [.v 27 12 (oT (4096 * ((x10.toNat : Nat) : Int) + 64 * ((x25.toNat : Nat) : Int) + ((x30.toNat : Nat) : Int) - 925824 ≤ 57343))] ?_
     have he_ := rd_of hx11 (cB_some (j := i + 1) (by rw [show i + 1 = (i + 1) from by omega]; exact hx26) (by omega)) (cB_some (j := i + 2) (by rw [show i + 2 = (i + 2) from by omega]; exact hx31) (by omega)) (rfl)
     unfold decF at he_
     rw [if_neg (by omega), if_neg (by omega), if_pos (by omega)] at he_
     dsimp only at he_
     rw [if_neg (by omega)] at he_
     have hr1_ : ((runeD L i).1 : Int) = 0 := by rw [he_] <;> first | rfl | (dsimp only; omega)
     have hr2_ : ((runeD L i).2 : Int) = 0 := by rw [he_] <;> rfl
     exact en (.tuple #[iV 0, iV 0]) [] ⟨_, _, rfl, ⟨by rw [hr1_, hr2_], rfl⟩, h0⟩
    refine go [.v 27 12 (oF (4096 * ((x10.toNat : Nat) : Int) + 64 * ((x25.toNat : Nat) : Int) + ((x30.toNat : Nat) : Int) - 925824 ≤ 57343))] ?_
    have he_ := rd_of hx11 (cB_some (j := i + 1) (by rw [show i + 1 = (i + 1) from by omega]; exact hx26) (by omega)) (cB_some (j := i + 2) (by rw [show i + 2 = (i + 2) from by omega]; exact hx31) (by omega)) (rfl)
    unfold decF at he_
    rw [if_neg (by omega), if_neg (by omega), if_pos (by omega)] at he_
    dsimp only at he_
    rw [if_pos (by omega)] at he_
    have hr1_ : ((runeD L i).1 : Int) = 4096 * ((x10.toNat : Nat) : Int) + 64 * ((x25.toNat : Nat) : Int) + ((x30.toNat : Nat) : Int) - 925824 := by rw [he_] <;> first | rfl | (dsimp only; omega)
    have hr2_ : ((runeD L i).2 : Int) = 3 := by rw [he_] <;> rfl
    exact en (.tuple #[iV (4096 * ((x10.toNat : Nat) : Int) + 64 * ((x25.toNat : Nat) : Int) + ((x30.toNat : Nat) : Int) - 925824), iV 3]) [] ⟨_, _, rfl, ⟨by rw [hr1_, hr2_], rfl⟩, h0⟩
   refine go [.v 27 9 (oF (4096 * ((x10.toNat : Nat) : Int) + 64 * ((x25.toNat : Nat) : Int) + ((x30.toNat : Nat) : Int) - 925824 ≥ 55296))] ?_
   have he_ := rd_of hx11 (cB_some (j := i + 1) (by rw [show i + 1 = (i + 1) from by omega]; exact hx26) (by omega)) (cB_some (j := i + 2) (by rw [show i + 2 = (i + 2) from by omega]; exact hx31) (by omega)) (rfl)
   unfold decF at he_
   rw [if_neg (by omega), if_neg (by omega), if_pos (by omega)] at he_
   dsimp only at he_
   rw [if_pos (by omega)] at he_
   have hr1_ : ((runeD L i).1 : Int) = 4096 * ((x10.toNat : Nat) : Int) + 64 * ((x25.toNat : Nat) : Int) + ((x30.toNat : Nat) : Int) - 925824 := by rw [he_] <;> first | rfl | (dsimp only; omega)
   have hr2_ : ((runeD L i).2 : Int) = 3 := by rw [he_] <;> rfl
   exact en (.tuple #[iV (4096 * ((x10.toNat : Nat) : Int) + 64 * ((x25.toNat : Nat) : Int) + ((x30.toNat : Nat) : Int) - 925824), iV 3]) [] ⟨_, _, rfl, ⟨by rw [hr1_, hr2_], rfl⟩, h0⟩
  refine go [.v 10 4 (oF (((x10.toNat : Nat) : Int) < 240)), .v 14 1 (oT (((x10.toNat : Nat) : Int) ≥ 240)), .s 14 4] ?_
  by_cases c38 : ((x10.toNat : Nat) : Int) < 248
  ·
   refine go [.v 14 4 (oT (((x10.toNat : Nat) : Int) < 248)), .v 17 1 (oIr ((((x10.toNat : Nat) : Int)) - 240)), .v 18 5 (oIr ((i : Int) + 4)), .v 18 7 (⟨iV ((St L).size : Int), iV (((L.length : Nat) : Int)), (ov_int (st_len _))⟩), .s 18 8] ?_
   by_cases c39 : (i : Int) + 4 > ((L.length : Nat) : Int)
   ·
    refine go [.v 18 8 (oT ((i : Int) + 4 > ((L.length : Nat) : Int)))] ?_
    have he_ := rd_of hx11 (rfl) (rfl) (cB_out (by omega))
    unfold decF at he_
    rw [if_neg (by omega), if_neg (by omega), if_neg (by omega), if_pos (by omega)] at he_
    have he2_ : runeD L i = (0, 0) := by rw [he_]; cases contB L (i + 1) <;> cases contB L (i + 2) <;> rfl
    replace he_ := he2_
    have hr1_ : ((runeD L i).1 : Int) = 0 := by rw [he_] <;> first | rfl | (dsimp only; omega)
    have hr2_ : ((runeD L i).2 : Int) = 0 := by rw [he_] <;> rfl
    exact en (.tuple #[iV 0, iV 0]) [] ⟨_, _, rfl, ⟨by rw [hr1_, hr2_], rfl⟩, h0⟩
   refine go [.v 18 8 (oF ((i : Int) + 4 > ((L.length : Nat) : Int)))] <| unS 3 ?_
   obtain ⟨x40, hx41⟩ : ∃ x, L[i + 1]? = some x := ⟨_, List.getElem?_eq_getElem (by omega)⟩
   have hb42 := x40.toNat_lt
   refine go [.v 23 3 (oIr ((i : Int) + 1)), .s 23 4] <| lwP (yV (((x40.toNat : Nat) : Int))) (law_idxStr (x := (Operand.tmp 57)) (i := (Operand.tmp 60)) (k := .i64) (s := L) (z := ((i : Int) + 1)) (b := x40) (by kernel_rfl) Tryz.underlying9 (by kernel_rfl) (by kernel_rfl) (i + 1) (by omega) hx41 _) <| go [.v 23 5 (oIr (((x40.toNat : Nat) : Int))), .s 24 1] ?_
   by_cases c43 : ((x40.toNat : Nat) : Int) < 128
   ·
    refine go [.v 24 1 (oT (((x40.toNat : Nat) : Int) < 128))] <| up <| go [] ?_
    have he_ := rd_of hx11 (cB_none (j := i + 1) (by rw [show i + 1 = (i + 1) from by omega]; exact hx41) (by omega)) (rfl) (rfl)
    unfold decF at he_
    rw [if_neg (by omega), if_neg (by omega), if_neg (by omega), if_pos (by omega)] at he_
    have hr1_ : ((runeD L i).1 : Int) = 0 := by rw [he_] <;> first | rfl | (dsimp only; omega)
    have hr2_ : ((runeD L i).2 : Int) = 0 := by rw [he_] <;> rfl
    exact en (.tuple #[iV 0, iV 0]) [] ⟨_, _, rfl, ⟨by rw [hr1_, hr2_], rfl⟩, h0⟩
   refine go [.v 24 1 (oF (((x40.toNat : Nat) : Int) < 128)), .s 24 4] ?_
   by_cases c44 : ((x40.toNat : Nat) : Int) ≥ 192
   ·
    refine go [.v 24 4 (oT (((x40.toNat : Nat) : Int) ≥ 192))] <| up <| go [] ?_
    have he_ := rd_of hx11 (cB_none (j := i + 1) (by rw [show i + 1 = (i + 1) from by omega]; exact hx41) (by omega)) (rfl) (rfl)
    unfold decF at he_
    rw [if_neg (by omega), if_neg (by omega), if_neg (by omega), if_pos (by omega)] at he_
    have hr1_ : ((runeD L i).1 : Int) = 0 := by rw [he_] <;> first | rfl | (dsimp only; omega)
    have hr2_ : ((runeD L i).2 : Int) = 0 := by rw [he_] <;> rfl
    exact en (.tuple #[iV 0, iV 0]) [] ⟨_, _, rfl, ⟨by rw [hr1_, hr2_], rfl⟩, h0⟩
   refine go [.v 24 4 (oF (((x40.toNat : Nat) : Int) ≥ 192)), .v 26 1 (oI ((((x10.toNat : Nat) : Int) - 240) * 64) (64 * ((x10.toNat : Nat) : Int) - 15360)), .v 26 3 (oI ((64 * ((x10.toNat : Nat) : Int) - 15360) + (((x40.toNat : Nat) : Int))) (64 * ((x10.toNat : Nat) : Int) + ((x40.toNat : Nat) : Int) - 15360)), .v 26 4 (oI ((64 * ((x10.toNat : Nat) : Int) + ((x40.toNat : Nat) : Int) - 15360) - 128) (64 * ((x10.toNat : Nat) : Int) + ((x40.toNat : Nat) : Int) - 15488))] <| unN ?_
   obtain ⟨x45, hx46⟩ : ∃ x, L[i + 2]? = some x := ⟨_, List.getElem?_eq_getElem (by omega)⟩
   have hb47 := x45.toNat_lt
   refine go [.v 23 3 (oIr ((i : Int) + 2)), .s 23 4] <| lwP (yV (((x45.toNat : Nat) : Int))) (law_idxStr (x := (Operand.tmp 57)) (i := (Operand.tmp 60)) (k := .i64) (s := L) (z := ((i : Int) + 2)) (b := x45) (by kernel_rfl) Tryz.underlying9 (by kernel_rfl) (by kernel_rfl) (i + 2) (by omega) hx46 _) <| go [.v 23 5 (oIr (((x45.toNat : Nat) : Int))), .s 24 1] ?_
   by_cases c48 : ((x45.toNat : Nat) : Int) < 128
   ·
    refine go [.v 24 1 (oT (((x45.toNat : Nat) : Int) < 128))] <| up <| go [] ?_
    have he_ := rd_of hx11 (cB_some (j := i + 1) (by rw [show i + 1 = (i + 1) from by omega]; exact hx41) (by omega)) (cB_none (j := i + 2) (by rw [show i + 2 = (i + 2) from by omega]; exact hx46) (by omega)) (rfl)
    unfold decF at he_
    rw [if_neg (by omega), if_neg (by omega), if_neg (by omega), if_pos (by omega)] at he_
    have hr1_ : ((runeD L i).1 : Int) = 0 := by rw [he_] <;> first | rfl | (dsimp only; omega)
    have hr2_ : ((runeD L i).2 : Int) = 0 := by rw [he_] <;> rfl
    exact en (.tuple #[iV 0, iV 0]) [] ⟨_, _, rfl, ⟨by rw [hr1_, hr2_], rfl⟩, h0⟩
   refine go [.v 24 1 (oF (((x45.toNat : Nat) : Int) < 128)), .s 24 4] ?_
   by_cases c49 : ((x45.toNat : Nat) : Int) ≥ 192
   ·
    refine go [.v 24 4 (oT (((x45.toNat : Nat) : Int) ≥ 192))] <| up <| go [] ?_
    have he_ := rd_of hx11 (cB_some (j := i + 1) (by rw [show i + 1 = (i + 1) from by omega]; exact hx41) (by omega)) (cB_none (j := i + 2) (by rw [show i + 2 = (i + 2) from by omega]; exact hx46) (by omega)) (rfl)
    unfold decF at he_
    rw [if_neg (by omega), if_neg (by omega), if_neg (by omega), if_pos (by omega)] at he_
    have hr1_ : ((runeD L i).1 : Int) = 0 := by rw [he_] <;> first | rfl | (dsimp only; omega)
    have hr2_ : ((runeD L i).2 : Int) = 0 := by rw [he_] <;> rfl
    exact en (.tuple #[iV 0, iV 0]) [] ⟨_, _, rfl, ⟨by rw [hr1_, hr2_], rfl⟩, h0⟩
   refine go [.v 24 4 (oF (((x45.toNat : Nat) : Int) ≥ 192)), .v 26 1 (oI ((64 * ((x10.toNat : Nat) : Int) + ((x40.toNat : Nat) : Int) - 15488) * 64) (4096 * ((x10.toNat : Nat) : Int) + 64 * ((x40.toNat : Nat) : Int) - 991232)), .v 26 3 (oI ((4096 * ((x10.toNat : Nat) : Int) + 64 * ((x40.toNat : Nat) : Int) - 991232) + (((x45.toNat : Nat) : Int))) (4096 * ((x10.toNat : Nat) : Int) + 64 * ((x40.toNat : Nat) : Int) + ((x45.toNat : Nat) : Int) - 991232)), .v 26 4 (oI ((4096 * ((x10.toNat : Nat) : Int) + 64 * ((x40.toNat : Nat) : Int) + ((x45.toNat : Nat) : Int) - 991232) - 128) (4096 * ((x10.toNat : Nat) : Int) + 64 * ((x40.toNat : Nat) : Int) + ((x45.toNat : Nat) : Int) - 991360))] <| unN ?_
   obtain ⟨x50, hx51⟩ : ∃ x, L[i + 3]? = some x := ⟨_, List.getElem?_eq_getElem (by omega)⟩
   have hb52 := x50.toNat_lt
   refine go [.v 23 3 (oIr ((i : Int) + 3)), .s 23 4] <| lwP (yV (((x50.toNat : Nat) : Int))) (law_idxStr (x := (Operand.tmp 57)) (i := (Operand.tmp 60)) (k := .i64) (s := L) (z := ((i : Int) + 3)) (b := x50) (by kernel_rfl) Tryz.underlying9 (by kernel_rfl) (by kernel_rfl) (i + 3) (by omega) hx51 _) <| go [.v 23 5 (oIr (((x50.toNat : Nat) : Int))), .s 24 1] ?_
   by_cases c53 : ((x50.toNat : Nat) : Int) < 128
   ·
    refine go [.v 24 1 (oT (((x50.toNat : Nat) : Int) < 128))] <| up <| go [] ?_
    have he_ := rd_of hx11 (cB_some (j := i + 1) (by rw [show i + 1 = (i + 1) from by omega]; exact hx41) (by omega)) (cB_some (j := i + 2) (by rw [show i + 2 = (i + 2) from by omega]; exact hx46) (by omega)) (cB_none (j := i + 3) (by rw [show i + 3 = (i + 3) from by omega]; exact hx51) (by omega))
    unfold decF at he_
    rw [if_neg (by omega), if_neg (by omega), if_neg (by omega), if_pos (by omega)] at he_
    have hr1_ : ((runeD L i).1 : Int) = 0 := by rw [he_] <;> first | rfl | (dsimp only; omega)
    have hr2_ : ((runeD L i).2 : Int) = 0 := by rw [he_] <;> rfl
    exact en (.tuple #[iV 0, iV 0]) [] ⟨_, _, rfl, ⟨by rw [hr1_, hr2_], rfl⟩, h0⟩
   refine go [.v 24 1 (oF (((x50.toNat : Nat) : Int) < 128)), .s 24 4] ?_
   by_cases c54 : ((x50.toNat : Nat) : Int) ≥ 192
   ·
    refine go [.v 24 4 (oT (((x50.toNat : Nat) : Int) ≥ 192))] <| up <| go [] ?_
    have he_ := rd_of hx11 (cB_some (j := i + 1) (by rw [show i + 1 = (i + 1) from by omega]; exact hx41) (by omega)) (cB_some (j := i + 2) (by rw [show i + 2 = (i + 2) from by omega]; exact hx46) (by omega)) (cB_none (j := i + 3) (by rw [show i + 3 = (i + 3) from by omega]; exact hx51) (by omega))
    unfold decF at he_
    rw [if_neg (by omega), if_neg (by omega), if_neg (by omega), if_pos (by omega)] at he_
    have hr1_ : ((runeD L i).1 : Int) = 0 := by rw [he_] <;> first | rfl | (dsimp only; omega)
    have hr2_ : ((runeD L i).2 : Int) = 0 := by rw [he_] <;> rfl
    exact en (.tuple #[iV 0, iV 0]) [] ⟨_, _, rfl, ⟨by rw [hr1_, hr2_], rfl⟩, h0⟩
   refine go [.v 24 4 (oF (((x50.toNat : Nat) : Int) ≥ 192)), .v 26 1 (oI ((4096 * ((x10.toNat : Nat) : Int) + 64 * ((x40.toNat : Nat) : Int) + ((x45.toNat : Nat) : Int) - 991360) * 64) (262144 * ((x10.toNat : Nat) : Int) + 4096 * ((x40.toNat : Nat) : Int) + 64 * ((x45.toNat : Nat) : Int) - 63447040)), .v 26 3 (oI ((262144 * ((x10.toNat : Nat) : Int) + 4096 * ((x40.toNat : Nat) : Int) + 64 * ((x45.toNat : Nat) : Int) - 63447040) + (((x50.toNat : Nat) : Int))) (262144 * ((x10.toNat : Nat) : Int) + 4096 * ((x40.toNat : Nat) : Int) + 64 * ((x45.toNat : Nat) : Int) + ((x50.toNat : Nat) : Int) - 63447040)), .v 26 4 (oI ((262144 * ((x10.toNat : Nat) : Int) + 4096 * ((x40.toNat : Nat) : Int) + 64 * ((x45.toNat : Nat) : Int) + ((x50.toNat : Nat) : Int) - 63447040) - 128) (262144 * ((x10.toNat : Nat) : Int) + 4096 * ((x40.toNat : Nat) : Int) + 64 * ((x45.toNat : Nat) : Int) + ((x50.toNat : Nat) : Int) - 63447168))] <| unN <| go [] <| up <| go [.s 27 2] ?_
   by_cases c55 : 262144 * ((x10.toNat : Nat) : Int) + 4096 * ((x40.toNat : Nat) : Int) + 64 * ((x45.toNat : Nat) : Int) + ((x50.toNat : Nat) : Int) - 63447168 < 65536
   ·
    refine go [.v 27 2 (oT (262144 * ((x10.toNat : Nat) : Int) + 4096 * ((x40.toNat : Nat) : Int) + 64 * ((x45.toNat : Nat) : Int) + ((x50.toNat : Nat) : Int) - 63447168 < 65536))] ?_
    have he_ := rd_of hx11 (cB_some (j := i + 1) (by rw [show i + 1 = (i + 1) from by omega]; exact hx41) (by omega)) (cB_some (j := i + 2) (by rw [show i + 2 = (i + 2) from by omega]; exact hx46) (by omega)) (cB_some (j := i + 3) (by rw [show i + 3 = (i + 3) from by omega]; exact hx51) (by omega))
    unfold decF at he_
    rw [if_neg (by omega), if_neg (by omega), if_neg (by omega), if_pos (by omega)] at he_
    dsimp only at he_
    rw [if_neg (by omega)] at he_
    have hr1_ : ((runeD L i).1 : Int) = 0 := by rw [he_] <;> first | rfl | (dsimp only; omega)
    have hr2_ : ((runeD L i).2 : Int) = 0 := by rw [he_] <;> rfl
    exact en (.tuple #[iV 0, iV 0]) [] ⟨_, _, rfl, ⟨by rw [hr1_, hr2_], rfl⟩, h0⟩
   refine go [.v 27 2 (oF (262144 * ((x10.toNat : Nat) : Int) + 4096 * ((x40.toNat : Nat) : Int) + 64 * ((x45.toNat : Nat) : Int) + ((x50.toNat : Nat) : Int) - 63447168 < 65536)), .s 27 5] ?_
   by_cases c56 : 262144 * ((x10.toNat : Nat) : Int) + 4096 * ((x40.toNat : Nat) : Int) + 64 * ((x45.toNat : Nat) : Int) + ((x50.toNat : Nat) : Int) - 63447168 > 1114111
   ·
    refine go [.v 27 5 (oT (262144 * ((x10.toNat : Nat) : Int) + 4096 * ((x40.toNat : Nat) : Int) + 64 * ((x45.toNat : Nat) : Int) + ((x50.toNat : Nat) : Int) - 63447168 > 1114111))] ?_
    have he_ := rd_of hx11 (cB_some (j := i + 1) (by rw [show i + 1 = (i + 1) from by omega]; exact hx41) (by omega)) (cB_some (j := i + 2) (by rw [show i + 2 = (i + 2) from by omega]; exact hx46) (by omega)) (cB_some (j := i + 3) (by rw [show i + 3 = (i + 3) from by omega]; exact hx51) (by omega))
    unfold decF at he_
    rw [if_neg (by omega), if_neg (by omega), if_neg (by omega), if_pos (by omega)] at he_
    dsimp only at he_
    rw [if_neg (by omega)] at he_
    have hr1_ : ((runeD L i).1 : Int) = 0 := by rw [he_] <;> first | rfl | (dsimp only; omega)
    have hr2_ : ((runeD L i).2 : Int) = 0 := by rw [he_] <;> rfl
    exact en (.tuple #[iV 0, iV 0]) [] ⟨_, _, rfl, ⟨by rw [hr1_, hr2_], rfl⟩, h0⟩
   refine go [.v 27 5 (oF (262144 * ((x10.toNat : Nat) : Int) + 4096 * ((x40.toNat : Nat) : Int) + 64 * ((x45.toNat : Nat) : Int) + ((x50.toNat : Nat) : Int) - 63447168 > 1114111)), .v 27 9 (oT (262144 * ((x10.toNat : Nat) : Int) + 4096 * ((x40.toNat : Nat) : Int) + 64 * ((x45.toNat : Nat) : Int) + ((x50.toNat : Nat) : Int) - 63447168 ≥ 55296)), .v 27 12 (oF (262144 * ((x10.toNat : Nat) : Int) + 4096 * ((x40.toNat : Nat) : Int) + 64 * ((x45.toNat : Nat) : Int) + ((x50.toNat : Nat) : Int) - 63447168 ≤ 57343))] ?_
   have he_ := rd_of hx11 (cB_some (j := i + 1) (by rw [show i + 1 = (i + 1) from by omega]; exact hx41) (by omega)) (cB_some (j := i + 2) (by rw [show i + 2 = (i + 2) from by omega]; exact hx46) (by omega)) (cB_some (j := i + 3) (by rw [show i + 3 = (i + 3) from by omega]; exact hx51) (by omega))
   unfold decF at he_
   rw [if_neg (by omega), if_neg (by omega), if_neg (by omega), if_pos (by omega)] at he_
   dsimp only at he_
   rw [if_pos (by omega)] at he_
   have hr1_ : ((runeD L i).1 : Int) = 262144 * ((x10.toNat : Nat) : Int) + 4096 * ((x40.toNat : Nat) : Int) + 64 * ((x45.toNat : Nat) : Int) + ((x50.toNat : Nat) : Int) - 63447168 := by rw [he_] <;> first | rfl | (dsimp only; omega)
   have hr2_ : ((runeD L i).2 : Int) = 4 := by rw [he_] <;> rfl
   exact en (.tuple #[iV (262144 * ((x10.toNat : Nat) : Int) + 4096 * ((x40.toNat : Nat) : Int) + 64 * ((x45.toNat : Nat) : Int) + ((x50.toNat : Nat) : Int) - 63447168), iV 4]) [] ⟨_, _, rfl, ⟨by rw [hr1_, hr2_], rfl⟩, h0⟩
  refine go [.v 14 4 (oF (((x10.toNat : Nat) : Int) < 248))] ?_
  have he_ := rd_of hx11 (rfl) (rfl) (rfl)
  unfold decF at he_
  rw [if_neg (by omega), if_neg (by omega), if_neg (by omega), if_neg (by omega)] at he_
  have hr1_ : ((runeD L i).1 : Int) = 0 := by rw [he_] <;> first | rfl | (dsimp only; omega)
  have hr2_ : ((runeD L i).2 : Int) = 0 := by rw [he_] <;> rfl
  exact en (.tuple #[iV 0, iV 0]) [] ⟨_, _, rfl, ⟨by rw [hr1_, hr2_], rfl⟩, h0⟩
 refine go [.v 6 1 (oF (((x10.toNat : Nat) : Int) ≥ 192)), .v 10 1 (oF (((x10.toNat : Nat) : Int) ≥ 224)), .v 14 1 (oF (((x10.toNat : Nat) : Int) ≥ 240))] ?_
 have he_ := rd_of hx11 (rfl) (rfl) (rfl)
 unfold decF at he_
 rw [if_neg (by omega), if_neg (by omega), if_neg (by omega), if_neg (by omega)] at he_
 have hr1_ : ((runeD L i).1 : Int) = 0 := by rw [he_] <;> first | rfl | (dsimp only; omega)
 have hr2_ : ((runeD L i).2 : Int) = 0 := by rw [he_] <;> rfl
 exact en (.tuple #[iV 0, iV 0]) [] ⟨_, _, rfl, ⟨by rw [hr1_, hr2_], rfl⟩, h0⟩

end Go.Proofs.YtfoliffeieeihaaGreatDoor
