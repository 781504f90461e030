/-
  A step of a script, as its cells lie. No program in sight.
-/
import Derived.Test.YtjjpmehiolejgaaGreatBundle24
namespace Go.Proofs.YtjjpmehiolejgaaGreat
structure Sq2 where
  k : Int
  o : Ky
  tag : List UInt8
  hd : Int × Int
  d : Ky
  vn : Int
  r : Rs
def eSp (s : Sq2) : List Value := [.int .i64 s.k, .int .i64 s.o.1, .int .i64 s.o.2.1, .int .u32 s.o.2.2, .string (St s.tag), .int .i64 s.hd.1, .int .u32 s.hd.2, .int .i64 s.d.1, .int .i64 s.d.2.1, .int .u32 s.d.2.2, .int .i64 s.vn,
  .int .i64 s.r.out.1, .int .i64 s.r.out.2.1, .int .u32 s.r.out.2.2, .int .i64 s.r.st, .int .i64 s.r.why, .int .i64 s.r.tr, .int .i64 s.r.nx, .string (St s.r.tag)]
theorem eSp_ok : Enc 19 eSp := ⟨fun _ => rfl, fun x v hv => by
  simp [eSp] at hv
  rcases hv with rfl | rfl | rfl | rfl | rfl | rfl | rfl | rfl | rfl | rfl | rfl | rfl | rfl | rfl | rfl | rfl | rfl | rfl | rfl <;> rfl⟩
/-- Its numbers of 32 bits. -/
def SpOk (s : Sq2) : Prop := (0 ≤ s.o.2.2 ∧ s.o.2.2 ≤ 4294967295) ∧ (0 ≤ s.hd.2 ∧ s.hd.2 ≤ 4294967295) ∧ (0 ≤ s.d.2.2 ∧ s.d.2.2 ≤ 4294967295) ∧ (0 ≤ s.r.out.2.2 ∧ s.r.out.2.2 ≤ 4294967295)
/-- Its tags are short. -/
def SpSh (s : Sq2) : Prop := s.tag.length ≤ 60 ∧ s.r.tag.length ≤ 60
theorem sh_step {T : List Sq2} {i : Nat} {x : Sq2} (h : ∀ s ∈ T.take i, SpSh s) (hx : T[i]? = some x) (h1 : SpSh x) : ∀ s ∈ T.take (i + 1), SpSh s := by
  intro s hs
  rw [List.take_add_one, hx] at hs
  rcases List.mem_append.1 hs with hs | hs
  · exact h s hs
  · rw [Option.toList_some, List.mem_singleton] at hs; rw [hs]; exact h1
theorem sh_all {T : List Sq2} {i : Nat} (h : ∀ s ∈ T.take i, SpSh s) (hi : T.length ≤ i) : ∀ s ∈ T, SpSh s := by rwa [List.take_of_length_le hi] at h
end Go.Proofs.YtjjpmehiolejgaaGreat
