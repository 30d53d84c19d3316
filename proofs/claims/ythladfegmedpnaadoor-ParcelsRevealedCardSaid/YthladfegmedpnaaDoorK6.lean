import Derived.Test.YthladfegmedpnaaDoorK4
import Derived.Laws.BitsAllLaws
set_option linter.unusedVariables false
set_option linter.unusedSimpArgs false

/- What the encoding's functions compute, in plain Lean. -/
namespace Go.Proofs.YthladfegmedpnaaDoor.P
open Go.RowKit Go.Proofs.YthladfegmedpnaaDoorW.PrintWords Go.Proofs.YthladfegmedpnaaDoorW.PrintLast Go.Proofs.YthladfegmedpnaaDoorW.PrintMore Go.Proofs.YthladfegmedpnaaDoor

theorem or128 : ∀ x, x < 256 → (x ||| 128 : Nat) = x % 128 + 128 := by decide +kernel
theorem pow128 (k : Nat) : 128 ^ (k + 1) = 128 * 128 ^ k := by rw [Nat.pow_succ, Nat.mul_comm]

theorem numeral_length : ∀ (k u : Nat), (numeral k u).length ≤ k
  | 0, _ => by simp [numeral]
  | k + 1, u => by
    simp only [numeral]
    split
    · simp
    · have := numeral_length k (u / 128)
      simp; omega

theorem numeral_bytes : ∀ (k u : Nat), Bytes (numeral k u)
  | 0, _ => by simp [numeral, Bytes]
  | k + 1, u => by
    intro x hx
    simp only [numeral] at hx
    split at hx
    · simp at hx; omega
    · rcases List.mem_cons.1 hx with rfl | hx
      · omega
      · exact numeral_bytes k _ x hx

theorem codec_numeral_l0 : ∀ (j k u : Nat) (x : List Int), j < k → u < 128 ^ (j + 1) → x.length + j + 1 < 140737488355328 → codec_numeral.l0 k x (u : Int) = some (x ++ numeral (j + 1) u)
  | j, k, u, x, hk, hu, hx => by
    obtain ⟨k, rfl⟩ : ∃ m, k = m + 1 := ⟨k - 1, by omega⟩
    simp only [codec_numeral.l0, numeral]
    by_cases h : u < 128
    · rw [if_neg (by omega), if_pos (by omega), if_pos h]
      have : ((u : Int) % 256) = (u : Int) := by omega
      rw [this]
    · rw [if_pos (by omega), if_pos (by omega), if_neg h]
      cases j with
      | zero => simp at hu; omega
      | succ j =>
        have e1 : Go.bits .or .u8 ((u : Int) % 256) 128 = ((u % 128 + 128 : Nat) : Int) := by
          have := u8_or_nat (u % 256) 128 (by omega) (by omega)
          rw [or128 _ (by omega)] at this
          have e : u % 256 % 128 = u % 128 := by omega
          rw [e] at this
          rw [← this]; rfl
        have e2 : ((u : Int) / 128) = ((u / 128 : Nat) : Int) := by omega
        rw [e1, e2, codec_numeral_l0 j k (u / 128) _ (by omega) (by rw [pow128] at hu; omega) (by simp; omega)]
        simp

theorem codec_numeral_f (u : Nat) (x : List Int) (hu : u < 18446744073709551616) (hx : x.length < 1000000) : codec_numeral.f 11 x (u : Int) = some (x ++ numeral 10 u) := by
  unfold codec_numeral.f
  exact codec_numeral_l0 9 11 u x (by omega) (Nat.lt_of_lt_of_le hu (by decide)) (by omega)

theorem wrap_u64 (n : Int) : IntKind.u64.wrap n = n % 18446744073709551616 := by simp [IntKind.wrap, IntKind.bits, IntKind.signed]

theorem unsig_lt {n : Int} (h : i64 n) : unsig n < 18446744073709551616 := by
  unfold i64 at h; unfold unsig; split <;> omega

theorem xor_ones (x : Nat) (h : x < 18446744073709551616) : x ^^^ 18446744073709551615 = 18446744073709551615 - x := by
  have h1 := BitVec.toNat_not (x := BitVec.ofNat 64 x)
  rw [BitVec.not_def] at h1
  have h2 : (BitVec.allOnes 64).toNat = 18446744073709551615 := by decide
  rw [BitVec.toNat_xor] at h1
  simp only [BitVec.toNat_ofNat] at h1
  rw [Nat.mod_eq_of_lt (by simpa using h), Nat.xor_comm] at h1
  simpa using h1

theorem codec_unsigned_f {n : Int} (h : i64 n) : codec_unsigned.f n = some (unsig n : Int) := by
  unfold i64 at h
  unfold codec_unsigned.f unsig
  by_cases h0 : 0 ≤ n
  · rw [if_pos h0]
    have e1 : IntKind.u64.wrap (IntKind.u64.wrap n * 2) = ((2 * n.toNat : Nat) : Int) := by rw [wrap_u64, wrap_u64]; omega
    have e2 : IntKind.u64.wrap (n / 9223372036854775808) = ((0 : Nat) : Int) := by rw [wrap_u64]; omega
    rw [e1, e2, u64_xor_nat _ _ (by omega) (by omega), Nat.xor_zero]
  · rw [if_neg h0]
    have e1 : IntKind.u64.wrap (IntKind.u64.wrap n * 2) = ((18446744073709551616 - 2 * (-n).toNat : Nat) : Int) := by rw [wrap_u64, wrap_u64]; omega
    have e2 : IntKind.u64.wrap (n / 9223372036854775808) = ((18446744073709551615 : Nat) : Int) := by rw [wrap_u64]; omega
    rw [e1, e2, u64_xor_nat _ _ (by omega) (by omega), xor_ones _ (by omega)]
    congr 1
    congr 1
    omega

theorem codec_writer1_f {n : Int} (x : List Int) (h : i64 n) (hx : x.length < 999999) : codec_newWriter_1.f 11 x 1 n ⟨#[]⟩ [] = some (x ++ encInt n) := by
  unfold codec_newWriter_1.f
  rw [if_pos (by omega), codec_unsigned_f h]
  simp only [Option.bind_some]
  rw [codec_numeral_f _ _ (unsig_lt h) (by simp; omega)]
  simp [encInt]

/-- the encoding of the first j of some integers. -/
def encTo (l : List Int) (j : Nat) : List Int := 3 :: (numeral 10 l.length ++ ((l.take j).map encInt).flatten)
theorem encTo_all (l : List Int) : encTo l l.length = encInts l := by unfold encTo encInts; rw [List.take_length]
theorem encTo_succ (l : List Int) (j : Nat) (h : j < l.length) : encTo l (j + 1) = encTo l j ++ encInt (l.getD j 0) := by
  unfold encTo
  rw [List.take_succ_eq_append_getElem h, List.map_append, List.flatten_append]
  simp [List.getD_eq_getElem?_getD, List.getElem?_eq_getElem h]
theorem encInt_length (n : Int) : (encInt n).length ≤ 11 := by unfold encInt; have := numeral_length 10 (unsig n); simp; omega
theorem flatten_length : ∀ (l : List Int), ((l.map encInt).flatten).length ≤ 11 * l.length
  | [] => by simp
  | x :: l => by have := flatten_length l; have := encInt_length x; simp at *; omega
theorem encTo_length (l : List Int) (j : Nat) (h : l.length ≤ 100) : (encTo l j).length ≤ 1111 := by
  unfold encTo
  have h1 := numeral_length 10 l.length
  have h2 := flatten_length (l.take j)
  have h3 : (l.take j).length ≤ l.length := by simp; omega
  simp only [List.length_cons, List.length_append]; omega
theorem encInt_bytes (n : Int) : Bytes (encInt n) := by
  intro x hx
  unfold encInt at hx
  rcases List.mem_cons.1 hx with rfl | hx
  · omega
  · exact numeral_bytes _ _ x hx
theorem encInts_bytes (l : List Int) : Bytes (encInts l) := by
  intro x hx
  unfold encInts at hx
  rcases List.mem_cons.1 hx with rfl | hx
  · omega
  · rcases List.mem_append.1 hx with hx | hx
    · exact numeral_bytes _ _ x hx
    · obtain ⟨y, hy, hx⟩ := List.mem_flatten.1 hx
      obtain ⟨n, _, rfl⟩ := List.mem_map.1 hy
      exact encInt_bytes n x hx
theorem encInts_length (l : List Int) (h : l.length ≤ 100) : (encInts l).length ≤ 1111 := by rw [← encTo_all]; exact encTo_length l _ h

end Go.Proofs.YthladfegmedpnaaDoor.P
