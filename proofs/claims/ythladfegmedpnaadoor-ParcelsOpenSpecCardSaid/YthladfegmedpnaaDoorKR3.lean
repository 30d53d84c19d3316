import Derived.Test.YthladfegmedpnaaDoorK13
import Derived.Test.YthladfegmedpnaaDoorKR1
set_option linter.unusedVariables false
set_option linter.unusedSimpArgs false

namespace Go.Proofs.YthladfegmedpnaaDoor.P
open Go.RowKit Go.Proofs.YthladfegmedpnaaDoorW.PrintWords Go.Proofs.YthladfegmedpnaaDoorW.PrintLast Go.Proofs.YthladfegmedpnaaDoorW.PrintMore Go.Proofs.YthladfegmedpnaaDoor

theorem padded_step (k : Nat) (x : List Int) (n : Int) (i : Nat) (hi : i < 8) (hx : x.length < 1000000) :
    signatoryref02_padded.l1 (k + 1) x n (i : Int) = signatoryref02_padded.l1 k (x ++ [n / 2 ^ (8 * i) % 256]) n ((i : Int) - 1) := by
  have e1 : wrap64 (8 * (i : Int)) = ((8 * i : Nat) : Int) := by unfold wrap64; omega
  have e2 : wrap64 ((i : Int) - 1) = (i : Int) - 1 := by unfold wrap64; omega
  have e3 : shr .u64 n ((8 * i : Nat) : Int) = n / 2 ^ (8 * i) := by
    unfold shr
    rw [Int.toNat_natCast, Nat.min_eq_left (show 8 * i ≤ IntKind.u64.bits from by simp [IntKind.bits]; omega)]
  rw [signatoryref02_padded.l1, if_pos (by omega), e1, if_pos (by omega), if_pos (by omega), e2, e3]

theorem padded_count (k : Nat) (x : List Int) (n : Int) (hx : x.length < 900000) : signatoryref02_padded.l1 (k + 9) x n 7 = some (x ++ Sha.be8 n) := by
  have h7 := padded_step (k + 8) x n 7 (by omega) (by omega)
  have h6 := padded_step (k + 7) (x ++ [n / 2 ^ (8 * 7) % 256]) n 6 (by omega) (by simp; omega)
  have h5 := padded_step (k + 6) (x ++ [n / 2 ^ (8 * 7) % 256] ++ [n / 2 ^ (8 * 6) % 256]) n 5 (by omega) (by simp; omega)
  have h4 := padded_step (k + 5) (x ++ [n / 2 ^ (8 * 7) % 256] ++ [n / 2 ^ (8 * 6) % 256] ++ [n / 2 ^ (8 * 5) % 256]) n 4 (by omega) (by simp; omega)
  have h3 := padded_step (k + 4) (x ++ [n / 2 ^ (8 * 7) % 256] ++ [n / 2 ^ (8 * 6) % 256] ++ [n / 2 ^ (8 * 5) % 256] ++ [n / 2 ^ (8 * 4) % 256]) n 3 (by omega) (by simp; omega)
  have h2 := padded_step (k + 3) (x ++ [n / 2 ^ (8 * 7) % 256] ++ [n / 2 ^ (8 * 6) % 256] ++ [n / 2 ^ (8 * 5) % 256] ++ [n / 2 ^ (8 * 4) % 256] ++ [n / 2 ^ (8 * 3) % 256]) n 2 (by omega) (by simp; omega)
  have h1 := padded_step (k + 2) (x ++ [n / 2 ^ (8 * 7) % 256] ++ [n / 2 ^ (8 * 6) % 256] ++ [n / 2 ^ (8 * 5) % 256] ++ [n / 2 ^ (8 * 4) % 256] ++ [n / 2 ^ (8 * 3) % 256] ++ [n / 2 ^ (8 * 2) % 256]) n 1 (by omega) (by simp; omega)
  have h0 := padded_step (k + 1) (x ++ [n / 2 ^ (8 * 7) % 256] ++ [n / 2 ^ (8 * 6) % 256] ++ [n / 2 ^ (8 * 5) % 256] ++ [n / 2 ^ (8 * 4) % 256] ++ [n / 2 ^ (8 * 3) % 256] ++ [n / 2 ^ (8 * 2) % 256] ++ [n / 2 ^ (8 * 1) % 256]) n 0 (by omega) (by simp; omega)
  simp only [Int.cast_ofNat_Int, Int.natCast_zero, Int.reduceSub, Int.natCast_one] at h7 h6 h5 h4 h3 h2 h1 h0
  rw [h7, h6, h5, h4, h3, h2, h1, h0, signatoryref02_padded.l1, if_neg (by omega)]
  simp [Sha.be8]

theorem padded_zeros (l : List Int) (hl : l.length ≤ 100000) (L : Nat) (hL : L % 64 = 56) (hL2 : L ≤ l.length + 100) : ∀ (m k : Nat) (x : List Int), x.length + m = L → m < 64 → m + 12 ≤ k →
    signatoryref02_padded.l0 k l x = some (x ++ List.replicate m 0 ++ Sha.be8 (l.length * 8 : Nat))
  | m, k, x, hx, hm, hk => by
    obtain ⟨k, rfl⟩ : ∃ j, k = j + 1 := ⟨k - 1, by omega⟩
    rw [signatoryref02_padded.l0]
    cases m with
    | zero =>
      rw [if_pos (by omega)]
      have e : IntKind.u64.wrap (IntKind.u64.wrap (l.length : Int) * 8) = ((l.length * 8 : Nat) : Int) := by rw [wrap_u64, wrap_u64]; omega
      obtain ⟨j, rfl⟩ : ∃ j, k = j + 9 := ⟨k - 9, by omega⟩
      rw [e, padded_count j x _ (by omega)]
      simp
    | succ m =>
      rw [if_neg (by omega), if_pos (by omega), padded_zeros l hl L hL hL2 m k (x ++ [0]) (by simp; omega) (by omega) (by omega)]
      simp [List.replicate_succ]

theorem padded_f (l : List Int) (hl : l.length ≤ 100000) : signatoryref02_padded.f 100 l = some (Sha.padded l) := by
  unfold signatoryref02_padded.f
  simp only [Option.bind_some, List.nil_append, List.length_nil]
  rw [if_pos (by omega), if_pos (by omega)]
  rw [padded_zeros l hl (l.length + 1 + Sha.zeros l.length) (by unfold Sha.zeros; omega) (by unfold Sha.zeros; omega) (Sha.zeros l.length) 100 (l ++ [128]) (by simp) (by unfold Sha.zeros; omega) (by unfold Sha.zeros; omega)]
  simp [Sha.padded]

end Go.Proofs.YthladfegmedpnaaDoor.P
