import Derived.Test.YthladfegmedpnaaDoorK5
import Derived.Test.YthladfegmedpnaaDoorK6
import Derived.Test.YthladfegmedpnaaDoorK4
import Derived.Laws.BitsAllLaws
set_option linter.unusedVariables false
set_option linter.unusedSimpArgs false

/- What the hash's functions of words compute. -/
namespace Go.Proofs.YthladfegmedpnaaDoor.P
open Go.RowKit Go.Proofs.YthladfegmedpnaaDoorW.PrintWords Go.Proofs.YthladfegmedpnaaDoorW.PrintLast Go.Proofs.YthladfegmedpnaaDoorW.PrintMore Go.Proofs.YthladfegmedpnaaDoor

theorem bits_or_comm (a b : Int) : Go.bits .or .u32 a b = Go.bits .or .u32 b a := by
  unfold Go.bits; simp [BitVec.or_comm]
theorem or_add (x c : Int) (h0 : 0 ≤ x) (h1 : x < 16777216) (h2 : 0 ≤ c) (h3 : c < 256) : Go.bits .or .u32 (x * 256) c = x * 256 + c := by
  rw [u32_or _ _ (by omega) (by omega) (by omega) (by omega), nat_join 8 _ _ (by omega) (by omega)]
  omega

theorem bytes_getD {l : List Int} (h : Bytes l) (i : Nat) : 0 ≤ l.getD i 0 ∧ l.getD i 0 < 256 := by
  rw [List.getD_eq_getElem?_getD]
  rcases Nat.lt_or_ge i l.length with hi | hi
  · rw [List.getElem?_eq_getElem hi]; exact h _ (List.getElem_mem hi)
  · rw [List.getElem?_eq_none hi]; simp
theorem Bytes.take {l : List Int} (h : Bytes l) (n : Nat) : Bytes (l.take n) := fun x hx => h x (List.mem_of_mem_take hx)
theorem Bytes.drop {l : List Int} (h : Bytes l) (n : Nat) : Bytes (l.drop n) := fun x hx => h x (List.mem_of_mem_drop hx)
theorem Bytes.append {l m : List Int} (h : Bytes l) (k : Bytes m) : Bytes (l ++ m) := fun x hx => (List.mem_append.1 hx).elim (h x) (k x)

theorem digest_word_f {l : List Int} (h : Bytes l) (hl : 4 ≤ l.length) : digest_word.f 6 l = some (Sha.wd l 0) := by
  unfold digest_word.f
  rw [if_pos (by omega)]
  have h4 : (l.take 4).length = 4 := by rw [List.length_take]; omega
  have g : ∀ i, i < 4 → (l.take 4).getD i 0 = l.getD i 0 := fun i hi => by simp [List.getD_eq_getElem?_getD, List.getElem?_take, hi]
  have b0 := bytes_getD h 0
  have b1 := bytes_getD h 1
  have b2 := bytes_getD h 2
  have b3 := bytes_getD h 3
  have w1 : wrap64 (0 + 1) = 1 := by unfold wrap64; omega
  have w2 : wrap64 (1 + 1) = 2 := by unfold wrap64; omega
  have w3 : wrap64 (2 + 1) = 3 := by unfold wrap64; omega
  have w4 : wrap64 (3 + 1) = 4 := by unfold wrap64; omega
  have r0 : rd (l.take 4) 0 = l.getD 0 0 := g 0 (by omega)
  have r1 : rd (l.take 4) 1 = l.getD 1 0 := g 1 (by omega)
  have r2 : rd (l.take 4) 2 = l.getD 2 0 := g 2 (by omega)
  have r3 : rd (l.take 4) 3 = l.getD 3 0 := g 3 (by omega)
  have m : ∀ x c : Int, 0 ≤ x → x < 16777216 → 0 ≤ c → c < 256 → Go.bits .or .u32 ((x * 256) % 4294967296) (c % 4294967296) = x * 256 + c := fun x c h0 h1 h2 h3 => by
    rw [Int.emod_eq_of_lt (by omega) (by omega), Int.emod_eq_of_lt h2 (by omega)]
    exact or_add x c h0 h1 h2 h3
  simp only [digest_word.l0, h4]
  rw [if_pos (by omega), if_pos (by omega), if_pos (by omega), r0, m 0 _ (by omega) (by omega) b0.1 b0.2, w1]
  rw [if_pos (by omega), if_pos (by omega), if_pos (by omega), r1, m _ _ (by omega) (by omega) b1.1 b1.2, w2]
  rw [if_pos (by omega), if_pos (by omega), if_pos (by omega), r2, m _ _ (by omega) (by omega) b2.1 b2.2, w3]
  rw [if_pos (by omega), if_pos (by omega), if_pos (by omega), r3, m _ _ (by omega) (by omega) b3.1 b3.2, w4]
  rw [if_neg (by omega)]
  simp [Sha.wd]

theorem ref02_word_f {l : List Int} (h : Bytes l) (hl : 4 ≤ l.length) : signatoryref02_word.f l = some (Sha.wd l 0) := by
  unfold signatoryref02_word.f
  rw [if_pos (by omega), if_pos (by omega), if_pos (by omega), if_pos (by omega)]
  have b0 := bytes_getD h 0
  have b1 := bytes_getD h 1
  have b2 := bytes_getD h 2
  have b3 := bytes_getD h 3
  have r0 : rd l 0 = l.getD 0 0 := rfl
  have r1 : rd l 1 = l.getD 1 0 := rfl
  have r2 : rd l 2 = l.getD 2 0 := rfl
  have r3 : rd l 3 = l.getD 3 0 := rfl
  rw [r0, r1, r2, r3]
  congr 1
  simp only [Sha.wd]
  generalize l.getD 0 0 = a at b0
  generalize l.getD 1 0 = b at b1
  generalize l.getD 2 0 = c at b2
  generalize l.getD 3 0 = d at b3
  rw [Int.emod_eq_of_lt (a := a) (by omega) (by omega), Int.emod_eq_of_lt (a := b) (by omega) (by omega), Int.emod_eq_of_lt (a := c) (by omega) (by omega), Int.emod_eq_of_lt (a := d) (by omega) (by omega)]
  rw [Int.emod_eq_of_lt (a := a * 16777216) (by omega) (by omega), Int.emod_eq_of_lt (a := b * 65536) (by omega) (by omega), Int.emod_eq_of_lt (a := c * 256) (by omega) (by omega)]
  rw [u32_or (a * 16777216) (b * 65536) (by omega) (by omega) (by omega) (by omega), nat_join 24 _ _ (by omega) (by omega)]
  rw [u32_or _ (c * 256) (by omega) (by omega) (by omega) (by omega), nat_join 16 _ _ (by omega) (by omega)]
  rw [u32_or _ d (by omega) (by omega) (by omega) (by omega), nat_join 8 _ _ (by omega) (by omega)]
  omega

theorem ref02_ror_f (x n : Int) (h0 : 0 ≤ n) (h1 : n ≤ 32) : signatoryref02_ror.f x n = some (Sha.rr x n) := by
  unfold signatoryref02_ror.f
  have e : wrap64 (32 - n) = 32 - n := by unfold wrap64; omega
  rw [if_pos h0, e, if_pos (by omega)]
  rfl

/-- the turns that the hash takes. -/
def turn (n : Int) : Bool := n == 2 || n == 6 || n == 7 || n == 11 || n == 13 || n == 17 || n == 18 || n == 19 || n == 22 || n == 25
theorem rotl_f (x n : Int) (h : turn n = true) : bits_RotateLeft32.f x (-n) = some (Sha.rr x n) := by
  have key : Go.bits .and .u64 (IntKind.u64.wrap (-n)) 31 = 32 - n ∧ 0 ≤ n ∧ n ≤ 32 := by
    simp only [turn, Bool.or_eq_true, beq_iff_eq] at h
    rcases h with ((((((((rfl | rfl) | rfl) | rfl) | rfl) | rfl) | rfl) | rfl) | rfl) | rfl <;> exact ⟨by decide, by decide, by decide⟩
  obtain ⟨e, h0, h1⟩ := key
  unfold bits_RotateLeft32.f
  have e2 : IntKind.u64.wrap (32 - (32 - n)) = n := by rw [wrap_u64]; omega
  rw [e, if_pos (by omega), e2, if_pos h0, bits_or_comm]
  rfl

theorem rotated_f (x a b c : Int) (ha : turn a = true) (hb : turn b = true) (hc : turn c = true) : digest_rotated.f x a b c = some (Sha.sg x a b c) := by
  have key : ∀ n, turn n = true → wrap64 (-n) = -n := fun n h => by
    simp only [turn, Bool.or_eq_true, beq_iff_eq] at h
    rcases h with ((((((((rfl | rfl) | rfl) | rfl) | rfl) | rfl) | rfl) | rfl) | rfl) | rfl <;> (unfold wrap64; omega)
  unfold digest_rotated.f
  rw [key a ha, key b hb, key c hc, rotl_f x a ha, rotl_f x b hb, rotl_f x c hc]
  rfl

theorem ch_nat (e f g : Nat) (he : e < 4294967296) (hf : f < 4294967296) (hg : g < 4294967296) : g ^^^ (e &&& (f ^^^ g)) = (e &&& f) ^^^ ((4294967295 - e) &&& g) := by
  have h := BitVec.toNat_not (x := BitVec.ofNat 32 e)
  simp only [BitVec.toNat_ofNat] at h
  rw [Nat.mod_eq_of_lt (show e < 2 ^ 32 by simpa using he)] at h
  have h2 : 4294967295 - e = (~~~ (BitVec.ofNat 32 e)).toNat := by rw [h]
  rw [h2]
  have e1 : e = (BitVec.ofNat 32 e).toNat := by rw [BitVec.toNat_ofNat]; omega
  have e2 : f = (BitVec.ofNat 32 f).toNat := by rw [BitVec.toNat_ofNat]; omega
  have e3 : g = (BitVec.ofNat 32 g).toNat := by rw [BitVec.toNat_ofNat]; omega
  generalize BitVec.ofNat 32 e = E at *
  generalize BitVec.ofNat 32 f = F at *
  generalize BitVec.ofNat 32 g = G at *
  rw [e1, e2, e3, ← BitVec.toNat_xor, ← BitVec.toNat_and, ← BitVec.toNat_xor, ← BitVec.toNat_and, ← BitVec.toNat_and, ← BitVec.toNat_xor]
  congr 1
  ext i hi
  simp only [BitVec.getElem_xor, BitVec.getElem_and, BitVec.getElem_not]
  cases E[i] <;> cases F[i] <;> cases G[i] <;> rfl
theorem maj_nat (a b c : Nat) : (a &&& b) ||| (c &&& (a ||| b)) = (a &&& b) ^^^ (a &&& c) ^^^ (b &&& c) := by
  apply Nat.eq_of_testBit_eq
  intro i
  simp only [Nat.testBit_xor, Nat.testBit_and, Nat.testBit_or]
  cases a.testBit i <;> cases b.testBit i <;> cases c.testBit i <;> rfl

theorem and_lt (a b : Nat) (h : a < 4294967296) : a &&& b < 4294967296 := Nat.lt_of_le_of_lt Nat.and_le_left h
theorem xor_lt (a b : Nat) (h : a < 4294967296) (k : b < 4294967296) : a ^^^ b < 4294967296 := Nat.xor_lt_two_pow (n := 32) h k
theorem or_lt (a b : Nat) (h : a < 4294967296) (k : b < 4294967296) : a ||| b < 4294967296 := Nat.or_lt_two_pow (n := 32) h k

theorem ch_eq (e f g : Int) (he : 0 ≤ e ∧ e < 4294967296) (hf : 0 ≤ f ∧ f < 4294967296) (hg : 0 ≤ g ∧ g < 4294967296) :
    Go.bits .xor .u32 g (Go.bits .and .u32 e (Go.bits .xor .u32 f g)) = Sha.ch e f g := by
  obtain ⟨E, rfl⟩ := Int.eq_ofNat_of_zero_le he.1
  obtain ⟨F, rfl⟩ := Int.eq_ofNat_of_zero_le hf.1
  obtain ⟨G, rfl⟩ := Int.eq_ofNat_of_zero_le hg.1
  have e1 : E < 4294967296 := by omega
  have e2 : F < 4294967296 := by omega
  have e3 : G < 4294967296 := by omega
  have e4 : (4294967295 - (E : Int)) = ((4294967295 - E : Nat) : Int) := by omega
  unfold Sha.ch
  rw [e4, u32_xor_nat F G e2 e3, u32_and_nat E _ e1 (xor_lt _ _ e2 e3), u32_xor_nat G _ e3 (and_lt _ _ e1)]
  show _ = Go.bits .xor .u32 (Go.bits .and .u32 _ _) (Go.bits .and .u32 _ _)
  rw [u32_and_nat E F e1 e2, u32_and_nat _ G (by omega) e3, u32_xor_nat _ _ (and_lt _ _ e1) (and_lt _ _ (by omega)), ch_nat E F G e1 e2 e3]
theorem maj_eq (a b c : Int) (ha : 0 ≤ a ∧ a < 4294967296) (hb : 0 ≤ b ∧ b < 4294967296) (hc : 0 ≤ c ∧ c < 4294967296) :
    Go.bits .or .u32 (Go.bits .and .u32 a b) (Go.bits .and .u32 c (Go.bits .or .u32 a b)) = Sha.maj a b c := by
  obtain ⟨A, rfl⟩ := Int.eq_ofNat_of_zero_le ha.1
  obtain ⟨B, rfl⟩ := Int.eq_ofNat_of_zero_le hb.1
  obtain ⟨C, rfl⟩ := Int.eq_ofNat_of_zero_le hc.1
  have e1 : A < 4294967296 := by omega
  have e2 : B < 4294967296 := by omega
  have e3 : C < 4294967296 := by omega
  unfold Sha.maj
  rw [u32_and_nat A B e1 e2, u32_or_nat A B e1 e2, u32_and_nat C _ e3 (or_lt _ _ e1 e2), u32_or_nat _ _ (and_lt _ _ e1) (and_lt _ _ e3)]
  show _ = Go.bits .xor .u32 (Go.bits .xor .u32 (Go.bits .and .u32 _ _) (Go.bits .and .u32 _ _)) (Go.bits .and .u32 _ _)
  rw [u32_and_nat A B e1 e2, u32_and_nat A C e1 e3, u32_and_nat B C e2 e3, u32_xor_nat _ _ (and_lt _ _ e1) (and_lt _ _ e1), u32_xor_nat _ _ (xor_lt _ _ (and_lt _ _ e1) (and_lt _ _ e1)) (and_lt _ _ e2), maj_nat]

end Go.Proofs.YthladfegmedpnaaDoor.P
