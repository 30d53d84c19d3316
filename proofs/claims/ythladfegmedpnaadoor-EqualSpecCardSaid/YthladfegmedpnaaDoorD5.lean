import Derived.Test.YthladfegmedpnaaDoorC16
import Derived.Test.YthladfegmedpnaaDoorD2
import Derived.Test.YthladfegmedpnaaDoorD4
set_option linter.unusedVariables false
set_option linter.unusedSimpArgs false

/- Plain laws: the reference's side. -/
namespace Go.Proofs.YthladfegmedpnaaDoor.P
open Go.RowKit Go.Proofs.YthladfegmedpnaaDoorW.PrintWords Go.Proofs.YthladfegmedpnaaDoorW.PrintLast Go.Proofs.YthladfegmedpnaaDoorW.PrintMore Go.Proofs.YthladfegmedpnaaDoor
set_option linter.unusedVariables false
set_option linter.unusedSimpArgs false

theorem ref_encode_vi (l : List Int) (hl : l.length ≤ 100) (h : ∀ x ∈ l, i64 x) : signatoryref01_Encode.f 3 0 (⟨#[]⟩ : ByteArray) (l.map vi) = some (encInts l, 0) := by
  unfold signatoryref01_Encode.f
  rw [if_pos ⟨rfl, rfl, rfl, by rw [List.length_map]; exact hl, all_vi l h⟩, map_vi]

theorem ref_Ints_l0 (l : List Int) (hl : l.length ≤ 100) : ∀ (d i k : Nat), i + d = l.length → d < k →
    signatoryref01_Ints.l0 k l (i : Int) 3 0 (⟨#[]⟩ : ByteArray) ((l.take i).map vi) = some (3, 0, (⟨#[]⟩ : ByteArray), l.map vi)
  | 0, i, k, hi, hk => by
    obtain ⟨k, rfl⟩ : ∃ j, k = j + 1 := ⟨k - 1, by omega⟩
    rw [signatoryref01_Ints.l0, if_neg (by omega), List.take_of_length_le (by omega)]
  | d + 1, i, k, hi, hk => by
    obtain ⟨k, rfl⟩ : ∃ j, k = j + 1 := ⟨k - 1, by omega⟩
    have hlt : i < l.length := by omega
    have hw : wrap64 ((i : Int) + 1) = ((i + 1 : Nat) : Int) := by unfold wrap64; omega
    have := ref_Ints_l0 l hl d (i + 1) k (by omega) (by omega)
    rw [← take_vi l i hlt] at this
    rw [signatoryref01_Ints.l0, if_pos (by omega), if_pos (by omega), rd_nat l i hlt, hw]
    unfold signatoryref01_Int.f
    rw [Option.bind_some, if_pos (by rw [List.length_map, List.length_take]; omega)]
    exact this
theorem ref12_text_f (k : Nat) (l : List Int) (hl : l.length ≤ 100) (h : ∀ x ∈ l, i64 x) (hk : l.length < k) : signatoryref12_text.f k l = some (encInts l) := by
  unfold signatoryref12_text.f signatoryref01_Ints.f
  have e := ref_Ints_l0 l hl l.length 0 k (by omega) hk
  rw [List.take_zero] at e
  rw [show (0 : Int) = ((0 : Nat) : Int) from rfl] at e ⊢
  rw [show signatoryref01_Ints.l0 k l ((0 : Nat) : Int) 3 ((0 : Nat) : Int) (⟨#[]⟩ : ByteArray) [] = some (3, 0, (⟨#[]⟩ : ByteArray), l.map vi) from e, Option.bind_some]
  show (signatoryref01_Encode.f 3 0 (⟨#[]⟩ : ByteArray) (l.map vi)).bind _ = _
  rw [ref_encode_vi l hl h]; rfl

theorem ref_hash_f (tag : ByteArray) (l : List Int) (ht : tag.size ≤ 64) (hl : l.length ≤ 100) : signatoryref10_Hash.f tag (encInts l) = some (hsh tag (encInts l)) := by
  unfold signatoryref10_Hash.f
  rw [if_pos ⟨ht, by have := encInts_length l hl; omega, encInts_bytes l⟩]
end Go.Proofs.YthladfegmedpnaaDoor.P

/- Plain laws: the reference's side. -/
namespace Go.Proofs.YthladfegmedpnaaDoor.P
open Go.RowKit Go.Proofs.YthladfegmedpnaaDoorW.PrintWords Go.Proofs.YthladfegmedpnaaDoorW.PrintLast Go.Proofs.YthladfegmedpnaaDoorW.PrintMore Go.Proofs.YthladfegmedpnaaDoor
set_option linter.unusedVariables false
set_option linter.unusedSimpArgs false

theorem ref12_Prove_j0_no (k : Nat) (hk : 1 ≤ k) (s a : Int) : signatoryref12_Prove.j0 k s a true = some (0, 0, 0, 110) := by
  obtain ⟨k, rfl⟩ : ∃ j, k = j + 1 := ⟨k - 1, by omega⟩
  rw [signatoryref12_Prove.j0, if_pos rfl]
theorem ref12_Prove_j1 (k : Nat) (hk : 60 ≤ k) (s a n : Int) (ha : i64 a) (hv : vld a = true) (hs : isSecret s = true) (hn : n = nonce s a) :
    signatoryref12_Prove.j1 k s a (pwz 4 s) (pwz a s) n = some (pwz a s, prvE s a, (nonce s a + prvE s a * s) % 1073741789, 0) := by
  subst hn
  have hsl := secret_lt hs
  have hnl := nonce_lt s a
  obtain ⟨k, rfl⟩ : ∃ j, k = j + 1 := ⟨k - 1, by omega⟩
  rw [signatoryref12_Prove.j1, ref10_Pow_f k (by omega), if_pos vld_four, Option.bind_some, ref10_Pow_f k (by omega), if_pos hv, Option.bind_some]
  simp only
  rw [ref12_text_f k _ (by simp) (five (i64_vld (vld_pw vld_four s)) ha (i64_vld (vld_pw hv s)) (i64_vld (vld_pw vld_four _)) (i64_vld (vld_pw hv _))) (by simp; omega), Option.bind_some]
  rw [ref_hash_f _ _ (by decide) (by simp), Option.bind_some]
  rw [show hsh ⟨#[101, 113, 117, 97, 108]⟩ (encInts [pwz 4 s, a, pwz a s, pwz 4 (nonce s a), pwz a (nonce s a)]) = prvE s a from rfl]
  unfold signatoryref12_mod.f
  rw [Option.bind_some, Option.bind_some, s_ref ⟨by omega, by omega⟩ (prvE_lt s a) ⟨by omega, by omega⟩]

theorem ref12_Prove_f (k : Nat) (hk : 70 ≤ k) (s a : Int) (ha : i64 a) : signatoryref12_Prove.f k s a = some (prv s a) := by
  unfold signatoryref12_Prove.f prv
  by_cases h1 : s < 1
  · rw [if_pos h1, ref12_Prove_j0_no k (by omega), if_neg (fun e => by have := secret_lt e; omega)]
  · rw [if_neg h1]
    by_cases h2 : s ≥ 1073741789
    · rw [decide_eq_true h2, ref12_Prove_j0_no k (by omega), if_neg (fun e => by have := secret_lt e; omega)]
    · have hs : isSecret s = true := by unfold isSecret; simp; omega
      have hsi := secret_i64 hs
      rw [decide_eq_false h2, if_pos hs]
      obtain ⟨k, rfl⟩ : ∃ j, k = j + 1 := ⟨k - 1, by omega⟩
      rw [signatoryref12_Prove.j0, if_neg (by decide), ref10_Pow_f k (by omega), if_pos vld_four, Option.bind_some, ref10_Pow_f k (by omega)]
      by_cases hv : vld a = true
      · rw [if_pos hv, if_pos hv, Option.bind_some]
        simp only
        rw [if_pos trivial, ref12_text_f k [s, a] (by simp) (two hsi ha) (by simp; omega), Option.bind_some]
        rw [show (⟨#[101, 113, 117, 97, 108, 32, 110, 111, 110, 99, 101]⟩ : ByteArray) = tagNonce from rfl, ref_hash_f tagNonce [s, a] (by decide) (by simp), Option.bind_some]
        by_cases hz : hsh tagNonce (encInts [s, a]) = 0
        · rw [if_pos hz]
          exact ref12_Prove_j1 k (by omega) s a 1 ha hv hs (by unfold nonce; rw [if_pos hz])
        · rw [if_neg hz]
          exact ref12_Prove_j1 k (by omega) s a _ ha hv hs (by unfold nonce; rw [if_neg hz])
      · rw [if_neg hv, if_neg hv, Option.bind_some]
        simp only
        rw [if_neg (by decide)]

theorem ref12_Check_f (k : Nat) (hk : 40 ≤ k) (key a d e s : Int) : signatoryref12_Check.f k key a d e s = some (chk key a d e s) := by
  unfold signatoryref12_Check.f
  rw [ref12_Formed_f k hk, Option.bind_some, chk_frm]
  cases hf : frm key a d e s
  · rw [if_neg (by decide)]; rfl
  · obtain ⟨h1, h2, h3, h4, h5⟩ := frm_iff.1 hf
    have hc := com_i64 hf
    rw [if_pos rfl, ref12_Commits_f k hk hf, Option.bind_some]
    simp only
    rw [ref12_text_f k _ (by simp) (five (i64_vld h1) (i64_vld h2) (i64_vld h3) hc.1 hc.2) (by simp; omega), Option.bind_some, ref_hash_f _ _ (by decide) (by simp), Option.bind_some]
    rfl

end Go.Proofs.YthladfegmedpnaaDoor.P
