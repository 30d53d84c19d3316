import Derived.Test.YthladfegmedpnaaDoorK15
import Derived.Test.YthladfegmedpnaaDoorK6
set_option linter.unusedVariables false
set_option linter.unusedSimpArgs false

/- Plain laws: texts of numbers, and their hashes. -/
namespace Go.Proofs.YthladfegmedpnaaDoor.P
open Go.RowKit Go.Proofs.YthladfegmedpnaaDoorW.PrintWords Go.Proofs.YthladfegmedpnaaDoorW.PrintLast Go.Proofs.YthladfegmedpnaaDoorW.PrintMore Go.Proofs.YthladfegmedpnaaDoor
set_option linter.unusedVariables false
set_option linter.unusedSimpArgs false

/-- the value that is an integer. -/
def vi (n : Int) : S42 := ⟨1, n, ⟨#[]⟩, []⟩
theorem isInt_vi {n : Int} (h : i64 n) : isInt (vi n) = true := by
  have h1 := h.1
  have h2 := h.2
  unfold isInt vi
  simp only [beq_self_eq_true, List.isEmpty_nil, Bool.and_true, Bool.true_and]
  rw [decide_eq_true (show (⟨#[]⟩ : ByteArray).size = 0 from rfl), decide_eq_true h1, decide_eq_true h2]
  rfl
theorem all_vi (l : List Int) (h : ∀ x ∈ l, i64 x) : (l.map vi).all isInt = true := by
  rw [List.all_eq_true]
  intro x hx
  obtain ⟨n, hn, rfl⟩ := List.mem_map.1 hx
  exact isInt_vi (h n hn)
theorem map_vi (l : List Int) : (l.map vi).map (·.f1) = l := by
  rw [List.map_map]
  exact List.map_id l
theorem encode_vi (l : List Int) (hl : l.length ≤ 100) (h : ∀ x ∈ l, i64 x) : codec_Encode.f 3 0 (⟨#[]⟩ : ByteArray) (l.map vi) = some (encInts l, 0) := by
  unfold codec_Encode.f
  rw [if_pos ⟨rfl, rfl, rfl, by rw [List.length_map]; exact hl, all_vi l h⟩, map_vi]
theorem rd_nat (l : List Int) (i : Nat) (h : i < l.length) : rd l (i : Int) = l[i] := by
  unfold rd
  rw [Int.toNat_natCast, List.getD_eq_getElem?_getD, List.getElem?_eq_getElem h]; rfl

theorem take_vi (l : List Int) (i : Nat) (h : i < l.length) : (l.take i).map vi ++ [vi l[i]] = (l.take (i + 1)).map vi := by
  rw [List.take_succ_eq_append_getElem h, List.map_append]; rfl

theorem hash_f (tag : ByteArray) (l : List Int) (ht : tag.size ≤ 64) (hl : l.length ≤ 100) : group_Hash.f tag (encInts l) = some (hsh tag (encInts l)) := by
  unfold group_Hash.f
  rw [if_pos ⟨ht, by have := encInts_length l hl; omega, encInts_bytes l⟩]
theorem hsh_lt (tag : ByteArray) (l : List Int) : 0 ≤ hsh tag l ∧ hsh tag l < 1073741789 := by
  unfold hsh
  generalize Sha.number (Sha.sum (Sha.sum (bytesOf tag) ++ l)) = n
  omega

theorem i64_of {n : Int} (h0 : -9223372036854775808 ≤ n) (h1 : n ≤ 9223372036854775807) : i64 n := ⟨h0, h1⟩
theorem i64_vld {n : Int} (h : vld n = true) : i64 n := by have := vld_lt h; exact ⟨by omega, by omega⟩

end Go.Proofs.YthladfegmedpnaaDoor.P
