import Derived.Test.YthladfegmedpnaaDoorK16
set_option linter.unusedVariables false
set_option linter.unusedSimpArgs false

/- Plain laws: the reference's texts and hashes. -/
namespace Go.Proofs.YthladfegmedpnaaDoor.P
open Go.RowKit Go.Proofs.YthladfegmedpnaaDoorW.PrintWords Go.Proofs.YthladfegmedpnaaDoorW.PrintLast Go.Proofs.YthladfegmedpnaaDoorW.PrintMore Go.Proofs.YthladfegmedpnaaDoor
set_option linter.unusedVariables false
set_option linter.unusedSimpArgs false

theorem ref_encode_vi (l : List Int) (hl : l.length ≤ 100) (h : ∀ x ∈ l, i64 x) : signatoryref01_Encode.f 3 0 (⟨#[]⟩ : ByteArray) (l.map vi) = some (encInts l, 0) := by
  unfold signatoryref01_Encode.f
  rw [if_pos ⟨rfl, rfl, rfl, by rw [List.length_map]; exact hl, all_vi l h⟩, map_vi]

theorem ref_hash_f (tag : ByteArray) (l : List Int) (ht : tag.size ≤ 64) (hl : l.length ≤ 100) : signatoryref10_Hash.f tag (encInts l) = some (hsh tag (encInts l)) := by
  unfold signatoryref10_Hash.f
  rw [if_pos ⟨ht, by have := encInts_length l hl; omega, encInts_bytes l⟩]
end Go.Proofs.YthladfegmedpnaaDoor.P
