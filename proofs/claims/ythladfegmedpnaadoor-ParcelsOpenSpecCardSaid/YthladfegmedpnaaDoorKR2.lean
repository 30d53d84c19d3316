import Derived.Test.YthladfegmedpnaaDoorK6
import Derived.Test.YthladfegmedpnaaDoorK7
import Derived.Laws.EntriesVeiled
import Derived.RangeFuncBox
import Derived.Test.YthladfegmedpnaaDoorKR1
set_option linter.unusedVariables false
set_option linter.unusedSimpArgs false

namespace Go.Proofs.YthladfegmedpnaaDoor.P
open Go.RowKit Go.Proofs.YthladfegmedpnaaDoorW.PrintWords Go.Proofs.YthladfegmedpnaaDoorW.PrintLast Go.Proofs.YthladfegmedpnaaDoorW.PrintMore Go.Proofs.YthladfegmedpnaaDoor
set_option linter.unusedVariables false
set_option linter.unusedSimpArgs false

theorem ref01_numeral_f : ∀ (j k u : Nat), j < k → u < 128 ^ (j + 1) → j ≤ 100 → u < 18446744073709551616 → signatoryref01_numeral.f k (u : Int) = some (numeral (j + 1) u)
  | j, k, u, hk, hu, hj, hb => by
    obtain ⟨k, rfl⟩ : ∃ m, k = m + 1 := ⟨k - 1, by omega⟩
    simp only [signatoryref01_numeral.f, numeral]
    by_cases h : u < 128
    · rw [if_pos (by omega), if_pos h]
      have : ((u : Int) % 256) = (u : Int) := by omega
      rw [this]
    · rw [if_neg (by omega), if_neg h]
      cases j with
      | zero => simp at hu; omega
      | succ j =>
        have e0 : Int.tmod (u : Int) 128 = (u : Int) % 128 := Int.tmod_eq_emod_of_nonneg (by omega)
        have e00 : Int.tdiv (u : Int) 128 = (u : Int) / 128 := Int.tdiv_eq_ediv_of_nonneg (by omega)
        have e1 : IntKind.u64.wrap (Int.tmod (u : Int) 128 + 128) % 256 = ((u % 128 + 128 : Nat) : Int) := by
          rw [e0, wrap_u64]; omega
        have hlt : u / 128 < 128 ^ (j + 1) := by rw [pow128] at hu; omega
        have e2 : signatoryref01_numeral.f k (IntKind.u64.wrap (Int.tdiv (u : Int) 128)) = some (numeral (j + 1) (u / 128)) := by
          rw [e00, wrap_u64]
          have : (u : Int) / 128 % 18446744073709551616 = ((u / 128 : Nat) : Int) := by omega
          rw [this]
          exact ref01_numeral_f j k (u / 128) (by omega) hlt (by omega) (by omega)
        rw [e1, e2]
        have hl := numeral_length (j + 1) (u / 128)
        simp
        omega

theorem ref01_unsigned_f {n : Int} (h : i64 n) : signatoryref01_unsigned.f n = some (unsig n : Int) := by
  unfold i64 at h
  unfold signatoryref01_unsigned.f unsig
  by_cases h0 : 0 ≤ n
  · rw [if_pos h0, if_pos h0]
    congr 1
    rw [wrap_u64, wrap_u64]; omega
  · rw [if_neg h0, if_neg h0]
    congr 1
    have e1 : wrap64 (n + 1) = n + 1 := by unfold wrap64; omega
    have e2 : wrap64 (-(n + 1)) = -(n + 1) := by unfold wrap64; omega
    rw [e1, e2, wrap_u64, wrap_u64, wrap_u64]; omega

theorem ref01_encode_int {n : Int} (h : i64 n) (k : Nat) (hk : 12 ≤ k) : signatoryref01_encode.f k 1 n ⟨#[]⟩ [] = some (encInt n) := by
  obtain ⟨k, rfl⟩ : ∃ m, k = m + 1 := ⟨k - 1, by omega⟩
  simp only [signatoryref01_encode.f, if_true, ref01_unsigned_f h, Option.bind_some]
  rw [ref01_numeral_f 9 k (unsig n) (by omega) (Nat.lt_of_lt_of_le (unsig_lt h) (by decide)) (by omega) (unsig_lt h)]
  simp only [Option.bind_some]
  have hl := numeral_length 10 (unsig n)
  rw [if_pos (by simp; omega)]
  rfl

theorem wrap64_nat {n : Int} (h0 : 0 ≤ n) (h1 : n < 9223372036854775808) : wrap64 n = n := by unfold wrap64; omega

theorem elem_at {l : List S42} (hi : l.all isInt = true) (j : Nat) (hj : j < l.length) :
    (rd_T42 l (j : Int)).f0 = 1 ∧ (rd_T42 l (j : Int)).f1 = (l.map (·.f1)).getD j 0 ∧ (rd_T42 l (j : Int)).f2 = ⟨#[]⟩ ∧ (rd_T42 l (j : Int)).f3 = [] ∧ i64 ((l.map (·.f1)).getD j 0) := by
  obtain ⟨e0, e2, e3, e1⟩ := isInt_at hi j (by omega) (by omega)
  have EN : (rd_T42 l j).f1 = (l.map (·.f1)).getD j 0 := by
    unfold rd_T42
    simp [List.getD_eq_getElem?_getD, List.getElem?_eq_getElem hj]
  exact ⟨e0, EN, e2, e3, EN ▸ e1⟩

theorem ref01_encode_l0 (l : List S42) (hl : l.length ≤ 100) (hi : l.all isInt = true) : ∀ (m j k : Nat), j + m = l.length → m + 13 ≤ k →
    signatoryref01_encode.l0 k (encTo (l.map (·.f1)) j) (j : Int) 3 0 ⟨#[]⟩ l = some (encInts (l.map (·.f1)))
  | m, j, k, hj, hk => by
    obtain ⟨k, rfl⟩ : ∃ m, k = m + 1 := ⟨k - 1, by omega⟩
    rw [signatoryref01_encode.l0]
    cases m with
    | zero =>
      rw [if_neg (by omega)]
      have : j = (l.map (·.f1)).length := by simp; omega
      rw [this, encTo_all]
    | succ m =>
      obtain ⟨e0, e1, e2, e3, e4⟩ := elem_at hi j (by omega)
      rw [if_pos (by omega), if_pos (by omega), e0, e1, e2, e3, ref01_encode_int e4 k (by omega)]
      simp only [Option.bind_some]
      have h1 := encTo_length (l.map (·.f1)) j (by simpa using hl)
      have h2 := encInt_length ((l.map (·.f1)).getD j 0)
      rw [if_pos (by omega), ← encTo_succ _ _ (by simp; omega), wrap64_nat (by omega) (by omega), show ((j : Int) + 1) = ((j + 1 : Nat) : Int) from by omega]
      exact ref01_encode_l0 l hl hi m (j + 1) k (by omega) (by omega)

theorem ref01_encode_f (l : List S42) (hl : l.length ≤ 100) (hi : l.all isInt = true) : signatoryref01_encode.f 200 3 0 ⟨#[]⟩ l = some (encInts (l.map (·.f1))) := by
  rw [signatoryref01_encode.f, if_neg (by omega), if_neg (by omega)]
  have e : IntKind.u64.wrap (l.length : Int) = (l.length : Int) := by rw [wrap_u64]; omega
  rw [e, ref01_numeral_f 9 199 l.length (by omega) (Nat.lt_of_le_of_lt hl (by decide)) (by omega) (by omega)]
  simp only [Option.bind_some]
  have h1 := numeral_length 10 l.length
  rw [if_pos (by simp; omega)]
  have := ref01_encode_l0 l hl hi l.length 0 199 (by omega) (by omega)
  rw [← this]
  simp [encTo]

theorem bytes_nil : (⟨#[]⟩ : ByteArray).toList = [] := by unfold ByteArray.toList ByteArray.toList.loop; rfl
theorem ref01_Formed_int (n : Int) (k : Nat) (hk : 1 ≤ k) : signatoryref01_Formed.f k 1 n ⟨#[]⟩ [] = some true := by
  obtain ⟨k, rfl⟩ : ∃ m, k = m + 1 := ⟨k - 1, by omega⟩
  rw [signatoryref01_Formed.f, if_pos rfl, if_pos bytes_nil]
  rfl
theorem ref01_Formed_l0 (l : List S42) (hl : l.length ≤ 100) (hi : l.all isInt = true) : ∀ (m j k : Nat), j + m = l.length → m + 13 ≤ k →
    signatoryref01_Formed.l0 k (j : Int) 3 0 ⟨#[]⟩ l = some true
  | m, j, k, hj, hk => by
    obtain ⟨k, rfl⟩ : ∃ m, k = m + 1 := ⟨k - 1, by omega⟩
    rw [signatoryref01_Formed.l0]
    cases m with
    | zero => rw [if_neg (by omega), if_pos rfl, bytes_nil]; rfl
    | succ m =>
      obtain ⟨e0, e1, e2, e3, e4⟩ := elem_at hi j (by omega)
      rw [if_pos (by omega), if_pos (by omega), e0, e2, e3, ref01_Formed_int _ k (by omega)]
      simp only [Option.bind_some, if_true]
      rw [wrap64_nat (by omega) (by omega), show ((j : Int) + 1) = ((j + 1 : Nat) : Int) from by omega]
      exact ref01_Formed_l0 l hl hi m (j + 1) k (by omega) (by omega)
theorem ref01_Depth_l0 (l : List S42) (hl : l.length ≤ 100) (hi : l.all isInt = true) : ∀ (m j k : Nat), j + m = l.length → m + 13 ≤ k →
    signatoryref01_Depth.l0 k 0 (j : Int) 3 0 ⟨#[]⟩ l = some 1
  | m, j, k, hj, hk => by
    obtain ⟨k, rfl⟩ : ∃ m, k = m + 1 := ⟨k - 1, by omega⟩
    rw [signatoryref01_Depth.l0]
    cases m with
    | zero => rw [if_neg (by omega), wrap64_nat (by omega) (by omega)]; rfl
    | succ m =>
      obtain ⟨e0, e1, e2, e3, e4⟩ := elem_at hi j (by omega)
      have ed : ∀ n s ll, signatoryref01_Depth.f k 1 n s ll = some 0 := fun n s ll => by
        obtain ⟨k, rfl⟩ : ∃ m, k = m + 1 := ⟨k - 1, by omega⟩
        rw [signatoryref01_Depth.f, if_neg (by omega)]
      rw [if_pos (by omega), if_pos (by omega), e0, ed]
      simp only [Option.bind_some]
      rw [wrap64_nat (by omega) (by omega), show ((j : Int) + 1) = ((j + 1 : Nat) : Int) from by omega]
      exact ref01_Depth_l0 l hl hi m (j + 1) k (by omega) (by omega)
theorem ref01_Check_f (l : List S42) (hl : l.length ≤ 100) (hi : l.all isInt = true) : signatoryref01_Check.f 200 3 0 ⟨#[]⟩ l = some 0 := by
  unfold signatoryref01_Check.f
  rw [signatoryref01_Formed.f, if_neg (by omega), if_neg (by omega), if_pos rfl]
  have h0 := ref01_Formed_l0 l hl hi l.length 0 199 (by omega) (by omega)
  rw [Int.natCast_zero] at h0
  rw [h0]
  simp only [Option.bind_some, if_true]
  rw [signatoryref01_Depth.f, if_pos rfl]
  have := ref01_Depth_l0 l hl hi l.length 0 199 (by omega) (by omega)
  rw [Int.natCast_zero] at this
  rw [this]
  rfl

set_option maxHeartbeats 4000000 in
set_option maxRecDepth 100000 in
theorem ref01_Encode_ints (A : Option Addr) (c : Nat) (l : List S42) (w : World) (hr : Kd.C k42 w A l.length l) (hc : l.length ≤ c) (hl : l.length ≤ 100) (hi : l.all isInt = true) :
    Calls Tryd.prog 70 #[.agg #[.int .i64 3, .int .i64 0, .string ⟨#[]⟩, .slice A l.length c]] w fun e w' => ∃ v0_ : Value, e = .returned (.tuple #[v0_, .int .i64 0]) ∧ Kd.R (Kd.int .u8) 5 w' w.heap.size (fun _ => True) v0_ (encInts (l.map (·.f1))) ∧ Below w.heap.size w w' := by
  have hu42 := Tryd.underlying42
  have HR := Aside0.mk hr
  have HC := Aside0.mk hc
  have HI := Aside0.mk hi
  have HL := Aside0.mk hl
  clear hr hi hl hc
  have HX := Aside0.mk (World.alloc_heap_new w (Obj.cells #[.int .i64 3, .int .i64 0, .string ⟨#[]⟩, .slice A l.length c] 42))
  go_enter Tryd.func70, Tryd.ntmps70
  go_wp2_with fail
  refine (signatoryref01_Check.calls 200 3 0 ⟨#[]⟩ A c l 0 _ (Kd.C_below HR.out (below_alloc (Below.refl _ _) _)) HC.out (ref01_Check_f l HL.out HI.out)).mono ?_
  rintro e w2 ⟨rfl, hb⟩
  have HB : Aside0 (Below w.heap.size w w2) := ⟨below_step (below_alloc (Below.refl _ _) _) hb⟩
  have HX2 : Aside0 (w2.heap[w.heap.size]? = some (.cells #[.int .i64 3, .int .i64 0, .string ⟨#[]⟩, .slice A l.length c] 42 (0, 0))) := ⟨(hb.block _ (by simp)).trans HX.out⟩
  clear hb HX
  have hc0 : w2.cell? ⟨w.heap.size, 0, none⟩ = some (.int .i64 3) := (blk_cell HX2.out 0).trans rfl
  have hc1 : w2.cell? ⟨w.heap.size, 1, none⟩ = some (.int .i64 0) := (blk_cell HX2.out 1).trans rfl
  have hc2 : w2.cell? ⟨w.heap.size, 2, none⟩ = some (.string ⟨#[]⟩) := (blk_cell HX2.out 2).trans rfl
  have hc3 : w2.cell? ⟨w.heap.size, 3, none⟩ = some (.slice A l.length c) := (blk_cell HX2.out 3).trans rfl
  go_wp2_with fail
  refine (signatoryref01_encode.calls 200 3 0 ⟨#[]⟩ A c l _ _ (Kd.C_below HR.out HB.out) HC.out (ref01_encode_f l HL.out HI.out)).mono ?_
  rintro e w3 ⟨v3, rfl, ho, hb⟩
  have HO3 := Aside0.mk (Kd.R_lower ho HB.out.size)
  have HB3 := Aside0.mk (below_step HB.out hb)
  clear ho hb HB hc0 hc1 hc2 hc3 HX2
  go_wp2
  go_ret2
  exact ⟨_, rfl, HO3.out, HB3.out⟩

theorem signatoryref01_Encode.calls (a0_0 : Int) (a0_1 : Int) (a0_2 : ByteArray) (A0_3 : Option Addr) (c0_3 : Nat) (l0_3 : List S42) (r1 : List Int) (r2 : Int) (w : World) (hr0_3 : Kd.C k42 w A0_3 l0_3.length l0_3) (hc0_3 : l0_3.length ≤ c0_3) (h : signatoryref01_Encode.f a0_0 a0_1 a0_2 l0_3 = some (r1, r2)) :
    Calls Tryd.prog 70 #[.agg #[.int .i64 a0_0, .int .i64 a0_1, .string a0_2, .slice A0_3 l0_3.length c0_3]] w fun e w' => ∃ v0_ : Value, e = .returned (.tuple #[v0_, .int .i64 r2]) ∧ Kd.R (Kd.int .u8) 5 w' w.heap.size (fun _ => True) v0_ r1 ∧ Below w.heap.size w w' := by
  unfold signatoryref01_Encode.f at h
  split at h
  · rename_i hh
    obtain ⟨rfl, rfl, hs, hl, hi⟩ := hh
    injection h with h
    injection h with h1 h2
    subst h1 h2
    have e : a0_2 = ⟨#[]⟩ := by
      obtain ⟨⟨d⟩⟩ := a0_2
      cases d with
      | nil => rfl
      | cons x y => simp [ByteArray.size] at hs
    subst e
    exact ref01_Encode_ints A0_3 c0_3 l0_3 w hr0_3 hc0_3 hl hi
  · cases h

end Go.Proofs.YthladfegmedpnaaDoor.P
