import Derived.Test.YthladfegmedpnaaDoorC5
import Derived.Test.YthladfegmedpnaaDoorC7
import Derived.Laws.EntriesVeiled
import Derived.RangeFuncBox
import Derived.Test.YthladfegmedpnaaDoorD1
import Derived.Test.YthladfegmedpnaaDoorC4
set_option linter.unusedVariables false
set_option linter.unusedSimpArgs false

namespace Go.Proofs.YthladfegmedpnaaDoor.P
open Go.RowKit Go.Proofs.YthladfegmedpnaaDoorW.PrintWords Go.Proofs.YthladfegmedpnaaDoorW.PrintLast Go.Proofs.YthladfegmedpnaaDoorW.PrintMore Go.Proofs.YthladfegmedpnaaDoor
set_option linter.unusedVariables false
set_option linter.unusedSimpArgs false

theorem ref01_numeral_f : ∀ (j k u : Nat), j < k → u < 128 ^ (j + 1) → j ≤ 100 → u < 18446744073709551616 → signatoryref01_numeral.f k (u : Int) = some (numeral (j + 1) u)
  | j, k, u, hk, hu, hj, hb => by
    obtain ⟨k, rfl⟩ : ∃ m, k = m + 1 := ⟨k - 1, by omega⟩
    simp only [signatoryref01_numeral.f, numeral]
    by_cases h : u < 128
    · rw [if_pos (by omega), if_pos h]
      have : ((u : Int) % 256) = (u : Int) := by omega
      rw [this]
    · rw [if_neg (by omega), if_neg h]
      cases j with
      | zero => simp at hu; omega
      | succ j =>
        have e0 : Int.tmod (u : Int) 128 = (u : Int) % 128 := Int.tmod_eq_emod_of_nonneg (by omega)
        have e00 : Int.tdiv (u : Int) 128 = (u : Int) / 128 := Int.tdiv_eq_ediv_of_nonneg (by omega)
        have e1 : IntKind.u64.wrap (Int.tmod (u : Int) 128 + 128) % 256 = ((u % 128 + 128 : Nat) : Int) := by
          rw [e0, wrap_u64]; omega
        have hlt : u / 128 < 128 ^ (j + 1) := by rw [pow128] at hu; omega
        have e2 : signatoryref01_numeral.f k (IntKind.u64.wrap (Int.tdiv (u : Int) 128)) = some (numeral (j + 1) (u / 128)) := by
          rw [e00, wrap_u64]
          have : (u : Int) / 128 % 18446744073709551616 = ((u / 128 : Nat) : Int) := by omega
          rw [this]
          exact ref01_numeral_f j k (u / 128) (by omega) hlt (by omega) (by omega)
        rw [e1, e2]
        have hl := numeral_length (j + 1) (u / 128)
        simp
        omega

theorem ref01_unsigned_f {n : Int} (h : i64 n) : signatoryref01_unsigned.f n = some (unsig n : Int) := by
  unfold i64 at h
  unfold signatoryref01_unsigned.f unsig
  by_cases h0 : 0 ≤ n
  · rw [if_pos h0, if_pos h0]
    congr 1
    rw [wrap_u64, wrap_u64]; omega
  · rw [if_neg h0, if_neg h0]
    congr 1
    have e1 : wrap64 (n + 1) = n + 1 := by unfold wrap64; omega
    have e2 : wrap64 (-(n + 1)) = -(n + 1) := by unfold wrap64; omega
    rw [e1, e2, wrap_u64, wrap_u64, wrap_u64]; omega

theorem ref01_encode_int {n : Int} (h : i64 n) (k : Nat) (hk : 12 ≤ k) : signatoryref01_encode.f k 1 n ⟨#[]⟩ [] = some (encInt n) := by
  obtain ⟨k, rfl⟩ : ∃ m, k = m + 1 := ⟨k - 1, by omega⟩
  simp only [signatoryref01_encode.f, if_true, ref01_unsigned_f h, Option.bind_some]
  rw [ref01_numeral_f 9 k (unsig n) (by omega) (Nat.lt_of_lt_of_le (unsig_lt h) (by decide)) (by omega) (unsig_lt h)]
  simp only [Option.bind_some]
  have hl := numeral_length 10 (unsig n)
  rw [if_pos (by simp; omega)]
  rfl

theorem wrap64_nat {n : Int} (h0 : 0 ≤ n) (h1 : n < 9223372036854775808) : wrap64 n = n := by unfold wrap64; omega

theorem elem_at {l : List S42} (hi : l.all isInt = true) (j : Nat) (hj : j < l.length) :
    (rd_T42 l (j : Int)).f0 = 1 ∧ (rd_T42 l (j : Int)).f1 = (l.map (·.f1)).getD j 0 ∧ (rd_T42 l (j : Int)).f2 = ⟨#[]⟩ ∧ (rd_T42 l (j : Int)).f3 = [] ∧ i64 ((l.map (·.f1)).getD j 0) := by
  obtain ⟨e0, e2, e3, e1⟩ := isInt_at hi j (by omega) (by omega)
  have EN : (rd_T42 l j).f1 = (l.map (·.f1)).getD j 0 := by
    unfold rd_T42
    simp [List.getD_eq_getElem?_getD, List.getElem?_eq_getElem hj]
  exact ⟨e0, EN, e2, e3, EN ▸ e1⟩

theorem ref01_encode_l0 (l : List S42) (hl : l.length ≤ 100) (hi : l.all isInt = true) : ∀ (m j k : Nat), j + m = l.length → m + 13 ≤ k →
    signatoryref01_encode.l0 k (encTo (l.map (·.f1)) j) (j : Int) 3 0 ⟨#[]⟩ l = some (encInts (l.map (·.f1)))
  | m, j, k, hj, hk => by
    obtain ⟨k, rfl⟩ : ∃ m, k = m + 1 := ⟨k - 1, by omega⟩
    rw [signatoryref01_encode.l0]
    cases m with
    | zero =>
      rw [if_neg (by omega)]
      have : j = (l.map (·.f1)).length := by simp; omega
      rw [this, encTo_all]
    | succ m =>
      obtain ⟨e0, e1, e2, e3, e4⟩ := elem_at hi j (by omega)
      rw [if_pos (by omega), if_pos (by omega), e0, e1, e2, e3, ref01_encode_int e4 k (by omega)]
      simp only [Option.bind_some]
      have h1 := encTo_length (l.map (·.f1)) j (by simpa using hl)
      have h2 := encInt_length ((l.map (·.f1)).getD j 0)
      rw [if_pos (by omega), ← encTo_succ _ _ (by simp; omega), wrap64_nat (by omega) (by omega), show ((j : Int) + 1) = ((j + 1 : Nat) : Int) from by omega]
      exact ref01_encode_l0 l hl hi m (j + 1) k (by omega) (by omega)

theorem ref01_encode_f (l : List S42) (hl : l.length ≤ 100) (hi : l.all isInt = true) : signatoryref01_encode.f 200 3 0 ⟨#[]⟩ l = some (encInts (l.map (·.f1))) := by
  rw [signatoryref01_encode.f, if_neg (by omega), if_neg (by omega)]
  have e : IntKind.u64.wrap (l.length : Int) = (l.length : Int) := by rw [wrap_u64]; omega
  rw [e, ref01_numeral_f 9 199 l.length (by omega) (Nat.lt_of_le_of_lt hl (by decide)) (by omega) (by omega)]
  simp only [Option.bind_some]
  have h1 := numeral_length 10 l.length
  rw [if_pos (by simp; omega)]
  have := ref01_encode_l0 l hl hi l.length 0 199 (by omega) (by omega)
  rw [← this]
  simp [encTo]

theorem bytes_nil : (⟨#[]⟩ : ByteArray).toList = [] := by unfold ByteArray.toList ByteArray.toList.loop; rfl
theorem ref01_Formed_int (n : Int) (k : Nat) (hk : 1 ≤ k) : signatoryref01_Formed.f k 1 n ⟨#[]⟩ [] = some true := by
  obtain ⟨k, rfl⟩ : ∃ m, k = m + 1 := ⟨k - 1, by omega⟩
  rw [signatoryref01_Formed.f, if_pos rfl, if_pos bytes_nil]
  rfl
theorem ref01_Formed_l0 (l : List S42) (hl : l.length ≤ 100) (hi : l.all isInt = true) : ∀ (m j k : Nat), j + m = l.length → m + 13 ≤ k →
    signatoryref01_Formed.l0 k (j : Int) 3 0 ⟨#[]⟩ l = some true
  | m, j, k, hj, hk => by
    obtain ⟨k, rfl⟩ : ∃ m, k = m + 1 := ⟨k - 1, by omega⟩
    rw [signatoryref01_Formed.l0]
    cases m with
    | zero => rw [if_neg (by omega), if_pos rfl, bytes_nil]; rfl
    | succ m =>
      obtain ⟨e0, e1, e2, e3, e4⟩ := elem_at hi j (by omega)
      rw [if_pos (by omega), if_pos (by omega), e0, e2, e3, ref01_Formed_int _ k (by omega)]
      simp only [Option.bind_some, if_true]
      rw [wrap64_nat (by omega) (by omega), show ((j : Int) + 1) = ((j + 1 : Nat) : Int) from by omega]
      exact ref01_Formed_l0 l hl hi m (j + 1) k (by omega) (by omega)
theorem ref01_Depth_l0 (l : List S42) (hl : l.length ≤ 100) (hi : l.all isInt = true) : ∀ (m j k : Nat), j + m = l.length → m + 13 ≤ k →
    signatoryref01_Depth.l0 k 0 (j : Int) 3 0 ⟨#[]⟩ l = some 1
  | m, j, k, hj, hk => by
    obtain ⟨k, rfl⟩ : ∃ m, k = m + 1 := ⟨k - 1, by omega⟩
    rw [signatoryref01_Depth.l0]
    cases m with
    | zero => rw [if_neg (by omega), wrap64_nat (by omega) (by omega)]; rfl
    | succ m =>
      obtain ⟨e0, e1, e2, e3, e4⟩ := elem_at hi j (by omega)
      have ed : ∀ n s ll, signatoryref01_Depth.f k 1 n s ll = some 0 := fun n s ll => by
        obtain ⟨k, rfl⟩ : ∃ m, k = m + 1 := ⟨k - 1, by omega⟩
        rw [signatoryref01_Depth.f, if_neg (by omega)]
      rw [if_pos (by omega), if_pos (by omega), e0, ed]
      simp only [Option.bind_some]
      rw [wrap64_nat (by omega) (by omega), show ((j : Int) + 1) = ((j + 1 : Nat) : Int) from by omega]
      exact ref01_Depth_l0 l hl hi m (j + 1) k (by omega) (by omega)
theorem ref01_Check_f (l : List S42) (hl : l.length ≤ 100) (hi : l.all isInt = true) : signatoryref01_Check.f 200 3 0 ⟨#[]⟩ l = some 0 := by
  unfold signatoryref01_Check.f
  rw [signatoryref01_Formed.f, if_neg (by omega), if_neg (by omega), if_pos rfl]
  have h0 := ref01_Formed_l0 l hl hi l.length 0 199 (by omega) (by omega)
  rw [Int.natCast_zero] at h0
  rw [h0]
  simp only [Option.bind_some, if_true]
  rw [signatoryref01_Depth.f, if_pos rfl]
  have := ref01_Depth_l0 l hl hi l.length 0 199 (by omega) (by omega)
  rw [Int.natCast_zero] at this
  rw [this]
  rfl

set_option maxHeartbeats 4000000 in
set_option maxRecDepth 100000 in
theorem ref01_Encode_ints (A : Option Addr) (c : Nat) (l : List S42) (w : World) (hr : Kd.C k42 w A l.length l) (hc : l.length ≤ c) (hl : l.length ≤ 100) (hi : l.all isInt = true) :
    Calls Tryd.prog 70 #[.agg #[.int .i64 3, .int .i64 0, .string ⟨#[]⟩, .slice A l.length c]] w fun e w' => ∃ v0_ : Value, e = .returned (.tuple #[v0_, .int .i64 0]) ∧ Kd.R (Kd.int .u8) 5 w' w.heap.size (fun _ => True) v0_ (encInts (l.map (·.f1))) ∧ Below w.heap.size w w' := by
  have hu42 := Tryd.underlying42
  have HR := Aside0.mk hr
  have HC := Aside0.mk hc
  have HI := Aside0.mk hi
  have HL := Aside0.mk hl
  clear hr hi hl hc
  have HX := Aside0.mk (World.alloc_heap_new w (Obj.cells #[.int .i64 3, .int .i64 0, .string ⟨#[]⟩, .slice A l.length c] 42))
  go_enter Tryd.func70, Tryd.ntmps70
  go_wp2_with fail
  refine (signatoryref01_Check.calls 200 3 0 ⟨#[]⟩ A c l 0 _ (Kd.C_below HR.out (below_alloc (Below.refl _ _) _)) HC.out (ref01_Check_f l HL.out HI.out)).mono ?_
  rintro e w2 ⟨rfl, hb⟩
  have HB : Aside0 (Below w.heap.size w w2) := ⟨below_step (below_alloc (Below.refl _ _) _) hb⟩
  have HX2 : Aside0 (w2.heap[w.heap.size]? = some (.cells #[.int .i64 3, .int .i64 0, .string ⟨#[]⟩, .slice A l.length c] 42 (0, 0))) := ⟨(hb.block _ (by simp)).trans HX.out⟩
  clear hb HX
  have hc0 : w2.cell? ⟨w.heap.size, 0, none⟩ = some (.int .i64 3) := (blk_cell HX2.out 0).trans rfl
  have hc1 : w2.cell? ⟨w.heap.size, 1, none⟩ = some (.int .i64 0) := (blk_cell HX2.out 1).trans rfl
  have hc2 : w2.cell? ⟨w.heap.size, 2, none⟩ = some (.string ⟨#[]⟩) := (blk_cell HX2.out 2).trans rfl
  have hc3 : w2.cell? ⟨w.heap.size, 3, none⟩ = some (.slice A l.length c) := (blk_cell HX2.out 3).trans rfl
  go_wp2_with fail
  refine (signatoryref01_encode.calls 200 3 0 ⟨#[]⟩ A c l _ _ (Kd.C_below HR.out HB.out) HC.out (ref01_encode_f l HL.out HI.out)).mono ?_
  rintro e w3 ⟨v3, rfl, ho, hb⟩
  have HO3 := Aside0.mk (Kd.R_lower ho HB.out.size)
  have HB3 := Aside0.mk (below_step HB.out hb)
  clear ho hb HB hc0 hc1 hc2 hc3 HX2
  go_wp2
  go_ret2
  exact ⟨_, rfl, HO3.out, HB3.out⟩

theorem signatoryref01_Encode.calls (a0_0 : Int) (a0_1 : Int) (a0_2 : ByteArray) (A0_3 : Option Addr) (c0_3 : Nat) (l0_3 : List S42) (r1 : List Int) (r2 : Int) (w : World) (hr0_3 : Kd.C k42 w A0_3 l0_3.length l0_3) (hc0_3 : l0_3.length ≤ c0_3) (h : signatoryref01_Encode.f a0_0 a0_1 a0_2 l0_3 = some (r1, r2)) :
    Calls Tryd.prog 70 #[.agg #[.int .i64 a0_0, .int .i64 a0_1, .string a0_2, .slice A0_3 l0_3.length c0_3]] w fun e w' => ∃ v0_ : Value, e = .returned (.tuple #[v0_, .int .i64 r2]) ∧ Kd.R (Kd.int .u8) 5 w' w.heap.size (fun _ => True) v0_ r1 ∧ Below w.heap.size w w' := by
  unfold signatoryref01_Encode.f at h
  split at h
  · rename_i hh
    obtain ⟨rfl, rfl, hs, hl, hi⟩ := hh
    injection h with h
    injection h with h1 h2
    subst h1 h2
    have e : a0_2 = ⟨#[]⟩ := by
      obtain ⟨⟨d⟩⟩ := a0_2
      cases d with
      | nil => rfl
      | cons x y => simp [ByteArray.size] at hs
    subst e
    exact ref01_Encode_ints A0_3 c0_3 l0_3 w hr0_3 hc0_3 hl hi
  · cases h

end Go.Proofs.YthladfegmedpnaaDoor.P
namespace Go.Proofs.YthladfegmedpnaaDoor.P
open Go.RowKit Go.Proofs.YthladfegmedpnaaDoorW.PrintWords Go.Proofs.YthladfegmedpnaaDoorW.PrintLast Go.Proofs.YthladfegmedpnaaDoorW.PrintMore
attribute [local go_sem] max2_int min2_int max_two min_two max_three min_three max_four min_four
set_option linter.unusedVariables false
set_option linter.unusedSimpArgs false

/-! ### signatoryref12_text: function 44 -/
def signatoryref12_text.f (k : Nat) (l0 : List Int) : Option (List Int) := (signatoryref01_Ints.f k l0).bind fun bt168 => ((signatoryref01_Encode.f bt168.1 bt168.2.1 bt168.2.2.1 bt168.2.2.2).bind fun bt174 => (some bt174.1))
theorem signatoryref12_text.mono : ∀ a0 k, LeO (signatoryref12_text.f k a0) (signatoryref12_text.f (k + 1) a0) := by
  intro a0 k
  unfold signatoryref12_text.f
  repeat' first
      | (with_reducible exact signatoryref01_Ints.mono _ _)
      | (with_reducible exact LeO.refl _)
      | (with_reducible exact LeO.none _)
      | (with_reducible refine LeO.ite ?_ ?_)
      | (with_reducible refine LeO.bind ?_ (fun _ => ?_))
      | exact signatoryref01_Ints.mono _ _
      | exact LeO.none _
      | refine LeO.ite ?_ ?_
      | refine LeO.bind ?_ (fun _ => ?_)
set_option maxHeartbeats 8000000 in
set_option maxRecDepth 100000 in
theorem signatoryref12_text.calls (k : Nat) (A0 : Option Addr) (c0 : Nat) (l0 : List Int) (r : List Int) (w : World) (hr0 : Kd.C (Kd.int .i64) w A0 l0.length l0) (hc0 : l0.length ≤ c0) (h : signatoryref12_text.f k l0 = some r) :
    Calls Tryd.prog 44 #[.slice A0 l0.length c0] w fun e w' => ∃ v0_ : Value, e = .returned (v0_) ∧ Kd.R (Kd.int .u8) 5 w' w.heap.size (fun _ => True) v0_ r ∧ Below w.heap.size w w' := by
  have HR0 := Aside0.mk hr0
  have HC0 := Aside0.mk hc0
  clear hr0 hc0
  have HB := Aside0.mk (Below.refl w.heap.size w)
  have H : ((signatoryref01_Ints.f k l0).bind fun bt168 => ((signatoryref01_Encode.f bt168.1 bt168.2.1 bt168.2.2.1 bt168.2.2.2).bind fun bt174 => (some bt174.1))) = some r := h
  clear h
  replace H := Option.bind_eq_some_iff.mp H
  obtain ⟨⟨t168, t169, t170, t171⟩, A20, H⟩ := H
  replace H : ((signatoryref01_Encode.f t168 t169 t170 t171).bind fun bt174 => (some bt174.1)) = some r := H
  have A2 := Aside0.mk A20
  clear A20
  replace H := Option.bind_eq_some_iff.mp H
  obtain ⟨⟨t174, t177⟩, A30, H⟩ := H
  replace H : (some t174) = some r := H
  have A3 := Aside0.mk A30
  clear A30
  obtain rfl := Option.some.inj H
  go_enter Tryd.func44, Tryd.ntmps44
  go_wp2_with (first | ((with_reducible refine gate_callee (f := 71) rfl ?_); refine goesL_ (some 7) rfl rfl Tryd.func71 (by kernel_rfl) rfl #[.slice A0 l0.length c0] rfl (by (try simp only [List.map_toArray, List.map_cons, List.map_nil]); first | done | rfl | (simp only [List.length_drop, List.length_take]; rfl)) ?_; (with_reducible refine (signatoryref01_Ints.calls k _ _ l0 t168 t169 t170 t171 _ ?side1 ?side2 A2.out).mono ?_); (case side1 => repeat (first | exact HR0.out | (with_reducible refine Kd.C_alloc ?_ _) | (with_reducible refine Kd.C_drewN ?_ _) | (with_reducible refine Kd.C_drew ?_))); (case side2 => exact HC0.out); rintro e w4 ⟨v172, rfl, ho0, hb⟩; refine ⟨_, rfl, ?_⟩; have n0_ := Aside0.mk (Kd.R_lower ho0 (below_size (by repeat (first | (with_reducible first | exact HB.out | apply below_alloc | apply pw_below_drewN | apply below_drew1) | exact HB.out)))); have n1_ := Aside0.mk (below_step (by repeat (first | (with_reducible first | exact HB.out | apply below_alloc | apply pw_below_drewN | apply below_drew1) | exact HB.out)) hb); clear HB; have HO173 := n0_; have HB := n1_; clear n0_ n1_; (try clear hb); (try clear hb2); (try clear hk); (try clear hi); (try clear ho0); obtain ⟨Ao5, co5, eo5⟩ := Kd.R_slice HO173.out; subst eo5) | ((with_reducible refine gate_callee (f := 70) rfl ?_); refine goesL_ (some 8) rfl rfl Tryd.func70 (by kernel_rfl) rfl #[.agg #[.int .i64 t168, .int .i64 t169, .string t170, .slice Ao5 t171.length co5]] rfl (by (try simp only [List.map_toArray, List.map_cons, List.map_nil]); first | done | rfl | (simp only [List.length_drop, List.length_take]; rfl)) ?_; (with_reducible refine (signatoryref01_Encode.calls t168 t169 t170 _ _ t171 t174 t177 _ ?side1 ?side2 A3.out).mono ?_); (case side1 => repeat (first | exact (Kd.R_reads' HO173.out).2.2 | (with_reducible refine Kd.C_alloc ?_ _) | (with_reducible refine Kd.C_drewN ?_ _) | (with_reducible refine Kd.C_drew ?_))); (case side2 => exact (Kd.R_reads' HO173.out).2.1); rintro e w6 ⟨v175, rfl, ho0, hb⟩; refine ⟨_, rfl, ?_⟩; have n0_ := Aside0.mk (Kd.R_below (by (with_reducible repeat (first | apply Kd.R_alloc | apply Kd.R_drewN | apply Kd.R_drew)); exact HO173.out) hb); have n1_ := Aside0.mk (Kd.R_lower ho0 (below_size (by repeat (first | (with_reducible first | exact HB.out | apply below_alloc | apply pw_below_drewN | apply below_drew1) | exact HB.out)))); have n2_ := Aside0.mk (below_step (by repeat (first | (with_reducible first | exact HB.out | apply below_alloc | apply pw_below_drewN | apply below_drew1) | exact HB.out)) hb); clear HO173; clear HB; have HO173 := n0_; have HO176 := n1_; have HB := n2_; clear n0_ n1_ n2_; (try clear hb); (try clear hb2); (try clear hk); (try clear hi); (try clear ho0)))
  go_ret
  exact ⟨_, by first | rfl | (simp [errW_none, errW_some] <;> rfl) | (simp [*, errW_none, errW_some] <;> rfl), by (with_reducible repeat (first | apply Kd.R_alloc | apply Kd.R_drewN | apply Kd.R_drew)); exact HO176.out, by repeat (first | (with_reducible first | exact HB.out | apply below_alloc | apply pw_below_drewN | apply below_drew1) | exact HB.out)⟩

end Go.Proofs.YthladfegmedpnaaDoor.P
