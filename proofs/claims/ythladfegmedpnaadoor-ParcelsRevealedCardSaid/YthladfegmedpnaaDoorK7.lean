import Derived.Test.YthladfegmedpnaaDoorK4
import Derived.Outline
set_option linter.unusedVariables false
set_option linter.unusedSimpArgs false

namespace Go.Proofs.YthladfegmedpnaaDoor.P
open Go.RowKit Go.Proofs.YthladfegmedpnaaDoorW.PrintWords Go.Proofs.YthladfegmedpnaaDoorW.PrintLast Go.Proofs.YthladfegmedpnaaDoorW.PrintMore Go.Proofs.YthladfegmedpnaaDoor
set_option linter.unusedVariables false

set_option maxHeartbeats 4000000 in
set_option maxRecDepth 100000 in
theorem formed_int (n : Int) (A : Option Addr) (c : Nat) (w : World) :
    Calls Tryd.prog 72 #[.agg #[.int .i64 1, .int .i64 n, .string ⟨#[]⟩, .slice A 0 c]] w fun e w' => e = .returned (.tuple #[.int .i64 0, .bool true]) ∧ Below w.heap.size w w' := by
  by_cases hn : n = 0
  · have hn1 : (n == 0) = true := by rw [beq_iff_eq]; exact hn
    clear hn
    go_enter Tryd.func72, Tryd.ntmps72
    go_wp2
    go_ret2
    exact ⟨rfl, ((Below.refl _ _).alloc (Nat.le_refl _) _).alloc (by simp) _⟩
  · have hn1 : (n == 0) = false := by rw [beq_eq_false_iff_ne]; exact hn
    clear hn
    go_enter Tryd.func72, Tryd.ntmps72
    go_wp2
    go_ret2
    exact ⟨rfl, ((Below.refl _ _).alloc (Nat.le_refl _) _).alloc (by simp) _⟩

/-- An element that is an integer. -/
theorem isInt_at {l : List S42} (h : l.all isInt = true) (i : Int) (h0 : 0 ≤ i) (h1 : i < l.length) :
    (rd_T42 l i).f0 = 1 ∧ (rd_T42 l i).f2 = ⟨#[]⟩ ∧ (rd_T42 l i).f3 = [] ∧ i64 (rd_T42 l i).f1 := by
  have hm : rd_T42 l i ∈ l := by
    unfold rd_T42
    rw [List.getD_eq_getElem?_getD, List.getElem?_eq_getElem (by omega : i.toNat < l.length)]
    exact List.getElem_mem _
  have := List.all_eq_true.1 h _ hm
  unfold isInt at this
  simp only [Bool.and_eq_true, beq_iff_eq, decide_eq_true_eq, List.isEmpty_iff] at this
  obtain ⟨⟨⟨⟨h1, h2⟩, h3⟩, h4⟩, h5⟩ := this
  refine ⟨h1, ?_, h3, h4, h5⟩
  generalize (rd_T42 l i).f2 = s at h2
  obtain ⟨⟨d⟩⟩ := s
  cases d with
  | nil => rfl
  | cons x y => simp [ByteArray.size] at h2

set_option maxHeartbeats 4000000 in
set_option maxRecDepth 100000 in
theorem formed_list (A : Option Addr) (c : Nat) (l : List S42) (w : World) (hr : Kd.C k42 w A l.length l) (hl : l.length ≤ 100) (hi : l.all isInt = true) :
    Calls Tryd.prog 72 #[.agg #[.int .i64 3, .int .i64 0, .string ⟨#[]⟩, .slice A l.length c]] w fun e w' => e = .returned (.tuple #[.int .i64 1, .bool true]) ∧ Below w.heap.size w w' := by
  have HR := Aside0.mk hr
  have HI := Aside0.mk hi
  clear hr hi
  go_enter Tryd.func72, Tryd.ntmps72
  go_wp2
  go_loopw [2, 57] (fun d i wr => ∃ k : Nat, k ≤ l.length ∧ i = .int .i64 k ∧ d = .int .i64 0 ∧ Aside0 (Below w.heap.size w wr)) (fun _ i _ => l.length - (intOf i).toNat)
  case atStart => exact ⟨0, Nat.zero_le _, rfl, rfl, ⟨((Below.refl _ _).alloc (Nat.le_refl _) _).alloc (by simp) _⟩⟩
  case round =>
    obtain ⟨k, hk, rfl, rfl, HB⟩ := hrel
    by_cases hlt : k < l.length
    · have hlt' : (k : Int) < (l.length : Int) := by omega
      obtain ⟨ad, A3, c3, rfl, hc0, hc1, hc2, hc3, hle, hsub⟩ := at_T42 (Kd.C_below HR.out HB.out) k (by omega) hlt'
      obtain ⟨e0, e2, e3, _⟩ := isInt_at HI.out k (by omega) hlt'
      rw [e0] at hc0; rw [e2] at hc2; rw [e3] at hc3
      rw [Int.toNat_natCast] at hc0 hc1 hc2 hc3
      generalize (rd_T42 l k).f1 = n at hc1
      clear e0 e2 e3 hle hsub hlt
      have HBw := HB
      clear HB
      go_wp2_with fail
      refine (formed_int n A3 c3 _).mono ?_
      rintro e w2 ⟨rfl, hb⟩
      have HB2 : Aside0 (Below w.heap.size w w2) := ⟨below_step (below_alloc HBw.out _) hb⟩
      clear hb hc0 hc1 hc2 hc3
      go_wp2
      go_roundw
      case rel => exact ⟨k + 1, by omega, by go_num, rfl, HB2⟩
      case measure => simp [intOf]; omega
    · have hlt' : ¬ (k : Int) < (l.length : Int) := by omega
      clear hlt
      go_wp2
      go_ret2
      exact ⟨rfl, HB.out⟩

set_option maxHeartbeats 4000000 in
theorem codec_check (A : Option Addr) (c : Nat) (l : List S42) (w : World) (hr : Kd.C k42 w A l.length l) (hl : l.length ≤ 100) (hi : l.all isInt = true) :
    Calls Tryd.prog 54 #[.agg #[.int .i64 3, .int .i64 0, .string ⟨#[]⟩, .slice A l.length c]] w fun e w' => e = .returned (.int .i64 0) ∧ Below w.heap.size w w' := by
  have HR := Aside0.mk hr
  have HI := Aside0.mk hi
  have HL := Aside0.mk hl
  clear hr hi hl
  go_enter Tryd.func54, Tryd.ntmps54
  go_wp2_with fail
  refine (formed_list A c l _ (Kd.C_below HR.out (below_alloc (Below.refl _ _) _)) HL.out HI.out).mono ?_
  rintro e w2 ⟨rfl, hb⟩
  have HB : Aside0 (Below w.heap.size w w2) := ⟨below_step (below_alloc (Below.refl _ _) _) hb⟩
  clear hb
  go_wp2
  go_ret
  exact ⟨rfl, HB.out⟩

end Go.Proofs.YthladfegmedpnaaDoor.P
