import Derived.Test.YthladfegmedpnaaDoorK4
import Derived.WalkMore
import Derived.Outline
set_option linter.unusedVariables false
set_option linter.unusedSimpArgs false

namespace Go.Proofs.YthladfegmedpnaaDoor.P
open Go.RowKit Go.Proofs.YthladfegmedpnaaDoorW.PrintWords Go.Proofs.YthladfegmedpnaaDoorW.PrintLast Go.Proofs.YthladfegmedpnaaDoorW.PrintMore Go.Proofs.YthladfegmedpnaaDoor
set_option linter.unusedVariables false

theorem vld_low {a0 : Int} (h : a0 < 1) : vld a0 = false := by
  have : ¬ Nt.El a0.toNat := fun h' => by have := h'.1; omega
  unfold vld
  rw [decide_eq_false this, Bool.and_false]
theorem vld_high {a0 : Int} (h : a0 ≥ 2147483579) : vld a0 = false := by
  have : ¬ Nt.El a0.toNat := fun h' => by have := h'.2.1; unfold Nt.P at this; omega
  unfold vld
  rw [decide_eq_false this, Bool.and_false]
theorem vld_mid {a0 : Int} (h : 0 ≤ a0) : vld a0 = decide (Nt.El a0.toNat) := by
  unfold vld
  rw [decide_eq_true h, Bool.true_and]

theorem inv_even {a x n : Int} {s : Bool} (h : Aside0 (Nt.Inv a.toNat x.toNat n.toNat s)) (hx : 1 ≤ x) (hn : 0 ≤ n) (he : x % 2 = 0) :
    Nt.Inv a.toNat (x / 2).toNat n.toNat (if n % 8 = 3 ∨ n % 8 = 5 then !s else s) := by
  have := h.out.even (by omega)
  have e : x.toNat / 2 = (x / 2).toNat := by omega
  rw [e] at this
  have e2 : (n.toNat % 8 = 3 ∨ n.toNat % 8 = 5) = (n % 8 = 3 ∨ n % 8 = 5) := by apply propext; omega
  simp only [e2] at this
  exact this
theorem inv_swap {a x n : Int} {s : Bool} (h : Aside0 (Nt.Inv a.toNat x.toNat n.toNat s)) (hx : 1 < x) (hn : 0 ≤ n) (he : x % 2 = 1) :
    Nt.Inv a.toNat (n % x).toNat x.toNat (if x % 4 = 3 ∧ n % 4 = 3 then !s else s) := by
  have := h.out.swap (by omega) (by omega)
  have e : n.toNat % x.toNat = (n % x).toNat := by
    obtain ⟨y, rfl⟩ := Int.eq_ofNat_of_zero_le (show 0 ≤ x by omega)
    obtain ⟨m, rfl⟩ := Int.eq_ofNat_of_zero_le hn
    rw [Int.toNat_natCast, Int.toNat_natCast, ← Int.natCast_emod, Int.toNat_natCast]
  rw [e] at this
  have e2 : (x.toNat % 4 = 3 ∧ n.toNat % 4 = 3) = (x % 4 = 3 ∧ n % 4 = 3) := by apply propext; omega
  simp only [e2] at this
  exact this

set_option maxHeartbeats 2000000 in
set_option maxRecDepth 100000 in
theorem group_Valid.calls (a0 : Int) (r : Bool) (w : World) (h : group_Valid.f a0 = some r) :
    Calls Tryd.prog 47 #[.int .i64 a0] w fun e w' => e = .returned (.bool r) ∧ Drawn0 w w' := by
  have HR : Aside0 (vld a0 = r) := ⟨Option.some.inj h⟩
  clear h
  by_cases h1 : a0 < 1
  · have HF : Aside0 (r = false) := ⟨by rw [← HR.out]; exact vld_low h1⟩
    have d1 : decide (a0 < 1) = true := decide_eq_true h1
    go_enter Tryd.func47, Tryd.ntmps47
    go_wp2
    go_step3
    go_wp2
    rw [Exit.noGoto_ret]
    go_ret
    exact ⟨by rw [HF.out]; rfl, Drawn0.refl _⟩
  by_cases h2 : a0 ≥ 2147483579
  · have HF : Aside0 (r = false) := ⟨by rw [← HR.out]; exact vld_high h2⟩
    have d1 : decide (a0 < 1) = false := decide_eq_false h1
    have d2 : decide (2147483579 ≤ a0) = true := decide_eq_true h2
    go_enter Tryd.func47, Tryd.ntmps47
    go_wp2
    go_step3
    go_wp2
    rw [Exit.noGoto_ret]
    go_ret
    exact ⟨by rw [HF.out]; rfl, Drawn0.refl _⟩
  have d1 : decide (a0 < 1) = false := decide_eq_false h1
  have d2 : decide (2147483579 ≤ a0) = false := decide_eq_false h2
  have HP : Aside0 (1 ≤ a0.toNat ∧ a0.toNat < Nt.P) := ⟨by unfold Nt.P; omega⟩
  have HI0 := Aside0.mk (Nt.Inv.start HP.out.1 HP.out.2)
  go_enter Tryd.func47, Tryd.ntmps47
  go_wp2
  go_step3
  go_wp2
  go_step3
  go_wp2
  go_loop [0, 3, 4] (fun vx vn vs => ∃ (x n : Int) (s : Bool), vx = .int .i64 x ∧ vn = .int .i64 n ∧ vs = .bool s ∧ x ≤ 2147483579 ∧ n ≤ 2147483579 ∧ 1 ≤ x ∧ 0 ≤ n ∧ Aside0 (Nt.Inv a0.toNat x.toNat n.toNat s)) (fun vx _ _ => (intOf vx).toNat)
  case atStart => exact ⟨a0, 2147483579, true, rfl, rfl, rfl, by omega, by omega, by omega, by omega, HI0⟩
  case round =>
    obtain ⟨x, n, s, rfl, rfl, rfl, hx, hn, hx1, hn0, HI⟩ := hrel
    by_cases hx2 : x = 1
    · have HS : Aside0 (s = r) := ⟨by
        rw [← HR.out, vld_mid (by omega)]
        subst hx2
        exact HI.out.done HP.out.1 HP.out.2⟩
      have hx3 : ¬ (1 : Int) < x := by omega
      clear hx2
      go_wp2
      try rw [Exit.noGoto_ret]
      go_ret
      exact ⟨by rw [← HS.out]; rfl, Drawn0.refl _⟩
    have hx3 : (1 : Int) < x := by omega
    clear hx2
    go_wp2
    go_loop [0, 4] (fun vx vs => ∃ (y : Int) (t : Bool), vx = .int .i64 y ∧ vs = .bool t ∧ y ≤ x ∧ 1 ≤ y ∧ Aside0 (Nt.Inv a0.toNat y.toNat n.toNat t)) (fun vx _ => (intOf vx).toNat)
    case atStart => exact ⟨x, s, rfl, rfl, by omega, by omega, HI⟩
    case round =>
      obtain ⟨y, t, rfl, rfl, hy, hy1, HJ⟩ := hrel
      by_cases he : y % 2 = 0
      · have he' : (y % 2 == 0) = true := by rw [beq_iff_eq]; omega
        have HK := Aside0.mk (inv_even HJ hy1 hn0 he)
        have hy2 : 2 ≤ y := by omega
        clear he
        by_cases h8 : n % 8 = 3
        · have h8' : (n % 8 == 3) = true := by rw [beq_iff_eq]; omega
          have HL : Aside0 (Nt.Inv a0.toNat (y / 2).toNat n.toNat (!t)) := ⟨by have := HK.out; rwa [if_pos (Or.inl h8)] at this⟩
          clear h8 HK
          go_wp2
          go_round
          case rel => exact ⟨y / 2, !t, rfl, rfl, by omega, by omega, HL⟩
          case measure => simp [intOf]; omega
        · have h8' : (n % 8 == 3) = false := by rw [beq_eq_false_iff_ne]; omega
          by_cases h5 : n % 8 = 5
          · have h5' : (n % 8 == 5) = true := by rw [beq_iff_eq]; omega
            have HL : Aside0 (Nt.Inv a0.toNat (y / 2).toNat n.toNat (!t)) := ⟨by have := HK.out; rwa [if_pos (Or.inr h5)] at this⟩
            clear h8 h5 HK
            go_wp2
            go_round
            case rel => exact ⟨y / 2, !t, rfl, rfl, by omega, by omega, HL⟩
            case measure => simp [intOf]; omega
          · have h5' : (n % 8 == 5) = false := by rw [beq_eq_false_iff_ne]; omega
            have HL : Aside0 (Nt.Inv a0.toNat (y / 2).toNat n.toNat t) := ⟨by have := HK.out; rwa [if_neg (by omega)] at this⟩
            clear h8 h5 HK
            go_wp2
            go_round
            case rel => exact ⟨y / 2, t, rfl, rfl, by omega, by omega, HL⟩
            case measure => simp [intOf]; omega
      · have he' : (y % 2 == 0) = false := by rw [beq_eq_false_iff_ne]; omega
        by_cases hy2 : y = 1
        · have HS : Aside0 (t = r) := ⟨by
            rw [← HR.out, vld_mid (by omega)]
            subst hy2
            exact HJ.out.done HP.out.1 HP.out.2⟩
          have hy3 : (y == 1) = true := by rw [beq_iff_eq]; omega
          clear hy2 he
          go_wp2
          try rw [Exit.noGoto_ret]
          go_ret
          exact ⟨by rw [← HS.out]; rfl, Drawn0.refl _⟩
        · have hy3 : (y == 1) = false := by rw [beq_eq_false_iff_ne]; omega
          have hy4 : (1 : Int) < y := by omega
          have HK := Aside0.mk (inv_swap HJ hy4 hn0 (by omega))
          have hy5 : ¬ y = 0 := by omega
          have hm1 : 0 ≤ n % y := Int.emod_nonneg _ hy5
          have hm2 : n % y < y := Int.emod_lt_of_pos _ (by omega)
          have hm3 : 1 ≤ n % y := by have := HK.out.pos; omega
          clear hy2 he
          by_cases h4 : y % 4 = 3
          · have h4' : (y % 4 == 3) = true := by rw [beq_iff_eq]; omega
            by_cases h5 : n % 4 = 3
            · have h5' : (n % 4 == 3) = true := by rw [beq_iff_eq]; omega
              have HL : Aside0 (Nt.Inv a0.toNat (n % y).toNat y.toNat (!t)) := ⟨by have := HK.out; rwa [if_pos ⟨h4, h5⟩] at this⟩
              clear h4 h5 HK
              go_wp2
              go_round
              case rel => exact ⟨n % y, y, !t, rfl, rfl, rfl, by omega, by omega, by omega, by omega, HL⟩
              case measure => simp [intOf]; omega
            · have h5' : (n % 4 == 3) = false := by rw [beq_eq_false_iff_ne]; omega
              have HL : Aside0 (Nt.Inv a0.toNat (n % y).toNat y.toNat t) := ⟨by have := HK.out; rwa [if_neg (by omega)] at this⟩
              clear h4 h5 HK
              go_wp2
              go_round
              case rel => exact ⟨n % y, y, t, rfl, rfl, rfl, by omega, by omega, by omega, by omega, HL⟩
              case measure => simp [intOf]; omega
          · have h4' : (y % 4 == 3) = false := by rw [beq_eq_false_iff_ne]; omega
            have HL : Aside0 (Nt.Inv a0.toNat (n % y).toNat y.toNat t) := ⟨by have := HK.out; rwa [if_neg (by omega)] at this⟩
            clear h4 HK
            go_wp2
            go_round
            case rel => exact ⟨n % y, y, t, rfl, rfl, rfl, by omega, by omega, by omega, by omega, HL⟩
            case measure => simp [intOf]; omega

end Go.Proofs.YthladfegmedpnaaDoor.P
namespace Go.Proofs.YthladfegmedpnaaDoor.P
open Go.RowKit Go.Proofs.YthladfegmedpnaaDoorW.PrintWords Go.Proofs.YthladfegmedpnaaDoorW.PrintLast Go.Proofs.YthladfegmedpnaaDoorW.PrintMore
attribute [local go_sem] max2_int min2_int max_two min_two max_three min_three max_four min_four
set_option linter.unusedVariables false
set_option linter.unusedSimpArgs false

/-! ### group_Mul: function 23 -/
def group_Mul.f (a0 : Int) (a1 : Int) : Option (Int × Int) := (group_Valid.f a0).bind fun t281 => (if t281 = true then ((group_Valid.f a1).bind fun t282 => (if t282 = true then (some (Int.tmod (wrap64 (a0 * a1)) 2147483579, 0)) else (some (0, 100)))) else (some (0, 100)))
set_option maxHeartbeats 8000000 in
set_option maxRecDepth 100000 in
theorem group_Mul.calls (a0 : Int) (a1 : Int) (r1 : Int) (r2 : Int) (w : World) (h : group_Mul.f a0 a1 = some (r1, r2)) :
    Calls Tryd.prog 23 #[.int .i64 a0, .int .i64 a1] w fun e w' => e = .returned (.tuple #[.int .i64 r1, .int .i64 r2]) ∧ Drawn0 w w' := by
  have H : ((group_Valid.f a0).bind fun t281 => (if t281 = true then ((group_Valid.f a1).bind fun t282 => (if t282 = true then (some (Int.tmod (wrap64 (a0 * a1)) 2147483579, 0)) else (some (0, 100)))) else (some (0, 100)))) = some (r1, r2) := h
  clear h
  replace H := Option.bind_eq_some_iff.mp H
  obtain ⟨t281, A30, H⟩ := H
  replace H : (if t281 = true then ((group_Valid.f a1).bind fun t282 => (if t282 = true then (some (Int.tmod (wrap64 (a0 * a1)) 2147483579, 0)) else (some (0, 100)))) else (some (0, 100))) = some (r1, r2) := H
  have A3 := Aside0.mk A30
  clear A30
  by_cases c4 : t281 = true
  · subst c4
    have H1 : ((group_Valid.f a1).bind fun t282 => (if t282 = true then (some (Int.tmod (wrap64 (a0 * a1)) 2147483579, 0)) else (some (0, 100)))) = some (r1, r2) := by rw [if_pos rfl] at H; exact H
    clear H
    have H := H1
    clear H1
    replace H := Option.bind_eq_some_iff.mp H
    obtain ⟨t282, A50, H⟩ := H
    replace H : (if t282 = true then (some (Int.tmod (wrap64 (a0 * a1)) 2147483579, 0)) else (some (0, 100))) = some (r1, r2) := H
    have A5 := Aside0.mk A50
    clear A50
    by_cases c6 : t282 = true
    · subst c6
      have H1 : (some (Int.tmod (wrap64 (a0 * a1)) 2147483579, 0)) = some (r1, r2) := by rw [if_pos rfl] at H; exact H
      clear H
      have H := H1
      clear H1
      simp only [Option.some.injEq, Prod.mk.injEq] at H
      obtain ⟨rfl, rfl⟩ := H
      go_enter Tryd.func23, Tryd.ntmps23
      go_wp2_with (first | ((with_reducible refine gate_callee (f := 47) rfl ?_); refine goesL_ (some 7) rfl rfl Tryd.func47 (by kernel_rfl) rfl #[.int .i64 a0] rfl (by (try simp only [List.map_toArray, List.map_cons, List.map_nil]); first | done | rfl | (simp only [List.length_drop, List.length_take]; rfl)) ?_; (with_reducible refine (group_Valid.calls a0 true _ A3.out).mono ?_); rintro e w' ⟨rfl, ⟨nd, rfl⟩⟩; refine ⟨_, rfl, ?_⟩) | (go_at_call 47; (with_reducible refine (group_Valid.calls a1 true _ A5.out).mono ?_); rintro e w' ⟨rfl, ⟨nd, rfl⟩⟩))
      go_ret2
      exact ⟨by first | rfl | (simp; done) | (simp [*]; done), by repeat (first | exact Drawn0.refl _ | apply Drawn0.step)⟩
    · replace c6 := Bool.eq_false_iff.mpr c6
      subst c6
      have H1 : (some (0, 100)) = some (r1, r2) := by rw [if_neg (show ¬ (false = true) by decide)] at H; exact H
      clear H
      have H := H1
      clear H1
      simp only [Option.some.injEq, Prod.mk.injEq] at H
      obtain ⟨rfl, rfl⟩ := H
      go_enter Tryd.func23, Tryd.ntmps23
      go_wp2_with (first | ((with_reducible refine gate_callee (f := 47) rfl ?_); refine goesL_ (some 7) rfl rfl Tryd.func47 (by kernel_rfl) rfl #[.int .i64 a0] rfl (by (try simp only [List.map_toArray, List.map_cons, List.map_nil]); first | done | rfl | (simp only [List.length_drop, List.length_take]; rfl)) ?_; (with_reducible refine (group_Valid.calls a0 true _ A3.out).mono ?_); rintro e w' ⟨rfl, ⟨nd, rfl⟩⟩; refine ⟨_, rfl, ?_⟩) | (go_at_call 47; (with_reducible refine (group_Valid.calls a1 false _ A5.out).mono ?_); rintro e w' ⟨rfl, ⟨nd, rfl⟩⟩))
      go_ret2
      exact ⟨by first | rfl | (simp; done) | (simp [*]; done), by repeat (first | exact Drawn0.refl _ | apply Drawn0.step)⟩
  · replace c4 := Bool.eq_false_iff.mpr c4
    subst c4
    have H1 : (some (0, 100)) = some (r1, r2) := by rw [if_neg (show ¬ (false = true) by decide)] at H; exact H
    clear H
    have H := H1
    clear H1
    simp only [Option.some.injEq, Prod.mk.injEq] at H
    obtain ⟨rfl, rfl⟩ := H
    go_enter Tryd.func23, Tryd.ntmps23
    go_wp2_with (first | ((with_reducible refine gate_callee (f := 47) rfl ?_); refine goesL_ (some 7) rfl rfl Tryd.func47 (by kernel_rfl) rfl #[.int .i64 a0] rfl (by (try simp only [List.map_toArray, List.map_cons, List.map_nil]); first | done | rfl | (simp only [List.length_drop, List.length_take]; rfl)) ?_; (with_reducible refine (group_Valid.calls a0 false _ A3.out).mono ?_); rintro e w' ⟨rfl, ⟨nd, rfl⟩⟩; refine ⟨_, rfl, ?_⟩))
    go_ret2
    exact ⟨by first | rfl | (simp; done) | (simp [*]; done), by repeat (first | exact Drawn0.refl _ | apply Drawn0.step)⟩

end Go.Proofs.YthladfegmedpnaaDoor.P
namespace Go.Proofs.YthladfegmedpnaaDoor.P
open Go.RowKit Go.Proofs.YthladfegmedpnaaDoorW.PrintWords Go.Proofs.YthladfegmedpnaaDoorW.PrintLast Go.Proofs.YthladfegmedpnaaDoorW.PrintMore
attribute [local go_sem] max2_int min2_int max_two min_two max_three min_three max_four min_four
set_option linter.unusedVariables false
set_option linter.unusedSimpArgs false

/-! ### equal_mul: function 51 -/
def equal_mul.l0 : Nat → Int → List Int → Int → Int → Option (Int)
  | 0, _, _, _, _ => none
  | k + 1, x3, x6, x7, x8 => if x8 < x7 then (if 0 ≤ x8 then (if x8 < (x6.length : Int) then ((group_Mul.f x3 (rd x6 x8)).bind fun bt613 => (equal_mul.l0 k bt613.1 x6 x7 (wrap64 (x8 + 1)))) else (none)) else (none)) else (some x3)
def equal_mul.f (k : Nat) (l0 : List Int) : Option (Int) := equal_mul.l0 k 1 l0 (l0.length : Int) 0
theorem equal_mul.mono_l : ∀ k, (∀ y0 y1 y2 y3, LeO (equal_mul.l0 k y0 y1 y2 y3) (equal_mul.l0 (k + 1) y0 y1 y2 y3))
  | 0 => fun _ _ _ _ r h => by simp [equal_mul.l0] at h
  | k + 1 => by
    have ih0 := equal_mul.mono_l k
    · intro y0 y1 y2 y3
      unfold equal_mul.l0
      repeat' first
      | (with_reducible exact ih0 _ _ _ _)
      | (with_reducible exact LeO.refl _)
      | (with_reducible exact LeO.none _)
      | (with_reducible refine LeO.ite ?_ ?_)
      | (with_reducible refine LeO.bind ?_ (fun _ => ?_))
      | exact ih0 _ _ _ _
      | exact LeO.none _
      | refine LeO.ite ?_ ?_
      | refine LeO.bind ?_ (fun _ => ?_)
theorem equal_mul.mono : ∀ a0 k, LeO (equal_mul.f k a0) (equal_mul.f (k + 1) a0) := by
  intro a0 k
  have ih0 := equal_mul.mono_l k
  unfold equal_mul.f
  repeat' first
      | (with_reducible exact ih0 _ _ _ _)
      | (with_reducible exact LeO.refl _)
      | (with_reducible exact LeO.none _)
      | (with_reducible refine LeO.ite ?_ ?_)
      | (with_reducible refine LeO.bind ?_ (fun _ => ?_))
      | exact ih0 _ _ _ _
      | exact LeO.none _
      | refine LeO.ite ?_ ?_
      | refine LeO.bind ?_ (fun _ => ?_)
set_option maxHeartbeats 8000000 in
set_option maxRecDepth 100000 in
theorem equal_mul.calls (k : Nat) (A0 : Option Addr) (c0 : Nat) (l0 : List Int) (r : Int) (w : World) (hr0 : Kd.C (Kd.int .i64) w A0 l0.length l0) (hc0 : l0.length ≤ c0) (h : equal_mul.f k l0 = some r) :
    Calls Tryd.prog 51 #[.slice A0 l0.length c0] w fun e w' => e = .returned (.int .i64 r) ∧ Drawn0 w w' := by
  have HR0 := Aside0.mk hr0
  have HC0 := Aside0.mk hc0
  clear hr0 hc0
  have H : (equal_mul.l0 k 1 l0 (l0.length : Int) 0) = some r := h
  clear h
  have H' := Aside0.mk H
  clear H
  go_enter Tryd.func51, Tryd.ntmps51
  go_wp2
  go_loopg [3, 8] k (fun kq v3 v8 w' => ∃ (x3_1 : Int) (x8_1 : Int), v3 = .int .i64 x3_1 ∧ v8 = .int .i64 x8_1 ∧ Aside0 (equal_mul.l0 kq x3_1 l0 (l0.length : Int) x8_1 = some r) ∧ Aside0 (kq ≤ k) ∧ Drawn0 w w')
  case atStart => exact ⟨(1), (0), (by first | rfl | (simp; done) | (simp [*]; done)), (by first | rfl | (simp; done) | (simp [*]; done)), H', ⟨Nat.le_refl _⟩, by repeat (first | exact Drawn0.refl _ | apply Drawn0.step)⟩
  case round =>
    clear H'
    obtain ⟨x3_1, x8_1, rfl, rfl, HA, HK1, ⟨m1, rfl⟩⟩ := hrel
    cases gk with
    | zero => exact absurd HA.out (by simp [equal_mul.l0])
    | succ k1 =>
      have H := HA.out
      clear HA
      simp only [equal_mul.l0] at H
      by_cases c2 : x8_1 < (l0.length : Int)
      · rw [if_pos c2] at H
        have c2b0 : decide (x8_1 < (l0.length : Int)) = true := decide_eq_true c2
        clear c2
        by_cases c3 : 0 ≤ x8_1
        · rw [if_pos c3] at H
          have c3b0 : decide (0 ≤ x8_1) = true := decide_eq_true c3
          clear c3
          by_cases c4 : x8_1 < (l0.length : Int)
          · rw [if_pos c4] at H
            have c4b0 : decide (x8_1 < (l0.length : Int)) = true := decide_eq_true c4
            clear c4
            replace H := Option.bind_eq_some_iff.mp H
            obtain ⟨⟨t613, t614⟩, A50, H⟩ := H
            replace H : (equal_mul.l0 k1 t613 l0 (l0.length : Int) (wrap64 (x8_1 + 1))) = some r := H
            have A5 := Aside0.mk A50
            clear A50
            have H' := Aside0.mk H
            clear H
            have p612 : 0 ≤ (x8_1 : Int) := of_decide_eq_true (by first | (with_reducible assumption) | assumption)
            have q612 : x8_1 < (l0.length : Int) := of_decide_eq_true (by first | (with_reducible assumption) | assumption)
            obtain ⟨ad612, e612, hx612_0⟩ := Kd.at_int HR0.out x8_1 p612 q612
            cases e612
            replace p612 := eq_true p612
            replace q612 := eq_true q612
            go_wp2_with (first | ((with_reducible refine gate_callee (f := 23) rfl ?_); refine goesL_ (some 15) rfl rfl Tryd.func23 (by kernel_rfl) rfl #[.int .i64 x3_1, .int .i64 (rd l0 x8_1)] rfl (by (try simp only [List.map_toArray, List.map_cons, List.map_nil]); first | done | rfl | (simp only [List.length_drop, List.length_take]; rfl)) ?_; (with_reducible refine (group_Mul.calls x3_1 (rd l0 x8_1) t613 t614 _ A5.out).mono ?_); rintro e w' ⟨rfl, ⟨nd, rfl⟩⟩; refine ⟨_, rfl, ?_⟩))
            go_roundg k1
            case measure => have := HK1.out; omega
            case rel => exact ⟨(t613), (wrap64 (x8_1 + 1)), (by first | rfl | (simp; done) | (simp [*]; done)), (by first | rfl | (simp; done) | (simp [*]; done)), H', ⟨by have := HK1.out; omega⟩, by repeat (first | exact Drawn0.refl _ | apply Drawn0.step)⟩
          · rw [if_neg c4] at H
            exact absurd H (by simp)
        · rw [if_neg c3] at H
          exact absurd H (by simp)
      · rw [if_neg c2] at H
        have c2b0 : decide (x8_1 < (l0.length : Int)) = false := decide_eq_false c2
        clear c2
        obtain rfl := Option.some.inj H
        go_wp2
        go_ret
        exact ⟨by first | rfl | (simp; done) | (simp [*]; done), by repeat (first | exact Drawn0.refl _ | apply Drawn0.step)⟩

end Go.Proofs.YthladfegmedpnaaDoor.P
