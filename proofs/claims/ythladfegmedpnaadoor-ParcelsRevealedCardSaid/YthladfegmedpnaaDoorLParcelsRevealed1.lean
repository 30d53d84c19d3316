import Derived.Test.YthladfegmedpnaaDoorK4
import Derived.Test.YthladfegmedpnaaDoorKE5
import Derived.Test.YthladfegmedpnaaDoorK17
import Derived.Test.YthladfegmedpnaaDoorK15
set_option linter.unusedVariables false
set_option linter.unusedSimpArgs false
namespace Go.Proofs.YthladfegmedpnaaDoor.P
open Go.RowKit Go.Proofs.YthladfegmedpnaaDoorW.PrintWords Go.Proofs.YthladfegmedpnaaDoorW.PrintLast Go.Proofs.YthladfegmedpnaaDoorW.PrintMore
attribute [local go_sem] max2_int min2_int max_two min_two max_three min_three max_four min_four
set_option linter.unusedVariables false
set_option linter.unusedSimpArgs false

/-! ### signatorylaw35_ParcelsRevealed: function 13 -/
def signatorylaw35_ParcelsRevealed.j0 : Nat → Int → Int → Bool → Int → Int → Int → Option (Bool)
  | 0, _, _, _, _, _, _ => none
  | k + 1, x0, x1, x30, x499000, x499001, x499002 => if x30 = true then (some true) else ((group_Pow.f 4 x0).bind fun bt503 => ((equal_Prove.f k x0 x499001).bind fun bt505 => ((parcels_Open.f x0 x1 x499000 x499001 x499002).bind fun bt510 => ((parcels_With.f bt505.1 x1 x499000 x499001 x499002).bind fun bt512 => (if bt503.2 = 0 then (if bt505.2.2.2 = 0 then (if bt510.2 = 0 then (if bt512.2 = 0 then ((equal_Check.f bt503.1 x499001 bt505.1 bt505.2.1 bt505.2.2.1).bind fun t514 => (if t514 = true then (if bt510.1 = bt512.1 then ((signatoryref35_Number.f bt510.1).bind fun t515 => (some t515)) else (some false)) else (some false))) else (some false)) else (some false)) else (some false)) else (some false))))))
def signatorylaw35_ParcelsRevealed.f (k : Nat) (a0 : Int) (a1 : Int) (a2_0 : Int) (a2_1 : Int) (a2_2 : Int) : Option (Bool) := (signatorylaw35_sane.f).bind fun t499 => (if t499 = true then ((signatoryref35_Secret.f a0).bind fun t500 => (if t500 = true then ((signatoryref35_Person.f a1).bind fun t501 => (if t501 = true then ((signatoryref35_Right.f k a2_0 a2_1 a2_2).bind fun t502 => (signatorylaw35_ParcelsRevealed.j0 k a0 a1 (!t502) a2_0 a2_1 a2_2)) else (signatorylaw35_ParcelsRevealed.j0 k a0 a1 true a2_0 a2_1 a2_2))) else (signatorylaw35_ParcelsRevealed.j0 k a0 a1 true a2_0 a2_1 a2_2))) else (some false))
theorem signatorylaw35_ParcelsRevealed.mono_l : ∀ k, (∀ y0 y1 y2 y3 y4 y5, LeO (signatorylaw35_ParcelsRevealed.j0 k y0 y1 y2 y3 y4 y5) (signatorylaw35_ParcelsRevealed.j0 (k + 1) y0 y1 y2 y3 y4 y5))
  | 0 => fun _ _ _ _ _ _ r h => by simp [signatorylaw35_ParcelsRevealed.j0] at h
  | k + 1 => by
    have ih0 := signatorylaw35_ParcelsRevealed.mono_l k
    · intro y0 y1 y2 y3 y4 y5
      unfold signatorylaw35_ParcelsRevealed.j0
      repeat' first
      | (with_reducible exact ih0 _ _ _ _ _ _)
      | (with_reducible exact equal_Prove.mono _ _ _)
      | (with_reducible exact signatoryref35_Right.mono _ _ _ _)
      | (with_reducible exact LeO.refl _)
      | (with_reducible exact LeO.none _)
      | (with_reducible refine LeO.ite ?_ ?_)
      | (with_reducible refine LeO.bind ?_ (fun _ => ?_))
      | exact ih0 _ _ _ _ _ _
      | exact equal_Prove.mono _ _ _
      | exact signatoryref35_Right.mono _ _ _ _
      | exact LeO.none _
      | refine LeO.ite ?_ ?_
      | refine LeO.bind ?_ (fun _ => ?_)
theorem signatorylaw35_ParcelsRevealed.mono : ∀ a0 a1 a2 a3 a4 k, LeO (signatorylaw35_ParcelsRevealed.f k a0 a1 a2 a3 a4) (signatorylaw35_ParcelsRevealed.f (k + 1) a0 a1 a2 a3 a4) := by
  intro a0 a1 a2 a3 a4 k
  have ih0 := signatorylaw35_ParcelsRevealed.mono_l k
  unfold signatorylaw35_ParcelsRevealed.f
  repeat' first
      | (with_reducible exact ih0 _ _ _ _ _ _)
      | (with_reducible exact equal_Prove.mono _ _ _)
      | (with_reducible exact signatoryref35_Right.mono _ _ _ _)
      | (with_reducible exact LeO.refl _)
      | (with_reducible exact LeO.none _)
      | (with_reducible refine LeO.ite ?_ ?_)
      | (with_reducible refine LeO.bind ?_ (fun _ => ?_))
      | exact ih0 _ _ _ _ _ _
      | exact equal_Prove.mono _ _ _
      | exact signatoryref35_Right.mono _ _ _ _
      | exact LeO.none _
      | refine LeO.ite ?_ ?_
      | refine LeO.bind ?_ (fun _ => ?_)
set_option maxHeartbeats 8000000 in
set_option maxRecDepth 100000 in
theorem signatorylaw35_ParcelsRevealed.calls (k : Nat) (a0 : Int) (a1 : Int) (a2_0 : Int) (a2_1 : Int) (a2_2 : Int) (r : Bool) (w : World) (h : signatorylaw35_ParcelsRevealed.f k a0 a1 a2_0 a2_1 a2_2 = some r) (hT : r = true := by rfl) (hG : Glob w := by first | exact hG | exact Glob.below hG HB.out | exact Glob.below hG (by repeat (first | (with_reducible first | exact HB.out | apply below_alloc | apply pw_below_drewN | apply below_drew1 | refine below_set ?_ (Aside0.out (by assumption))) | exact HB.out))) :
    Calls Tryd.prog 13 #[.int .i64 a0, .int .i64 a1, .agg #[.int .i64 a2_0, .int .i64 a2_1, .int .i64 a2_2]] w fun e w' => e = .returned (.bool r) ∧ Below w.heap.size w w' := by
  have HT := Aside0.mk hT
  clear hT
  have hu48 := Tryd.underlying48
  have hu23 := Tryd.underlying23
  have HB := Aside0.mk (Below.refl w.heap.size w)
  have H : ((signatorylaw35_sane.f).bind fun t499 => (if t499 = true then ((signatoryref35_Secret.f a0).bind fun t500 => (if t500 = true then ((signatoryref35_Person.f a1).bind fun t501 => (if t501 = true then ((signatoryref35_Right.f k a2_0 a2_1 a2_2).bind fun t502 => (signatorylaw35_ParcelsRevealed.j0 k a0 a1 (!t502) a2_0 a2_1 a2_2)) else (signatorylaw35_ParcelsRevealed.j0 k a0 a1 true a2_0 a2_1 a2_2))) else (signatorylaw35_ParcelsRevealed.j0 k a0 a1 true a2_0 a2_1 a2_2))) else (some false))) = some r := h
  clear h
  replace H := Option.bind_eq_some_iff.mp H
  obtain ⟨t499, A40, H⟩ := H
  replace H : (if t499 = true then ((signatoryref35_Secret.f a0).bind fun t500 => (if t500 = true then ((signatoryref35_Person.f a1).bind fun t501 => (if t501 = true then ((signatoryref35_Right.f k a2_0 a2_1 a2_2).bind fun t502 => (signatorylaw35_ParcelsRevealed.j0 k a0 a1 (!t502) a2_0 a2_1 a2_2)) else (signatorylaw35_ParcelsRevealed.j0 k a0 a1 true a2_0 a2_1 a2_2))) else (signatorylaw35_ParcelsRevealed.j0 k a0 a1 true a2_0 a2_1 a2_2))) else (some false)) = some r := H
  have A4 := Aside0.mk A40
  clear A40
  by_cases c5 : t499 = true
  · subst c5
    have H1 : ((signatoryref35_Secret.f a0).bind fun t500 => (if t500 = true then ((signatoryref35_Person.f a1).bind fun t501 => (if t501 = true then ((signatoryref35_Right.f k a2_0 a2_1 a2_2).bind fun t502 => (signatorylaw35_ParcelsRevealed.j0 k a0 a1 (!t502) a2_0 a2_1 a2_2)) else (signatorylaw35_ParcelsRevealed.j0 k a0 a1 true a2_0 a2_1 a2_2))) else (signatorylaw35_ParcelsRevealed.j0 k a0 a1 true a2_0 a2_1 a2_2))) = some r := by rw [if_pos rfl] at H; exact H
    clear H
    have H := H1
    clear H1
    have HC6 := Aside0.mk H
    clear H
    go_enter Tryd.func13, Tryd.ntmps13
    go_upto_region 3 with (first | ((with_reducible refine gate_dst (N := 5) rfl ?_); refine box_event ?hg (N := 5) ?hd (cs := #[.int .i64 a2_0, .int .i64 a2_1, .int .i64 a2_2]) (t := 48) ?hr ?_; (case hd => rfl); (case hg => rfl); (case hr => first | (go_simp; done) | (go_simp; rfl)); intro gb498 hg w7 hbox hb; have n0_ := Aside0.mk (below_step (by repeat (first | (with_reducible first | exact HB.out | apply below_alloc | apply pw_below_drewN | apply below_drew1) | exact HB.out)) hb); have n1_ := Aside0.mk (hbox); have n2_ := Aside0.mk ((by rw [hg]; exact (below_size (by repeat (first | (with_reducible first | exact HB.out | apply below_alloc | apply pw_below_drewN | apply below_drew1) | exact HB.out))) : w.heap.size ≤ gb498)); have n3_ := Aside0.mk ((by rw [hg]; exact (below_size (by repeat (first | (with_reducible first | exact HB.out | apply below_alloc | apply pw_below_drewN | apply below_drew1) | exact HB.out))) : w.heap.size ≤ gb498)); clear HB; have HB := n0_; have BK498 := n1_; have GW498 := n2_; have GE498 := n3_; clear n0_ n1_ n2_ n3_; clear hb hbox hg) | ((with_reducible refine gate_callee (f := 26) rfl ?_); refine goesL_ (some 16) rfl rfl Tryd.func26 (by kernel_rfl) rfl #[] rfl (by (try simp only [List.map_toArray, List.map_cons, List.map_nil]); first | done | rfl | (simp only [List.length_drop, List.length_take]; rfl)) ?_; (with_reducible refine (signatorylaw35_sane.calls  true _ A4.out).mono ?_); rintro e w8 ⟨rfl, hb⟩; refine ⟨_, rfl, ?_⟩; have n0_ := Aside0.mk (blk_below (g := gb498) (o := .cells #[.int .i64 a2_0, .int .i64 a2_1, .int .i64 a2_2] 48 (0, 0)) (by (with_reducible repeat (first | refine blk_drewN ?_ _ | refine blk_drew ?_ | refine blk_alloc ?_ _)); exact BK498.out) hb); have n1_ := Aside0.mk (below_step (by repeat (first | (with_reducible first | exact HB.out | apply below_alloc | apply pw_below_drewN | apply below_drew1 | refine below_set ?_ GE498.out) | exact HB.out)) hb); clear BK498; clear HB; have BK498 := n0_; have HB := n1_; clear n0_ n1_; (try clear hb); (try clear hb2); (try clear hk); (try clear hi)))
    (try simp only [Act.put, List.setIfInBounds_toArray, List.set_cons_zero, List.set_cons_succ])
    go_cut [30] (fun v30 wc => ∃ (kq : Nat) (x30_5 : Bool), v30 = .bool x30_5 ∧ Aside0 (signatorylaw35_ParcelsRevealed.j0 kq a0 a1 x30_5 a2_0 a2_1 a2_2 = some r) ∧ Aside0 (kq ≤ k) ∧ Aside0 (wc.heap[gb498]? = some (.cells #[.int .i64 a2_0, .int .i64 a2_1, .int .i64 a2_2] 48 (0, 0))) ∧ Aside0 (Below w.heap.size w wc))
    case first =>
      have H := HC6.out
      clear HC6
      replace H := Option.bind_eq_some_iff.mp H
      obtain ⟨t500, A90, H⟩ := H
      replace H : (if t500 = true then ((signatoryref35_Person.f a1).bind fun t501 => (if t501 = true then ((signatoryref35_Right.f k a2_0 a2_1 a2_2).bind fun t502 => (signatorylaw35_ParcelsRevealed.j0 k a0 a1 (!t502) a2_0 a2_1 a2_2)) else (signatorylaw35_ParcelsRevealed.j0 k a0 a1 true a2_0 a2_1 a2_2))) else (signatorylaw35_ParcelsRevealed.j0 k a0 a1 true a2_0 a2_1 a2_2)) = some r := H
      have A9 := Aside0.mk A90
      clear A90
      by_cases c10 : t500 = true
      · subst c10
        have H1 : ((signatoryref35_Person.f a1).bind fun t501 => (if t501 = true then ((signatoryref35_Right.f k a2_0 a2_1 a2_2).bind fun t502 => (signatorylaw35_ParcelsRevealed.j0 k a0 a1 (!t502) a2_0 a2_1 a2_2)) else (signatorylaw35_ParcelsRevealed.j0 k a0 a1 true a2_0 a2_1 a2_2))) = some r := by rw [if_pos rfl] at H; exact H
        clear H
        have H := H1
        clear H1
        replace H := Option.bind_eq_some_iff.mp H
        obtain ⟨t501, A110, H⟩ := H
        replace H : (if t501 = true then ((signatoryref35_Right.f k a2_0 a2_1 a2_2).bind fun t502 => (signatorylaw35_ParcelsRevealed.j0 k a0 a1 (!t502) a2_0 a2_1 a2_2)) else (signatorylaw35_ParcelsRevealed.j0 k a0 a1 true a2_0 a2_1 a2_2)) = some r := H
        have A11 := Aside0.mk A110
        clear A110
        by_cases c12 : t501 = true
        · subst c12
          have H1 : ((signatoryref35_Right.f k a2_0 a2_1 a2_2).bind fun t502 => (signatorylaw35_ParcelsRevealed.j0 k a0 a1 (!t502) a2_0 a2_1 a2_2)) = some r := by rw [if_pos rfl] at H; exact H
          clear H
          have H := H1
          clear H1
          replace H := Option.bind_eq_some_iff.mp H
          obtain ⟨t502, A130, H⟩ := H
          replace H : (signatorylaw35_ParcelsRevealed.j0 k a0 a1 (!t502) a2_0 a2_1 a2_2) = some r := H
          have A13 := Aside0.mk A130
          clear A130
          have H' := Aside0.mk H
          clear H
          go_wp2_with (first | ((with_reducible refine gate_callee (f := 29) rfl ?_); refine goesL_ (some 19) rfl rfl Tryd.func29 (by kernel_rfl) rfl #[.int .i64 a0] rfl (by (try simp only [List.map_toArray, List.map_cons, List.map_nil]); first | done | rfl | (simp only [List.length_drop, List.length_take]; rfl)) ?_; (with_reducible refine (signatoryref35_Secret.calls a0 true _ A9.out).mono ?_); rintro e w' ⟨rfl, ⟨nd, rfl⟩⟩; refine ⟨_, rfl, ?_⟩) | (go_at_call 32; (with_reducible refine (signatoryref35_Person.calls a1 true _ A11.out).mono ?_); rintro e w' ⟨rfl, ⟨nd, rfl⟩⟩; have hcz14_0 : w8.cell? ⟨gb498, 0, none⟩ = some (.int .i64 a2_0) := (blk_cell BK498.out 0).trans rfl; have hcz14_1 : w8.cell? ⟨gb498, 1, none⟩ = some (.int .i64 a2_1) := (blk_cell BK498.out 1).trans rfl; have hcz14_2 : w8.cell? ⟨gb498, 2, none⟩ = some (.int .i64 a2_2) := (blk_cell BK498.out 2).trans rfl; have hfz14_0 := blk_frozen BK498.out 0; have hfz14_1 := blk_frozen BK498.out 1; have hfz14_2 := blk_frozen BK498.out 2) | (go_at_call 35; (with_reducible refine (signatoryref35_Right.calls k a2_0 a2_1 a2_2 t502 _ A13.out).mono ?_); rintro e w15 ⟨rfl, hb⟩; have n0_ := Aside0.mk (blk_below (g := gb498) (o := .cells #[.int .i64 a2_0, .int .i64 a2_1, .int .i64 a2_2] 48 (0, 0)) (by (with_reducible repeat (first | refine blk_drewN ?_ _ | refine blk_drew ?_ | refine blk_alloc ?_ _)); exact BK498.out) hb); have n1_ := Aside0.mk (below_step (by repeat (first | (with_reducible first | exact HB.out | apply below_alloc | apply pw_below_drewN | apply below_drew1 | refine below_set ?_ GE498.out) | exact HB.out)) hb); clear BK498; clear HB; have BK498 := n0_; have HB := n1_; clear n0_ n1_; (try clear hb); (try clear hb2); (try clear hk); (try clear hi)))
          go_meet
          case rel => exact ⟨_, (!t502), (by first | rfl | (simp; done) | (simp [*]; done)), H', ⟨by first | omega | exact Nat.le_refl _⟩, ⟨by (with_reducible repeat (first | refine blk_drewN ?_ _ | refine blk_drew ?_ | refine blk_alloc ?_ _)); exact BK498.out⟩, ⟨by repeat (first | (with_reducible first | exact HB.out | apply below_alloc | apply pw_below_drewN | apply below_drew1 | refine below_set ?_ GE498.out) | exact HB.out)⟩⟩
        · replace c12 := Bool.eq_false_iff.mpr c12
          subst c12
          have H1 : (signatorylaw35_ParcelsRevealed.j0 k a0 a1 true a2_0 a2_1 a2_2) = some r := by rw [if_neg (show ¬ (false = true) by decide)] at H; exact H
          clear H
          have H := H1
          clear H1
          have H' := Aside0.mk H
          clear H
          go_wp2_with (first | ((with_reducible refine gate_callee (f := 29) rfl ?_); refine goesL_ (some 19) rfl rfl Tryd.func29 (by kernel_rfl) rfl #[.int .i64 a0] rfl (by (try simp only [List.map_toArray, List.map_cons, List.map_nil]); first | done | rfl | (simp only [List.length_drop, List.length_take]; rfl)) ?_; (with_reducible refine (signatoryref35_Secret.calls a0 true _ A9.out).mono ?_); rintro e w' ⟨rfl, ⟨nd, rfl⟩⟩; refine ⟨_, rfl, ?_⟩) | (go_at_call 32; (with_reducible refine (signatoryref35_Person.calls a1 false _ A11.out).mono ?_); rintro e w' ⟨rfl, ⟨nd, rfl⟩⟩))
          go_meet
          case rel => exact ⟨_, (true), (by first | rfl | (simp; done) | (simp [*]; done)), H', ⟨by first | omega | exact Nat.le_refl _⟩, ⟨by (with_reducible repeat (first | refine blk_drewN ?_ _ | refine blk_drew ?_ | refine blk_alloc ?_ _)); exact BK498.out⟩, ⟨by repeat (first | (with_reducible first | exact HB.out | apply below_alloc | apply pw_below_drewN | apply below_drew1 | refine below_set ?_ GE498.out) | exact HB.out)⟩⟩
      · replace c10 := Bool.eq_false_iff.mpr c10
        subst c10
        have H1 : (signatorylaw35_ParcelsRevealed.j0 k a0 a1 true a2_0 a2_1 a2_2) = some r := by rw [if_neg (show ¬ (false = true) by decide)] at H; exact H
        clear H
        have H := H1
        clear H1
        have H' := Aside0.mk H
        clear H
        go_wp2_with (first | ((with_reducible refine gate_callee (f := 29) rfl ?_); refine goesL_ (some 19) rfl rfl Tryd.func29 (by kernel_rfl) rfl #[.int .i64 a0] rfl (by (try simp only [List.map_toArray, List.map_cons, List.map_nil]); first | done | rfl | (simp only [List.length_drop, List.length_take]; rfl)) ?_; (with_reducible refine (signatoryref35_Secret.calls a0 false _ A9.out).mono ?_); rintro e w' ⟨rfl, ⟨nd, rfl⟩⟩; refine ⟨_, rfl, ?_⟩))
        go_meet
        case rel => exact ⟨_, (true), (by first | rfl | (simp; done) | (simp [*]; done)), H', ⟨by first | omega | exact Nat.le_refl _⟩, ⟨by (with_reducible repeat (first | refine blk_drewN ?_ _ | refine blk_drew ?_ | refine blk_alloc ?_ _)); exact BK498.out⟩, ⟨by repeat (first | (with_reducible first | exact HB.out | apply below_alloc | apply pw_below_drewN | apply below_drew1 | refine below_set ?_ GE498.out) | exact HB.out)⟩⟩
    case rest =>
      clear HC6
      try clear c1
      try clear c2
      try clear p2
      try clear c5
      try clear c10
      try clear c12
      try clear c13
      try clear hcz14_0
      try clear hcz14_1
      try clear hcz14_2
      try clear hfz14_0
      try clear hfz14_1
      try clear hfz14_2
      obtain ⟨kq, x30_5, rfl, HA, HJ5, BK498, HB⟩ := hcut
      cases kq with
      | zero => exact absurd HA.out (by simp [signatorylaw35_ParcelsRevealed.j0])
      | succ kj5 =>
        have H := HA.out
        clear HA
        simp only [signatorylaw35_ParcelsRevealed.j0] at H
        by_cases c16 : x30_5 = true
        · subst c16
          have H1 : (some true) = some r := by rw [if_pos rfl] at H; exact H
          clear H
          have H := H1
          clear H1
          obtain rfl := Option.some.inj H
          go_wp2
          go_ret
          exact ⟨by first | rfl | (simp [errW_none, errW_some] <;> rfl) | (simp [*, errW_none, errW_some] <;> rfl), by repeat (first | (with_reducible first | exact HB.out | apply below_alloc | apply pw_below_drewN | apply below_drew1 | refine below_set ?_ GE498.out) | exact HB.out)⟩
        · replace c16 := Bool.eq_false_iff.mpr c16
          subst c16
          have H1 : ((group_Pow.f 4 a0).bind fun bt503 => ((equal_Prove.f kj5 a0 a2_1).bind fun bt505 => ((parcels_Open.f a0 a1 a2_0 a2_1 a2_2).bind fun bt510 => ((parcels_With.f bt505.1 a1 a2_0 a2_1 a2_2).bind fun bt512 => (if bt503.2 = 0 then (if bt505.2.2.2 = 0 then (if bt510.2 = 0 then (if bt512.2 = 0 then ((equal_Check.f bt503.1 a2_1 bt505.1 bt505.2.1 bt505.2.2.1).bind fun t514 => (if t514 = true then (if bt510.1 = bt512.1 then ((signatoryref35_Number.f bt510.1).bind fun t515 => (some t515)) else (some false)) else (some false))) else (some false)) else (some false)) else (some false)) else (some false)))))) = some r := by rw [if_neg (show ¬ (false = true) by decide)] at H; exact H
          clear H
          have H := H1
          clear H1
          replace H := Option.bind_eq_some_iff.mp H
          obtain ⟨⟨t503, t504⟩, A170, H⟩ := H
          replace H : ((equal_Prove.f kj5 a0 a2_1).bind fun bt505 => ((parcels_Open.f a0 a1 a2_0 a2_1 a2_2).bind fun bt510 => ((parcels_With.f bt505.1 a1 a2_0 a2_1 a2_2).bind fun bt512 => (if t504 = 0 then (if bt505.2.2.2 = 0 then (if bt510.2 = 0 then (if bt512.2 = 0 then ((equal_Check.f t503 a2_1 bt505.1 bt505.2.1 bt505.2.2.1).bind fun t514 => (if t514 = true then (if bt510.1 = bt512.1 then ((signatoryref35_Number.f bt510.1).bind fun t515 => (some t515)) else (some false)) else (some false))) else (some false)) else (some false)) else (some false)) else (some false))))) = some r := H
          have A17 := Aside0.mk A170
          clear A170
          replace H := Option.bind_eq_some_iff.mp H
          obtain ⟨⟨t505, t506, t507, t508⟩, A180, H⟩ := H
          replace H : ((parcels_Open.f a0 a1 a2_0 a2_1 a2_2).bind fun bt510 => ((parcels_With.f t505 a1 a2_0 a2_1 a2_2).bind fun bt512 => (if t504 = 0 then (if t508 = 0 then (if bt510.2 = 0 then (if bt512.2 = 0 then ((equal_Check.f t503 a2_1 t505 t506 t507).bind fun t514 => (if t514 = true then (if bt510.1 = bt512.1 then ((signatoryref35_Number.f bt510.1).bind fun t515 => (some t515)) else (some false)) else (some false))) else (some false)) else (some false)) else (some false)) else (some false)))) = some r := H
          have A18 := Aside0.mk A180
          clear A180
          replace H := Option.bind_eq_some_iff.mp H
          obtain ⟨⟨t510, t511⟩, A190, H⟩ := H
          replace H : ((parcels_With.f t505 a1 a2_0 a2_1 a2_2).bind fun bt512 => (if t504 = 0 then (if t508 = 0 then (if t511 = 0 then (if bt512.2 = 0 then ((equal_Check.f t503 a2_1 t505 t506 t507).bind fun t514 => (if t514 = true then (if t510 = bt512.1 then ((signatoryref35_Number.f t510).bind fun t515 => (some t515)) else (some false)) else (some false))) else (some false)) else (some false)) else (some false)) else (some false))) = some r := H
          have A19 := Aside0.mk A190
          clear A190
          replace H := Option.bind_eq_some_iff.mp H
          obtain ⟨⟨t512, t513⟩, A200, H⟩ := H
          replace H : (if t504 = 0 then (if t508 = 0 then (if t511 = 0 then (if t513 = 0 then ((equal_Check.f t503 a2_1 t505 t506 t507).bind fun t514 => (if t514 = true then (if t510 = t512 then ((signatoryref35_Number.f t510).bind fun t515 => (some t515)) else (some false)) else (some false))) else (some false)) else (some false)) else (some false)) else (some false)) = some r := H
          have A20 := Aside0.mk A200
          clear A200
          by_cases c21 : t504 = 0
          · rw [if_pos c21] at H
            have c21b0 : (t504 == 0) = true := beq_iff_eq.mpr c21
            have c21b1 : (t504 != 0) = false := bne_eq_false_iff_eq.mpr c21
            clear c21
            by_cases c22 : t508 = 0
            · rw [if_pos c22] at H
              have c22b0 : (t508 == 0) = true := beq_iff_eq.mpr c22
              have c22b1 : (t508 != 0) = false := bne_eq_false_iff_eq.mpr c22
              clear c22
              by_cases c23 : t511 = 0
              · rw [if_pos c23] at H
                have c23b0 : (t511 == 0) = true := beq_iff_eq.mpr c23
                have c23b1 : (t511 != 0) = false := bne_eq_false_iff_eq.mpr c23
                clear c23
                by_cases c24 : t513 = 0
                · rw [if_pos c24] at H
                  have c24b0 : (t513 == 0) = true := beq_iff_eq.mpr c24
                  have c24b1 : (t513 != 0) = false := bne_eq_false_iff_eq.mpr c24
                  clear c24
                  replace H := Option.bind_eq_some_iff.mp H
                  obtain ⟨t514, A250, H⟩ := H
                  replace H : (if t514 = true then (if t510 = t512 then ((signatoryref35_Number.f t510).bind fun t515 => (some t515)) else (some false)) else (some false)) = some r := H
                  have A25 := Aside0.mk A250
                  clear A250
                  by_cases c26 : t514 = true
                  · subst c26
                    have H1 : (if t510 = t512 then ((signatoryref35_Number.f t510).bind fun t515 => (some t515)) else (some false)) = some r := by rw [if_pos rfl] at H; exact H
                    clear H
                    have H := H1
                    clear H1
                    by_cases c27 : t510 = t512
                    · rw [if_pos c27] at H
                      have c27b0 : (t510 == t512) = true := beq_iff_eq.mpr c27
                      have c27b1 : (t510 != t512) = false := bne_eq_false_iff_eq.mpr c27
                      clear c27
                      replace H := Option.bind_eq_some_iff.mp H
                      obtain ⟨t515, A280, H⟩ := H
                      replace H : (some t515) = some r := H
                      have A28 := Aside0.mk A280
                      clear A280
                      obtain rfl := Option.some.inj H
                      go_wp2_with (first | ((with_reducible refine gate_callee (f := 31) rfl ?_); refine goesL_ (some 33) rfl rfl Tryd.func31 (by kernel_rfl) rfl #[.int .i64 4, .int .i64 a0] rfl (by (try simp only [List.map_toArray, List.map_cons, List.map_nil]); first | done | rfl | (simp only [List.length_drop, List.length_take]; rfl)) ?_; (with_reducible refine (group_Pow.calls 4 a0 t503 t504 _ A17.out).mono ?_); rintro e w29 ⟨rfl, hb⟩; refine ⟨_, rfl, ?_⟩; have n0_ := Aside0.mk (blk_below (g := gb498) (o := .cells #[.int .i64 a2_0, .int .i64 a2_1, .int .i64 a2_2] 48 (0, 0)) (by (with_reducible repeat (first | refine blk_drewN ?_ _ | refine blk_drew ?_ | refine blk_alloc ?_ _)); exact BK498.out) hb); have n1_ := Aside0.mk (below_step (by repeat (first | (with_reducible first | exact HB.out | apply below_alloc | apply pw_below_drewN | apply below_drew1 | refine below_set ?_ GE498.out) | exact HB.out)) hb); clear BK498; clear HB; have BK498 := n0_; have HB := n1_; clear n0_ n1_; (try clear hb); (try clear hb2); (try clear hk); (try clear hi); have hcz30_0 : w29.cell? ⟨gb498, 0, none⟩ = some (.int .i64 a2_0) := (blk_cell BK498.out 0).trans rfl; have hcz30_1 : w29.cell? ⟨gb498, 1, none⟩ = some (.int .i64 a2_1) := (blk_cell BK498.out 1).trans rfl; have hcz30_2 : w29.cell? ⟨gb498, 2, none⟩ = some (.int .i64 a2_2) := (blk_cell BK498.out 2).trans rfl; have hfz30_0 := blk_frozen BK498.out 0; have hfz30_1 := blk_frozen BK498.out 1; have hfz30_2 := blk_frozen BK498.out 2) | ((with_reducible refine gate_callee (f := 15) rfl ?_); refine goesL_ (some 40) rfl rfl Tryd.func15 (by kernel_rfl) rfl #[.int .i64 a0, .int .i64 a2_1] rfl (by (try simp only [List.map_toArray, List.map_cons, List.map_nil]); first | done | rfl | (simp only [List.length_drop, List.length_take]; rfl)) ?_; (with_reducible refine (equal_Prove.calls kj5 a0 a2_1 t505 t506 t507 t508 _ A18.out).mono ?_); rintro e w31 ⟨rfl, hb⟩; refine ⟨_, rfl, ?_⟩; have n0_ := Aside0.mk (blk_below (g := gb498) (o := .cells #[.int .i64 a2_0, .int .i64 a2_1, .int .i64 a2_2] 48 (0, 0)) (by (with_reducible repeat (first | refine blk_drewN ?_ _ | refine blk_drew ?_ | refine blk_alloc ?_ _)); exact BK498.out) hb); have n1_ := Aside0.mk (below_step (by repeat (first | (with_reducible first | exact HB.out | apply below_alloc | apply pw_below_drewN | apply below_drew1 | refine below_set ?_ GE498.out) | exact HB.out)) hb); clear BK498; clear HB; have BK498 := n0_; have HB := n1_; clear n0_ n1_; (try clear hb); (try clear hb2); (try clear hk); (try clear hi)) | ((with_reducible refine gate_dst (N := 10) rfl ?_); refine box_event ?hg (N := 10) ?hd (cs := #[.int .i64 0, .int .i64 0]) (t := 23) ?hr ?_; (case hd => rfl); (case hg => rfl); (case hr => first | (go_simp; done) | (go_simp; rfl)); intro gb509 hg w32 hbox hb; have n0_ := Aside0.mk (blk_below (g := gb498) (o := .cells #[.int .i64 a2_0, .int .i64 a2_1, .int .i64 a2_2] 48 (0, 0)) (by (with_reducible repeat (first | refine blk_drewN ?_ _ | refine blk_drew ?_ | refine blk_alloc ?_ _)); exact BK498.out) hb); have n1_ := Aside0.mk (below_step (by repeat (first | (with_reducible first | exact HB.out | apply below_alloc | apply pw_below_drewN | apply below_drew1 | refine below_set ?_ GE498.out) | exact HB.out)) hb); have n2_ := Aside0.mk (hbox); have n3_ := Aside0.mk ((by rw [hg]; exact (below_size (by repeat (first | (with_reducible first | exact HB.out | apply below_alloc | apply pw_below_drewN | apply below_drew1 | refine below_set ?_ GE498.out) | exact HB.out))) : w.heap.size ≤ gb509)); have n4_ := Aside0.mk ((by rw [hg]; exact (below_size (by repeat (first | (with_reducible first | exact HB.out | apply below_alloc | apply pw_below_drewN | apply below_drew1 | refine below_set ?_ GE498.out) | exact HB.out))) : w.heap.size ≤ gb509)); have n5_ := Aside0.mk ((by rw [hg]; exact Nat.ne_of_lt (blk_lt (g := gb498) (o := .cells #[.int .i64 a2_0, .int .i64 a2_1, .int .i64 a2_2] 48 (0, 0)) (by (with_reducible repeat (first | refine blk_drewN ?_ _ | refine blk_drew ?_ | refine blk_alloc ?_ _)); exact BK498.out)) : gb498 ≠ gb509)); have n6_ := Aside0.mk ((by rw [hg]; exact Nat.ne_of_gt (blk_lt (g := gb498) (o := .cells #[.int .i64 a2_0, .int .i64 a2_1, .int .i64 a2_2] 48 (0, 0)) (by (with_reducible repeat (first | refine blk_drewN ?_ _ | refine blk_drew ?_ | refine blk_alloc ?_ _)); exact BK498.out)) : gb509 ≠ gb498)); clear BK498; clear HB; have BK498 := n0_; have HB := n1_; have BK509 := n2_; have GW509 := n3_; have GE509 := n4_; have NB498_509 := n5_; have NB509_498 := n6_; clear n0_ n1_ n2_ n3_ n4_ n5_ n6_; clear hb hbox hg; have hnb33 := NB509_498.out; have hnc33 := NB498_509.out; have hcz34_0 : w32.cell? ⟨gb509, 0, none⟩ = some (.int .i64 0) := (blk_cell BK509.out 0).trans rfl; have hcz34_1 : w32.cell? ⟨gb509, 1, none⟩ = some (.int .i64 0) := (blk_cell BK509.out 1).trans rfl; have hfz34_0 := blk_frozen BK509.out 0; have hfz34_1 := blk_frozen BK509.out 1; have hcz35_0 : w32.cell? ⟨gb498, 0, none⟩ = some (.int .i64 a2_0) := (blk_cell BK498.out 0).trans rfl; have hcz35_1 : w32.cell? ⟨gb498, 1, none⟩ = some (.int .i64 a2_1) := (blk_cell BK498.out 1).trans rfl; have hcz35_2 : w32.cell? ⟨gb498, 2, none⟩ = some (.int .i64 a2_2) := (blk_cell BK498.out 2).trans rfl; have hfz35_0 := blk_frozen BK498.out 0; have hfz35_1 := blk_frozen BK498.out 1; have hfz35_2 := blk_frozen BK498.out 2) | ((with_reducible refine gate_callee (f := 30) rfl ?_); refine goesL_ (some 48) rfl rfl Tryd.func30 (by kernel_rfl) rfl #[.int .i64 a0, .int .i64 a1, .agg #[.int .i64 a2_0, .int .i64 a2_1, .int .i64 a2_2]] rfl (by (try simp only [List.map_toArray, List.map_cons, List.map_nil]); first | done | rfl | (simp only [List.length_drop, List.length_take]; rfl)) ?_; (with_reducible refine (parcels_Open.calls a0 a1 a2_0 a2_1 a2_2 t510 t511 _ A19.out).mono ?_); rintro e w36 ⟨rfl, hb⟩; refine ⟨_, rfl, ?_⟩; have n0_ := Aside0.mk (blk_below (g := gb498) (o := .cells #[.int .i64 a2_0, .int .i64 a2_1, .int .i64 a2_2] 48 (0, 0)) (by (with_reducible repeat (first | refine blk_drewN ?_ _ | refine blk_drew ?_ | refine blk_alloc ?_ _)); refine blk_far ?_ NB498_509.out _; (with_reducible repeat (first | refine blk_drewN ?_ _ | refine blk_drew ?_ | refine blk_alloc ?_ _)); refine blk_far ?_ NB498_509.out _; (with_reducible repeat (first | refine blk_drewN ?_ _ | refine blk_drew ?_ | refine blk_alloc ?_ _)); exact BK498.out) hb); have n1_ := Aside0.mk (blk_below (g := gb509) (o := .cells #[.int .i64 t506, .int .i64 t507] 23 (0, 0)) (by (with_reducible repeat (first | refine blk_drewN ?_ _ | refine blk_drew ?_ | refine blk_alloc ?_ _)); refine blk_put (cs := #[.int .i64 t506, .int .i64 0]) ?_ 1 _ rfl; (with_reducible repeat (first | refine blk_drewN ?_ _ | refine blk_drew ?_ | refine blk_alloc ?_ _)); refine blk_put (cs := #[.int .i64 0, .int .i64 0]) ?_ 0 _ rfl; (with_reducible repeat (first | refine blk_drewN ?_ _ | refine blk_drew ?_ | refine blk_alloc ?_ _)); exact BK509.out) hb); have n2_ := Aside0.mk (below_step (by repeat (first | (with_reducible first | exact HB.out | apply below_alloc | apply pw_below_drewN | apply below_drew1 | refine below_set ?_ GE498.out | refine below_set ?_ GE509.out) | exact HB.out)) hb); clear BK498; clear BK509; clear HB; have BK498 := n0_; have BK509 := n1_; have HB := n2_; clear n0_ n1_ n2_; (try clear hb); (try clear hb2); (try clear hk); (try clear hi); have hcz37_0 : w36.cell? ⟨gb498, 0, none⟩ = some (.int .i64 a2_0) := (blk_cell BK498.out 0).trans rfl; have hcz37_1 : w36.cell? ⟨gb498, 1, none⟩ = some (.int .i64 a2_1) := (blk_cell BK498.out 1).trans rfl; have hcz37_2 : w36.cell? ⟨gb498, 2, none⟩ = some (.int .i64 a2_2) := (blk_cell BK498.out 2).trans rfl; have hfz37_0 := blk_frozen BK498.out 0; have hfz37_1 := blk_frozen BK498.out 1; have hfz37_2 := blk_frozen BK498.out 2) | ((with_reducible refine gate_callee (f := 37) rfl ?_); refine goesL_ (some 55) rfl rfl Tryd.func37 (by kernel_rfl) rfl #[.int .i64 t505, .int .i64 a1, .agg #[.int .i64 a2_0, .int .i64 a2_1, .int .i64 a2_2]] rfl (by (try simp only [List.map_toArray, List.map_cons, List.map_nil]); first | done | rfl | (simp only [List.length_drop, List.length_take]; rfl)) ?_; (with_reducible refine (parcels_With.calls t505 a1 a2_0 a2_1 a2_2 t512 t513 _ A20.out).mono ?_); rintro e w38 ⟨rfl, hb⟩; refine ⟨_, rfl, ?_⟩; have n0_ := Aside0.mk (blk_below (g := gb498) (o := .cells #[.int .i64 a2_0, .int .i64 a2_1, .int .i64 a2_2] 48 (0, 0)) (by (with_reducible repeat (first | refine blk_drewN ?_ _ | refine blk_drew ?_ | refine blk_alloc ?_ _)); exact BK498.out) hb); have n1_ := Aside0.mk (blk_below (g := gb509) (o := .cells #[.int .i64 t506, .int .i64 t507] 23 (0, 0)) (by (with_reducible repeat (first | refine blk_drewN ?_ _ | refine blk_drew ?_ | refine blk_alloc ?_ _)); exact BK509.out) hb); have n2_ := Aside0.mk (below_step (by repeat (first | (with_reducible first | exact HB.out | apply below_alloc | apply pw_below_drewN | apply below_drew1 | refine below_set ?_ GE498.out | refine below_set ?_ GE509.out) | exact HB.out)) hb); clear BK498; clear BK509; clear HB; have BK498 := n0_; have BK509 := n1_; have HB := n2_; clear n0_ n1_ n2_; (try clear hb); (try clear hb2); (try clear hk); (try clear hi); have hcz39_0 : w38.cell? ⟨gb498, 0, none⟩ = some (.int .i64 a2_0) := (blk_cell BK498.out 0).trans rfl; have hcz39_1 : w38.cell? ⟨gb498, 1, none⟩ = some (.int .i64 a2_1) := (blk_cell BK498.out 1).trans rfl; have hcz39_2 : w38.cell? ⟨gb498, 2, none⟩ = some (.int .i64 a2_2) := (blk_cell BK498.out 2).trans rfl; have hfz39_0 := blk_frozen BK498.out 0; have hfz39_1 := blk_frozen BK498.out 1; have hfz39_2 := blk_frozen BK498.out 2; have hcz40_0 : w38.cell? ⟨gb509, 0, none⟩ = some (.int .i64 t506) := (blk_cell BK509.out 0).trans rfl; have hcz40_1 : w38.cell? ⟨gb509, 1, none⟩ = some (.int .i64 t507) := (blk_cell BK509.out 1).trans rfl; have hfz40_0 := blk_frozen BK509.out 0; have hfz40_1 := blk_frozen BK509.out 1) | (go_at_call 17; (with_reducible refine (equal_Check.calls t503 a2_1 t505 t506 t507 true _ A25.out).mono ?_); rintro e w41 ⟨rfl, hb⟩; have n0_ := Aside0.mk (blk_below (g := gb498) (o := .cells #[.int .i64 a2_0, .int .i64 a2_1, .int .i64 a2_2] 48 (0, 0)) (by (with_reducible repeat (first | refine blk_drewN ?_ _ | refine blk_drew ?_ | refine blk_alloc ?_ _)); exact BK498.out) hb); have n1_ := Aside0.mk (blk_below (g := gb509) (o := .cells #[.int .i64 t506, .int .i64 t507] 23 (0, 0)) (by (with_reducible repeat (first | refine blk_drewN ?_ _ | refine blk_drew ?_ | refine blk_alloc ?_ _)); exact BK509.out) hb); have n2_ := Aside0.mk (below_step (by repeat (first | (with_reducible first | exact HB.out | apply below_alloc | apply pw_below_drewN | apply below_drew1 | refine below_set ?_ GE498.out | refine below_set ?_ GE509.out) | exact HB.out)) hb); clear BK498; clear BK509; clear HB; have BK498 := n0_; have BK509 := n1_; have HB := n2_; clear n0_ n1_ n2_; (try clear hb); (try clear hb2); (try clear hk); (try clear hi)) | (go_at_call 34; (with_reducible refine (signatoryref35_Number.calls t510 t515 _ A28.out).mono ?_); rintro e w' ⟨rfl, ⟨nd, rfl⟩⟩))
                      go_ret
                      exact ⟨by first | rfl | (simp [errW_none, errW_some] <;> rfl) | (simp [*, errW_none, errW_some] <;> rfl), by repeat (first | (with_reducible first | exact HB.out | apply below_alloc | apply pw_below_drewN | apply below_drew1 | refine below_set ?_ GE498.out | refine below_set ?_ GE509.out) | exact HB.out)⟩
                    · rw [if_neg c27] at H
                      have c27b0 : (t510 == t512) = false := beq_eq_false_iff_ne.mpr c27
                      have c27b1 : (t510 != t512) = true := bne_iff_ne.mpr c27
                      exact absurd (H.trans (congrArg some HT.out)) (by simp)
                  · replace c26 := Bool.eq_false_iff.mpr c26
                    subst c26
                    have H1 : (some false) = some r := by rw [if_neg (show ¬ (false = true) by decide)] at H; exact H
                    clear H
                    have H := H1
                    clear H1
                    exact absurd (H.trans (congrArg some HT.out)) (by simp)
                · rw [if_neg c24] at H
                  have c24b0 : (t513 == 0) = false := beq_eq_false_iff_ne.mpr c24
                  have c24b1 : (t513 != 0) = true := bne_iff_ne.mpr c24
                  exact absurd (H.trans (congrArg some HT.out)) (by simp)
              · rw [if_neg c23] at H
                have c23b0 : (t511 == 0) = false := beq_eq_false_iff_ne.mpr c23
                have c23b1 : (t511 != 0) = true := bne_iff_ne.mpr c23
                exact absurd (H.trans (congrArg some HT.out)) (by simp)
            · rw [if_neg c22] at H
              have c22b0 : (t508 == 0) = false := beq_eq_false_iff_ne.mpr c22
              have c22b1 : (t508 != 0) = true := bne_iff_ne.mpr c22
              exact absurd (H.trans (congrArg some HT.out)) (by simp)
          · rw [if_neg c21] at H
            have c21b0 : (t504 == 0) = false := beq_eq_false_iff_ne.mpr c21
            have c21b1 : (t504 != 0) = true := bne_iff_ne.mpr c21
            exact absurd (H.trans (congrArg some HT.out)) (by simp)
  · replace c5 := Bool.eq_false_iff.mpr c5
    subst c5
    have H1 : (some false) = some r := by rw [if_neg (show ¬ (false = true) by decide)] at H; exact H
    clear H
    have H := H1
    clear H1
    exact absurd (H.trans (congrArg some HT.out)) (by simp)

end Go.Proofs.YthladfegmedpnaaDoor.P

namespace Go.Proofs.YthladfegmedpnaaDoor.P
open Go.RowKit Go.Proofs.YthladfegmedpnaaDoorW.PrintWords Go.Proofs.YthladfegmedpnaaDoorW.PrintLast Go.Proofs.YthladfegmedpnaaDoorW.PrintMore Go.Proofs.YthladfegmedpnaaDoor
set_option linter.unusedVariables false
set_option linter.unusedSimpArgs false

theorem ParcelsRevealed_f (secret dealer row point cipher : Int) : signatorylaw35_ParcelsRevealed.f 100 secret dealer row point cipher = some true := by
  have jt : ∀ k, 1 ≤ k → signatorylaw35_ParcelsRevealed.j0 k secret dealer true row point cipher = some true := fun k hk => by
    obtain ⟨k, rfl⟩ : ∃ j, k = j + 1 := ⟨k - 1, by omega⟩
    rw [signatorylaw35_ParcelsRevealed.j0, if_pos rfl]
  unfold signatorylaw35_ParcelsRevealed.f
  rw [sane35, Option.bind_some, if_pos rfl, ref35_Secret_f, Option.bind_some]
  cases hs : isSecret secret
  · rw [if_neg (by decide)]; exact jt 100 (by decide)
  · rw [if_pos rfl, ref35_Person_f, Option.bind_some]
    cases hd : isPers dealer
    · rw [if_neg (by decide)]; exact jt 100 (by decide)
    · rw [if_pos rfl, ref35_Right_f 100 (by decide), Option.bind_some]
      cases hr : rightP row point cipher
      · rw [Bool.not_false]; exact jt 100 (by decide)
      · obtain ⟨y0, y1, y2⟩ := right_parts hr
        have hc := prv_chk hs y1
        have q1 : group_Pow.f 4 secret = some (pwz 4 secret, 0) := by unfold group_Pow.f; rw [if_pos (secret35_i64 hs), if_pos vld_four]
        rw [Bool.not_true, signatorylaw35_ParcelsRevealed.j0, if_neg (by decide), q1, Option.bind_some, equal_Prove_f _ (by decide) secret point (i64_vld y1), prv_secret hs y1, Option.bind_some, open_yes hs hd hr, Option.bind_some, with_yes (vld_pw y1 secret) hd hr, Option.bind_some]
        rw [if_pos rfl, if_pos rfl, if_pos rfl, if_pos rfl]
        unfold equal_Check.f
        rw [hc, Option.bind_some, if_pos rfl, if_pos rfl, ref35_Number_f, Option.bind_some]
        rw [inQ_iff35.2 (by unfold opened; omega)]

end Go.Proofs.YthladfegmedpnaaDoor.P
