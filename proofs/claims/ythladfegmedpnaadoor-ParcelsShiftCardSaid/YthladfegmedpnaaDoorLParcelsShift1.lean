import Derived.Test.YthladfegmedpnaaDoorK4
import Derived.Test.YthladfegmedpnaaDoorLParcelsSpec1
import Derived.Test.YthladfegmedpnaaDoorK17
set_option linter.unusedVariables false
set_option linter.unusedSimpArgs false
namespace Go.Proofs.YthladfegmedpnaaDoor.P
open Go.RowKit Go.Proofs.YthladfegmedpnaaDoorW.PrintWords Go.Proofs.YthladfegmedpnaaDoorW.PrintLast Go.Proofs.YthladfegmedpnaaDoorW.PrintMore
attribute [local go_sem] max2_int min2_int max_two min_two max_three min_three max_four min_four
set_option linter.unusedVariables false
set_option linter.unusedSimpArgs false

attribute [local go_sem high] eqA48
/-! ### signatorylaw35_ParcelsShift: function 11 -/
mutual
def signatorylaw35_ParcelsShift.j0 : Nat → Int → Int → Int → Int → Int → Bool → Int → Int → Int → Option (Bool)
  | 0, _, _, _, _, _, _, _, _, _ => none
  | k + 1, x0, x1, x2, x3, x5, x31, x465000, x465001, x465002 => if x31 = true then (some true) else ((parcels_With.f x2 x3 x465000 x465001 x465002).bind fun bt469 => ((parcels_With.f x2 x3 x465000 x465001 (Int.tmod (wrap64 (x465002 + x5)) 1073741789)).bind fun bt471 => (if bt469.2 = bt471.2 then (if bt469.2 = 0 then (if bt471.1 = (Int.tmod (wrap64 (bt469.1 + x5)) 1073741789) then (signatorylaw35_ParcelsShift.j1 k x0 x1 x3 x5 false x465000 x465001 x465002 x465000 x465001 (Int.tmod (wrap64 (x465002 + x5)) 1073741789)) else (signatorylaw35_ParcelsShift.j1 k x0 x1 x3 x5 true x465000 x465001 x465002 x465000 x465001 (Int.tmod (wrap64 (x465002 + x5)) 1073741789))) else (if bt469.1 = 0 then (signatorylaw35_ParcelsShift.j1 k x0 x1 x3 x5 (bt471.1 != 0) x465000 x465001 x465002 x465000 x465001 (Int.tmod (wrap64 (x465002 + x5)) 1073741789)) else (signatorylaw35_ParcelsShift.j1 k x0 x1 x3 x5 true x465000 x465001 x465002 x465000 x465001 (Int.tmod (wrap64 (x465002 + x5)) 1073741789)))) else (signatorylaw35_ParcelsShift.j1 k x0 x1 x3 x5 true x465000 x465001 x465002 x465000 x465001 (Int.tmod (wrap64 (x465002 + x5)) 1073741789)))))
def signatorylaw35_ParcelsShift.j1 : Nat → Int → Int → Int → Int → Bool → Int → Int → Int → Int → Int → Int → Option (Bool)
  | 0, _, _, _, _, _, _, _, _, _, _, _ => none
  | k + 1, x0, x1, x3, x5, x79, x465000, x465001, x465002, x469000, x469001, x469002 => if x79 = true then (some false) else ((parcels_Seal.f x0 x1 x3 x465000 x465002).bind fun bt473 => ((parcels_Seal.f x0 x1 x3 x465000 x469002).bind fun bt478 => (if bt473.2.2.2 = bt478.2.2.2 then (if bt473.2.2.2 = 0 then (if bt473.2.1 = bt478.2.1 then (if bt473.1 = x465000 then (some (bt478.2.2.1 == (Int.tmod (wrap64 (bt473.2.2.1 + x5)) 1073741789))) else (some false)) else (some false)) else (if (bt473.1 == 0 && (bt473.2.1 == 0 && (bt473.2.2.1 == 0))) = true then (some (bt478.1 == 0 && (bt478.2.1 == 0 && (bt478.2.2.1 == 0)))) else (some false))) else (some false))))
end
def signatorylaw35_ParcelsShift.f (k : Nat) (a0 : Int) (a1 : Int) (a2 : Int) (a3 : Int) (a4_0 : Int) (a4_1 : Int) (a4_2 : Int) (a5 : Int) : Option (Bool) := (signatorylaw35_sane.f).bind fun t465 => (if t465 = true then ((signatoryref35_Right.f k a4_0 a4_1 a4_2).bind fun t466 => (if t466 = true then ((signatoryref35_Number.f a5).bind fun t467 => (signatorylaw35_ParcelsShift.j0 k a0 a1 a2 a3 a5 (!t467) a4_0 a4_1 a4_2)) else (signatorylaw35_ParcelsShift.j0 k a0 a1 a2 a3 a5 true a4_0 a4_1 a4_2))) else (some false))
theorem signatorylaw35_ParcelsShift.mono_l : ∀ k, (∀ y0 y1 y2 y3 y4 y5 y6 y7 y8, LeO (signatorylaw35_ParcelsShift.j0 k y0 y1 y2 y3 y4 y5 y6 y7 y8) (signatorylaw35_ParcelsShift.j0 (k + 1) y0 y1 y2 y3 y4 y5 y6 y7 y8)) ∧ (∀ y0 y1 y2 y3 y4 y5 y6 y7 y8 y9 y10, LeO (signatorylaw35_ParcelsShift.j1 k y0 y1 y2 y3 y4 y5 y6 y7 y8 y9 y10) (signatorylaw35_ParcelsShift.j1 (k + 1) y0 y1 y2 y3 y4 y5 y6 y7 y8 y9 y10))
  | 0 => ⟨fun _ _ _ _ _ _ _ _ _ r h => by simp [signatorylaw35_ParcelsShift.j0] at h, fun _ _ _ _ _ _ _ _ _ _ _ r h => by simp [signatorylaw35_ParcelsShift.j1] at h⟩
  | k + 1 => by
    obtain ⟨ih0, ih1⟩ := signatorylaw35_ParcelsShift.mono_l k
    refine ⟨?_, ?_⟩
    · intro y0 y1 y2 y3 y4 y5 y6 y7 y8
      unfold signatorylaw35_ParcelsShift.j0
      repeat' first
      | (with_reducible exact ih0 _ _ _ _ _ _ _ _ _)
      | (with_reducible exact ih1 _ _ _ _ _ _ _ _ _ _ _)
      | (with_reducible exact signatoryref35_Right.mono _ _ _ _)
      | (with_reducible exact LeO.refl _)
      | (with_reducible exact LeO.none _)
      | (with_reducible refine LeO.ite ?_ ?_)
      | (with_reducible refine LeO.bind ?_ (fun _ => ?_))
      | exact ih0 _ _ _ _ _ _ _ _ _
      | exact ih1 _ _ _ _ _ _ _ _ _ _ _
      | exact signatoryref35_Right.mono _ _ _ _
      | exact LeO.none _
      | refine LeO.ite ?_ ?_
      | refine LeO.bind ?_ (fun _ => ?_)
    · intro y0 y1 y2 y3 y4 y5 y6 y7 y8 y9 y10
      unfold signatorylaw35_ParcelsShift.j1
      repeat' first
      | (with_reducible exact ih0 _ _ _ _ _ _ _ _ _)
      | (with_reducible exact ih1 _ _ _ _ _ _ _ _ _ _ _)
      | (with_reducible exact signatoryref35_Right.mono _ _ _ _)
      | (with_reducible exact LeO.refl _)
      | (with_reducible exact LeO.none _)
      | (with_reducible refine LeO.ite ?_ ?_)
      | (with_reducible refine LeO.bind ?_ (fun _ => ?_))
      | exact ih0 _ _ _ _ _ _ _ _ _
      | exact ih1 _ _ _ _ _ _ _ _ _ _ _
      | exact signatoryref35_Right.mono _ _ _ _
      | exact LeO.none _
      | refine LeO.ite ?_ ?_
      | refine LeO.bind ?_ (fun _ => ?_)
theorem signatorylaw35_ParcelsShift.mono : ∀ a0 a1 a2 a3 a4 a5 a6 a7 k, LeO (signatorylaw35_ParcelsShift.f k a0 a1 a2 a3 a4 a5 a6 a7) (signatorylaw35_ParcelsShift.f (k + 1) a0 a1 a2 a3 a4 a5 a6 a7) := by
  intro a0 a1 a2 a3 a4 a5 a6 a7 k
  obtain ⟨ih0, ih1⟩ := signatorylaw35_ParcelsShift.mono_l k
  unfold signatorylaw35_ParcelsShift.f
  repeat' first
      | (with_reducible exact ih0 _ _ _ _ _ _ _ _ _)
      | (with_reducible exact ih1 _ _ _ _ _ _ _ _ _ _ _)
      | (with_reducible exact signatoryref35_Right.mono _ _ _ _)
      | (with_reducible exact LeO.refl _)
      | (with_reducible exact LeO.none _)
      | (with_reducible refine LeO.ite ?_ ?_)
      | (with_reducible refine LeO.bind ?_ (fun _ => ?_))
      | exact ih0 _ _ _ _ _ _ _ _ _
      | exact ih1 _ _ _ _ _ _ _ _ _ _ _
      | exact signatoryref35_Right.mono _ _ _ _
      | exact LeO.none _
      | refine LeO.ite ?_ ?_
      | refine LeO.bind ?_ (fun _ => ?_)
set_option maxHeartbeats 8000000 in
set_option maxRecDepth 100000 in
theorem signatorylaw35_ParcelsShift.calls (k : Nat) (a0 : Int) (a1 : Int) (a2 : Int) (a3 : Int) (a4_0 : Int) (a4_1 : Int) (a4_2 : Int) (a5 : Int) (r : Bool) (w : World) (h : signatorylaw35_ParcelsShift.f k a0 a1 a2 a3 a4_0 a4_1 a4_2 a5 = some r) (hT : r = true := by rfl) (hG : Glob w := by first | exact hG | exact Glob.below hG HB.out | exact Glob.below hG (by repeat (first | (with_reducible first | exact HB.out | apply below_alloc | apply pw_below_drewN | apply below_drew1 | refine below_set ?_ (Aside0.out (by assumption))) | exact HB.out))) :
    Calls Tryd.prog 11 #[.int .i64 a0, .int .i64 a1, .int .i64 a2, .int .i64 a3, .agg #[.int .i64 a4_0, .int .i64 a4_1, .int .i64 a4_2], .int .i64 a5] w fun e w' => e = .returned (.bool r) ∧ Below w.heap.size w w' := by
  have HT := Aside0.mk hT
  clear hT
  have hu48 := Tryd.underlying48
  have HB := Aside0.mk (Below.refl w.heap.size w)
  have H : ((signatorylaw35_sane.f).bind fun t465 => (if t465 = true then ((signatoryref35_Right.f k a4_0 a4_1 a4_2).bind fun t466 => (if t466 = true then ((signatoryref35_Number.f a5).bind fun t467 => (signatorylaw35_ParcelsShift.j0 k a0 a1 a2 a3 a5 (!t467) a4_0 a4_1 a4_2)) else (signatorylaw35_ParcelsShift.j0 k a0 a1 a2 a3 a5 true a4_0 a4_1 a4_2))) else (some false))) = some r := h
  clear h
  replace H := Option.bind_eq_some_iff.mp H
  obtain ⟨t465, A70, H⟩ := H
  replace H : (if t465 = true then ((signatoryref35_Right.f k a4_0 a4_1 a4_2).bind fun t466 => (if t466 = true then ((signatoryref35_Number.f a5).bind fun t467 => (signatorylaw35_ParcelsShift.j0 k a0 a1 a2 a3 a5 (!t467) a4_0 a4_1 a4_2)) else (signatorylaw35_ParcelsShift.j0 k a0 a1 a2 a3 a5 true a4_0 a4_1 a4_2))) else (some false)) = some r := H
  have A7 := Aside0.mk A70
  clear A70
  by_cases c8 : t465 = true
  · subst c8
    have H1 : ((signatoryref35_Right.f k a4_0 a4_1 a4_2).bind fun t466 => (if t466 = true then ((signatoryref35_Number.f a5).bind fun t467 => (signatorylaw35_ParcelsShift.j0 k a0 a1 a2 a3 a5 (!t467) a4_0 a4_1 a4_2)) else (signatorylaw35_ParcelsShift.j0 k a0 a1 a2 a3 a5 true a4_0 a4_1 a4_2))) = some r := by rw [if_pos rfl] at H; exact H
    clear H
    have H := H1
    clear H1
    have HC9 := Aside0.mk H
    clear H
    go_enter Tryd.func11, Tryd.ntmps11
    go_upto_region 3 with (first | ((with_reducible refine gate_dst (N := 10) rfl ?_); refine box_event ?hg (N := 10) ?hd (cs := #[.int .i64 a4_0, .int .i64 a4_1, .int .i64 a4_2]) (t := 48) ?hr ?_; (case hd => rfl); (case hg => rfl); (case hr => first | (go_simp; done) | (go_simp; rfl)); intro gb464 hg w10 hbox hb; have n0_ := Aside0.mk (below_step (by repeat (first | (with_reducible first | exact HB.out | apply below_alloc | apply pw_below_drewN | apply below_drew1) | exact HB.out)) hb); have n1_ := Aside0.mk (hbox); have n2_ := Aside0.mk ((by rw [hg]; exact (below_size (by repeat (first | (with_reducible first | exact HB.out | apply below_alloc | apply pw_below_drewN | apply below_drew1) | exact HB.out))) : w.heap.size ≤ gb464)); have n3_ := Aside0.mk ((by rw [hg]; exact (below_size (by repeat (first | (with_reducible first | exact HB.out | apply below_alloc | apply pw_below_drewN | apply below_drew1) | exact HB.out))) : w.heap.size ≤ gb464)); clear HB; have HB := n0_; have BK464 := n1_; have GW464 := n2_; have GE464 := n3_; clear n0_ n1_ n2_ n3_; clear hb hbox hg) | ((with_reducible refine gate_callee (f := 26) rfl ?_); refine goesL_ (some 22) rfl rfl Tryd.func26 (by kernel_rfl) rfl #[] rfl (by (try simp only [List.map_toArray, List.map_cons, List.map_nil]); first | done | rfl | (simp only [List.length_drop, List.length_take]; rfl)) ?_; (with_reducible refine (signatorylaw35_sane.calls  true _ A7.out).mono ?_); rintro e w11 ⟨rfl, hb⟩; refine ⟨_, rfl, ?_⟩; have n0_ := Aside0.mk (blk_below (g := gb464) (o := .cells #[.int .i64 a4_0, .int .i64 a4_1, .int .i64 a4_2] 48 (0, 0)) (by (with_reducible repeat (first | refine blk_drewN ?_ _ | refine blk_drew ?_ | refine blk_alloc ?_ _)); exact BK464.out) hb); have n1_ := Aside0.mk (below_step (by repeat (first | (with_reducible first | exact HB.out | apply below_alloc | apply pw_below_drewN | apply below_drew1 | refine below_set ?_ GE464.out) | exact HB.out)) hb); clear BK464; clear HB; have BK464 := n0_; have HB := n1_; clear n0_ n1_; (try clear hb); (try clear hb2); (try clear hk); (try clear hi)))
    (try simp only [Act.put, List.setIfInBounds_toArray, List.set_cons_zero, List.set_cons_succ])
    go_cut [31] (fun v31 wc => ∃ (kq : Nat) (x31_8 : Bool), v31 = .bool x31_8 ∧ Aside0 (signatorylaw35_ParcelsShift.j0 kq a0 a1 a2 a3 a5 x31_8 a4_0 a4_1 a4_2 = some r) ∧ Aside0 (kq ≤ k) ∧ Aside0 (wc.heap[gb464]? = some (.cells #[.int .i64 a4_0, .int .i64 a4_1, .int .i64 a4_2] 48 (0, 0))) ∧ Aside0 (Below w.heap.size w wc))
    case first =>
      have H := HC9.out
      clear HC9
      replace H := Option.bind_eq_some_iff.mp H
      obtain ⟨t466, A120, H⟩ := H
      replace H : (if t466 = true then ((signatoryref35_Number.f a5).bind fun t467 => (signatorylaw35_ParcelsShift.j0 k a0 a1 a2 a3 a5 (!t467) a4_0 a4_1 a4_2)) else (signatorylaw35_ParcelsShift.j0 k a0 a1 a2 a3 a5 true a4_0 a4_1 a4_2)) = some r := H
      have A12 := Aside0.mk A120
      clear A120
      by_cases c13 : t466 = true
      · subst c13
        have H1 : ((signatoryref35_Number.f a5).bind fun t467 => (signatorylaw35_ParcelsShift.j0 k a0 a1 a2 a3 a5 (!t467) a4_0 a4_1 a4_2)) = some r := by rw [if_pos rfl] at H; exact H
        clear H
        have H := H1
        clear H1
        replace H := Option.bind_eq_some_iff.mp H
        obtain ⟨t467, A140, H⟩ := H
        replace H : (signatorylaw35_ParcelsShift.j0 k a0 a1 a2 a3 a5 (!t467) a4_0 a4_1 a4_2) = some r := H
        have A14 := Aside0.mk A140
        clear A140
        have H' := Aside0.mk H
        clear H
        have hcz15_0 : w11.cell? ⟨gb464, 0, none⟩ = some (.int .i64 a4_0) := (blk_cell BK464.out 0).trans rfl
        have hcz15_1 : w11.cell? ⟨gb464, 1, none⟩ = some (.int .i64 a4_1) := (blk_cell BK464.out 1).trans rfl
        have hcz15_2 : w11.cell? ⟨gb464, 2, none⟩ = some (.int .i64 a4_2) := (blk_cell BK464.out 2).trans rfl
        have hfz15_0 := blk_frozen BK464.out 0
        have hfz15_1 := blk_frozen BK464.out 1
        have hfz15_2 := blk_frozen BK464.out 2
        go_wp2_with (first | ((with_reducible refine gate_callee (f := 35) rfl ?_); refine goesL_ (some 25) rfl rfl Tryd.func35 (by kernel_rfl) rfl #[.agg #[.int .i64 a4_0, .int .i64 a4_1, .int .i64 a4_2]] rfl (by (try simp only [List.map_toArray, List.map_cons, List.map_nil]); first | done | rfl | (simp only [List.length_drop, List.length_take]; rfl)) ?_; (with_reducible refine (signatoryref35_Right.calls k a4_0 a4_1 a4_2 true _ A12.out).mono ?_); rintro e w16 ⟨rfl, hb⟩; refine ⟨_, rfl, ?_⟩; have n0_ := Aside0.mk (blk_below (g := gb464) (o := .cells #[.int .i64 a4_0, .int .i64 a4_1, .int .i64 a4_2] 48 (0, 0)) (by (with_reducible repeat (first | refine blk_drewN ?_ _ | refine blk_drew ?_ | refine blk_alloc ?_ _)); exact BK464.out) hb); have n1_ := Aside0.mk (below_step (by repeat (first | (with_reducible first | exact HB.out | apply below_alloc | apply pw_below_drewN | apply below_drew1 | refine below_set ?_ GE464.out) | exact HB.out)) hb); clear BK464; clear HB; have BK464 := n0_; have HB := n1_; clear n0_ n1_; (try clear hb); (try clear hb2); (try clear hk); (try clear hi)) | (go_at_call 34; (with_reducible refine (signatoryref35_Number.calls a5 t467 _ A14.out).mono ?_); rintro e w' ⟨rfl, ⟨nd, rfl⟩⟩))
        go_meet
        case rel => exact ⟨_, (!t467), (by first | rfl | (simp; done) | (simp [*]; done)), H', ⟨by first | omega | exact Nat.le_refl _⟩, ⟨by (with_reducible repeat (first | refine blk_drewN ?_ _ | refine blk_drew ?_ | refine blk_alloc ?_ _)); exact BK464.out⟩, ⟨by repeat (first | (with_reducible first | exact HB.out | apply below_alloc | apply pw_below_drewN | apply below_drew1 | refine below_set ?_ GE464.out) | exact HB.out)⟩⟩
      · replace c13 := Bool.eq_false_iff.mpr c13
        subst c13
        have H1 : (signatorylaw35_ParcelsShift.j0 k a0 a1 a2 a3 a5 true a4_0 a4_1 a4_2) = some r := by rw [if_neg (show ¬ (false = true) by decide)] at H; exact H
        clear H
        have H := H1
        clear H1
        have H' := Aside0.mk H
        clear H
        have hcz17_0 : w11.cell? ⟨gb464, 0, none⟩ = some (.int .i64 a4_0) := (blk_cell BK464.out 0).trans rfl
        have hcz17_1 : w11.cell? ⟨gb464, 1, none⟩ = some (.int .i64 a4_1) := (blk_cell BK464.out 1).trans rfl
        have hcz17_2 : w11.cell? ⟨gb464, 2, none⟩ = some (.int .i64 a4_2) := (blk_cell BK464.out 2).trans rfl
        have hfz17_0 := blk_frozen BK464.out 0
        have hfz17_1 := blk_frozen BK464.out 1
        have hfz17_2 := blk_frozen BK464.out 2
        go_wp2_with (first | ((with_reducible refine gate_callee (f := 35) rfl ?_); refine goesL_ (some 25) rfl rfl Tryd.func35 (by kernel_rfl) rfl #[.agg #[.int .i64 a4_0, .int .i64 a4_1, .int .i64 a4_2]] rfl (by (try simp only [List.map_toArray, List.map_cons, List.map_nil]); first | done | rfl | (simp only [List.length_drop, List.length_take]; rfl)) ?_; (with_reducible refine (signatoryref35_Right.calls k a4_0 a4_1 a4_2 false _ A12.out).mono ?_); rintro e w18 ⟨rfl, hb⟩; refine ⟨_, rfl, ?_⟩; have n0_ := Aside0.mk (blk_below (g := gb464) (o := .cells #[.int .i64 a4_0, .int .i64 a4_1, .int .i64 a4_2] 48 (0, 0)) (by (with_reducible repeat (first | refine blk_drewN ?_ _ | refine blk_drew ?_ | refine blk_alloc ?_ _)); exact BK464.out) hb); have n1_ := Aside0.mk (below_step (by repeat (first | (with_reducible first | exact HB.out | apply below_alloc | apply pw_below_drewN | apply below_drew1 | refine below_set ?_ GE464.out) | exact HB.out)) hb); clear BK464; clear HB; have BK464 := n0_; have HB := n1_; clear n0_ n1_; (try clear hb); (try clear hb2); (try clear hk); (try clear hi)))
        go_meet
        case rel => exact ⟨_, (true), (by first | rfl | (simp; done) | (simp [*]; done)), H', ⟨by first | omega | exact Nat.le_refl _⟩, ⟨by (with_reducible repeat (first | refine blk_drewN ?_ _ | refine blk_drew ?_ | refine blk_alloc ?_ _)); exact BK464.out⟩, ⟨by repeat (first | (with_reducible first | exact HB.out | apply below_alloc | apply pw_below_drewN | apply below_drew1 | refine below_set ?_ GE464.out) | exact HB.out)⟩⟩
    case rest =>
      clear HC9
      try clear c1
      try clear c2
      try clear p2
      try clear c3
      try clear c8
      try clear c11
      try clear c13
      try clear hcz15_0
      try clear hcz15_1
      try clear hcz15_2
      try clear hcz17_0
      try clear hcz17_1
      try clear hcz17_2
      try clear hfz15_0
      try clear hfz15_1
      try clear hfz15_2
      try clear hfz17_0
      try clear hfz17_1
      try clear hfz17_2
      obtain ⟨kq, x31_8, rfl, HA, HJ8, BK464, HB⟩ := hcut
      cases kq with
      | zero => exact absurd HA.out (by simp [signatorylaw35_ParcelsShift.j0])
      | succ kj8 =>
        have H := HA.out
        clear HA
        simp only [signatorylaw35_ParcelsShift.j0] at H
        by_cases c19 : x31_8 = true
        · subst c19
          have H1 : (some true) = some r := by rw [if_pos rfl] at H; exact H
          clear H
          have H := H1
          clear H1
          obtain rfl := Option.some.inj H
          go_wp2
          go_ret
          exact ⟨by first | rfl | (simp [errW_none, errW_some] <;> rfl) | (simp [*, errW_none, errW_some] <;> rfl), by repeat (first | (with_reducible first | exact HB.out | apply below_alloc | apply pw_below_drewN | apply below_drew1 | refine below_set ?_ GE464.out) | exact HB.out)⟩
        · replace c19 := Bool.eq_false_iff.mpr c19
          subst c19
          have H1 : ((parcels_With.f a2 a3 a4_0 a4_1 a4_2).bind fun bt469 => ((parcels_With.f a2 a3 a4_0 a4_1 (Int.tmod (wrap64 (a4_2 + a5)) 1073741789)).bind fun bt471 => (if bt469.2 = bt471.2 then (if bt469.2 = 0 then (if bt471.1 = (Int.tmod (wrap64 (bt469.1 + a5)) 1073741789) then (signatorylaw35_ParcelsShift.j1 kj8 a0 a1 a3 a5 false a4_0 a4_1 a4_2 a4_0 a4_1 (Int.tmod (wrap64 (a4_2 + a5)) 1073741789)) else (signatorylaw35_ParcelsShift.j1 kj8 a0 a1 a3 a5 true a4_0 a4_1 a4_2 a4_0 a4_1 (Int.tmod (wrap64 (a4_2 + a5)) 1073741789))) else (if bt469.1 = 0 then (signatorylaw35_ParcelsShift.j1 kj8 a0 a1 a3 a5 (bt471.1 != 0) a4_0 a4_1 a4_2 a4_0 a4_1 (Int.tmod (wrap64 (a4_2 + a5)) 1073741789)) else (signatorylaw35_ParcelsShift.j1 kj8 a0 a1 a3 a5 true a4_0 a4_1 a4_2 a4_0 a4_1 (Int.tmod (wrap64 (a4_2 + a5)) 1073741789)))) else (signatorylaw35_ParcelsShift.j1 kj8 a0 a1 a3 a5 true a4_0 a4_1 a4_2 a4_0 a4_1 (Int.tmod (wrap64 (a4_2 + a5)) 1073741789))))) = some r := by rw [if_neg (show ¬ (false = true) by decide)] at H; exact H
          clear H
          have H := H1
          clear H1
          replace H := Option.bind_eq_some_iff.mp H
          obtain ⟨⟨t469, t470⟩, A200, H⟩ := H
          replace H : ((parcels_With.f a2 a3 a4_0 a4_1 (Int.tmod (wrap64 (a4_2 + a5)) 1073741789)).bind fun bt471 => (if t470 = bt471.2 then (if t470 = 0 then (if bt471.1 = (Int.tmod (wrap64 (t469 + a5)) 1073741789) then (signatorylaw35_ParcelsShift.j1 kj8 a0 a1 a3 a5 false a4_0 a4_1 a4_2 a4_0 a4_1 (Int.tmod (wrap64 (a4_2 + a5)) 1073741789)) else (signatorylaw35_ParcelsShift.j1 kj8 a0 a1 a3 a5 true a4_0 a4_1 a4_2 a4_0 a4_1 (Int.tmod (wrap64 (a4_2 + a5)) 1073741789))) else (if t469 = 0 then (signatorylaw35_ParcelsShift.j1 kj8 a0 a1 a3 a5 (bt471.1 != 0) a4_0 a4_1 a4_2 a4_0 a4_1 (Int.tmod (wrap64 (a4_2 + a5)) 1073741789)) else (signatorylaw35_ParcelsShift.j1 kj8 a0 a1 a3 a5 true a4_0 a4_1 a4_2 a4_0 a4_1 (Int.tmod (wrap64 (a4_2 + a5)) 1073741789)))) else (signatorylaw35_ParcelsShift.j1 kj8 a0 a1 a3 a5 true a4_0 a4_1 a4_2 a4_0 a4_1 (Int.tmod (wrap64 (a4_2 + a5)) 1073741789)))) = some r := H
          have A20 := Aside0.mk A200
          clear A200
          replace H := Option.bind_eq_some_iff.mp H
          obtain ⟨⟨t471, t472⟩, A210, H⟩ := H
          replace H : (if t470 = t472 then (if t470 = 0 then (if t471 = (Int.tmod (wrap64 (t469 + a5)) 1073741789) then (signatorylaw35_ParcelsShift.j1 kj8 a0 a1 a3 a5 false a4_0 a4_1 a4_2 a4_0 a4_1 (Int.tmod (wrap64 (a4_2 + a5)) 1073741789)) else (signatorylaw35_ParcelsShift.j1 kj8 a0 a1 a3 a5 true a4_0 a4_1 a4_2 a4_0 a4_1 (Int.tmod (wrap64 (a4_2 + a5)) 1073741789))) else (if t469 = 0 then (signatorylaw35_ParcelsShift.j1 kj8 a0 a1 a3 a5 (t471 != 0) a4_0 a4_1 a4_2 a4_0 a4_1 (Int.tmod (wrap64 (a4_2 + a5)) 1073741789)) else (signatorylaw35_ParcelsShift.j1 kj8 a0 a1 a3 a5 true a4_0 a4_1 a4_2 a4_0 a4_1 (Int.tmod (wrap64 (a4_2 + a5)) 1073741789)))) else (signatorylaw35_ParcelsShift.j1 kj8 a0 a1 a3 a5 true a4_0 a4_1 a4_2 a4_0 a4_1 (Int.tmod (wrap64 (a4_2 + a5)) 1073741789))) = some r := H
          have A21 := Aside0.mk A210
          clear A210
          have HC22 := Aside0.mk H
          clear H
          have hcz23_0 : wc.cell? ⟨gb464, 0, none⟩ = some (.int .i64 a4_0) := (blk_cell BK464.out 0).trans rfl
          have hcz23_1 : wc.cell? ⟨gb464, 1, none⟩ = some (.int .i64 a4_1) := (blk_cell BK464.out 1).trans rfl
          have hcz23_2 : wc.cell? ⟨gb464, 2, none⟩ = some (.int .i64 a4_2) := (blk_cell BK464.out 2).trans rfl
          have hfz23_0 := blk_frozen BK464.out 0
          have hfz23_1 := blk_frozen BK464.out 1
          have hfz23_2 := blk_frozen BK464.out 2
          go_upto_region 9 with (first | ((with_reducible refine gate_dst (N := 13) rfl ?_); refine box_event ?hg (N := 13) ?hd (cs := #[.int .i64 0, .int .i64 0, .int .i64 0]) (t := 48) ?hr ?_; (case hd => rfl); (case hg => rfl); (case hr => first | (go_simp; done) | (go_simp; rfl)); intro gb468 hg w24 hbox hb; have n0_ := Aside0.mk (blk_below (g := gb464) (o := .cells #[.int .i64 a4_0, .int .i64 a4_1, .int .i64 a4_2] 48 (0, 0)) (by (with_reducible repeat (first | refine blk_drewN ?_ _ | refine blk_drew ?_ | refine blk_alloc ?_ _)); exact BK464.out) hb); have n1_ := Aside0.mk (below_step (by repeat (first | (with_reducible first | exact HB.out | apply below_alloc | apply pw_below_drewN | apply below_drew1 | refine below_set ?_ GE464.out) | exact HB.out)) hb); have n2_ := Aside0.mk (hbox); have n3_ := Aside0.mk ((by rw [hg]; exact (below_size (by repeat (first | (with_reducible first | exact HB.out | apply below_alloc | apply pw_below_drewN | apply below_drew1 | refine below_set ?_ GE464.out) | exact HB.out))) : w.heap.size ≤ gb468)); have n4_ := Aside0.mk ((by rw [hg]; exact (below_size (by repeat (first | (with_reducible first | exact HB.out | apply below_alloc | apply pw_below_drewN | apply below_drew1 | refine below_set ?_ GE464.out) | exact HB.out))) : w.heap.size ≤ gb468)); have n5_ := Aside0.mk ((by rw [hg]; exact Nat.ne_of_lt (blk_lt (g := gb464) (o := .cells #[.int .i64 a4_0, .int .i64 a4_1, .int .i64 a4_2] 48 (0, 0)) (by (with_reducible repeat (first | refine blk_drewN ?_ _ | refine blk_drew ?_ | refine blk_alloc ?_ _)); exact BK464.out)) : gb464 ≠ gb468)); have n6_ := Aside0.mk ((by rw [hg]; exact Nat.ne_of_gt (blk_lt (g := gb464) (o := .cells #[.int .i64 a4_0, .int .i64 a4_1, .int .i64 a4_2] 48 (0, 0)) (by (with_reducible repeat (first | refine blk_drewN ?_ _ | refine blk_drew ?_ | refine blk_alloc ?_ _)); exact BK464.out)) : gb468 ≠ gb464)); clear BK464; clear HB; have BK464 := n0_; have HB := n1_; have BK468 := n2_; have GW468 := n3_; have GE468 := n4_; have NB464_468 := n5_; have NB468_464 := n6_; clear n0_ n1_ n2_ n3_ n4_ n5_ n6_; clear hb hbox hg; have hnb25 := NB468_464.out; have hnc25 := NB464_468.out; have hcz26_0 : w24.cell? ⟨gb468, 0, none⟩ = some (.int .i64 0) := (blk_cell BK468.out 0).trans rfl; have hcz26_1 : w24.cell? ⟨gb468, 1, none⟩ = some (.int .i64 0) := (blk_cell BK468.out 1).trans rfl; have hcz26_2 : w24.cell? ⟨gb468, 2, none⟩ = some (.int .i64 0) := (blk_cell BK468.out 2).trans rfl; have hfz26_0 := blk_frozen BK468.out 0; have hfz26_1 := blk_frozen BK468.out 1; have hfz26_2 := blk_frozen BK468.out 2; have hcz27_0 : w24.cell? ⟨gb464, 0, none⟩ = some (.int .i64 a4_0) := (blk_cell BK464.out 0).trans rfl; have hcz27_1 : w24.cell? ⟨gb464, 1, none⟩ = some (.int .i64 a4_1) := (blk_cell BK464.out 1).trans rfl; have hcz27_2 : w24.cell? ⟨gb464, 2, none⟩ = some (.int .i64 a4_2) := (blk_cell BK464.out 2).trans rfl; have hfz27_0 := blk_frozen BK464.out 0; have hfz27_1 := blk_frozen BK464.out 1; have hfz27_2 := blk_frozen BK464.out 2) | ((with_reducible refine gate_callee (f := 37) rfl ?_); refine goesL_ (some 43) rfl rfl Tryd.func37 (by kernel_rfl) rfl #[.int .i64 a2, .int .i64 a3, .agg #[.int .i64 a4_0, .int .i64 a4_1, .int .i64 a4_2]] rfl (by (try simp only [List.map_toArray, List.map_cons, List.map_nil]); first | done | rfl | (simp only [List.length_drop, List.length_take]; rfl)) ?_; (with_reducible refine (parcels_With.calls a2 a3 a4_0 a4_1 a4_2 t469 t470 _ A20.out).mono ?_); rintro e w28 ⟨rfl, hb⟩; refine ⟨_, rfl, ?_⟩; have n0_ := Aside0.mk (blk_below (g := gb464) (o := .cells #[.int .i64 a4_0, .int .i64 a4_1, .int .i64 a4_2] 48 (0, 0)) (by (with_reducible repeat (first | refine blk_drewN ?_ _ | refine blk_drew ?_ | refine blk_alloc ?_ _)); refine blk_far ?_ NB464_468.out _; (with_reducible repeat (first | refine blk_drewN ?_ _ | refine blk_drew ?_ | refine blk_alloc ?_ _)); refine blk_far ?_ NB464_468.out _; (with_reducible repeat (first | refine blk_drewN ?_ _ | refine blk_drew ?_ | refine blk_alloc ?_ _)); refine blk_far ?_ NB464_468.out _; (with_reducible repeat (first | refine blk_drewN ?_ _ | refine blk_drew ?_ | refine blk_alloc ?_ _)); refine blk_far ?_ NB464_468.out _; (with_reducible repeat (first | refine blk_drewN ?_ _ | refine blk_drew ?_ | refine blk_alloc ?_ _)); exact BK464.out) hb); have n1_ := Aside0.mk (blk_below (g := gb468) (o := .cells #[.int .i64 a4_0, .int .i64 a4_1, .int .i64 (Int.tmod (wrap64 (a4_2 + a5)) 1073741789)] 48 (0, 0)) (by (with_reducible repeat (first | refine blk_drewN ?_ _ | refine blk_drew ?_ | refine blk_alloc ?_ _)); refine blk_put (cs := #[.int .i64 a4_0, .int .i64 a4_1, .int .i64 a4_2]) ?_ 2 _ rfl; (with_reducible repeat (first | refine blk_drewN ?_ _ | refine blk_drew ?_ | refine blk_alloc ?_ _)); refine blk_put (cs := #[.int .i64 a4_0, .int .i64 a4_1, .int .i64 0]) ?_ 2 _ rfl; (with_reducible repeat (first | refine blk_drewN ?_ _ | refine blk_drew ?_ | refine blk_alloc ?_ _)); refine blk_put (cs := #[.int .i64 a4_0, .int .i64 0, .int .i64 0]) ?_ 1 _ rfl; (with_reducible repeat (first | refine blk_drewN ?_ _ | refine blk_drew ?_ | refine blk_alloc ?_ _)); refine blk_put (cs := #[.int .i64 0, .int .i64 0, .int .i64 0]) ?_ 0 _ rfl; (with_reducible repeat (first | refine blk_drewN ?_ _ | refine blk_drew ?_ | refine blk_alloc ?_ _)); exact BK468.out) hb); have n2_ := Aside0.mk (below_step (by repeat (first | (with_reducible first | exact HB.out | apply below_alloc | apply pw_below_drewN | apply below_drew1 | refine below_set ?_ GE464.out | refine below_set ?_ GE468.out) | exact HB.out)) hb); clear BK464; clear BK468; clear HB; have BK464 := n0_; have BK468 := n1_; have HB := n2_; clear n0_ n1_ n2_; (try clear hb); (try clear hb2); (try clear hk); (try clear hi); have hcz29_0 : w28.cell? ⟨gb468, 0, none⟩ = some (.int .i64 a4_0) := (blk_cell BK468.out 0).trans rfl; have hcz29_1 : w28.cell? ⟨gb468, 1, none⟩ = some (.int .i64 a4_1) := (blk_cell BK468.out 1).trans rfl; have hcz29_2 : w28.cell? ⟨gb468, 2, none⟩ = some (.int .i64 (Int.tmod (wrap64 (a4_2 + a5)) 1073741789)) := (blk_cell BK468.out 2).trans rfl; have hfz29_0 := blk_frozen BK468.out 0; have hfz29_1 := blk_frozen BK468.out 1; have hfz29_2 := blk_frozen BK468.out 2) | ((with_reducible refine gate_callee (f := 37) rfl ?_); refine goesL_ (some 50) rfl rfl Tryd.func37 (by kernel_rfl) rfl #[.int .i64 a2, .int .i64 a3, .agg #[.int .i64 a4_0, .int .i64 a4_1, .int .i64 (Int.tmod (wrap64 (a4_2 + a5)) 1073741789)]] rfl (by (try simp only [List.map_toArray, List.map_cons, List.map_nil]); first | done | rfl | (simp only [List.length_drop, List.length_take]; rfl)) ?_; (with_reducible refine (parcels_With.calls a2 a3 a4_0 a4_1 (Int.tmod (wrap64 (a4_2 + a5)) 1073741789) t471 t472 _ A21.out).mono ?_); rintro e w30 ⟨rfl, hb⟩; refine ⟨_, rfl, ?_⟩; have n0_ := Aside0.mk (blk_below (g := gb464) (o := .cells #[.int .i64 a4_0, .int .i64 a4_1, .int .i64 a4_2] 48 (0, 0)) (by (with_reducible repeat (first | refine blk_drewN ?_ _ | refine blk_drew ?_ | refine blk_alloc ?_ _)); exact BK464.out) hb); have n1_ := Aside0.mk (blk_below (g := gb468) (o := .cells #[.int .i64 a4_0, .int .i64 a4_1, .int .i64 (Int.tmod (wrap64 (a4_2 + a5)) 1073741789)] 48 (0, 0)) (by (with_reducible repeat (first | refine blk_drewN ?_ _ | refine blk_drew ?_ | refine blk_alloc ?_ _)); exact BK468.out) hb); have n2_ := Aside0.mk (below_step (by repeat (first | (with_reducible first | exact HB.out | apply below_alloc | apply pw_below_drewN | apply below_drew1 | refine below_set ?_ GE464.out | refine below_set ?_ GE468.out) | exact HB.out)) hb); clear BK464; clear BK468; clear HB; have BK464 := n0_; have BK468 := n1_; have HB := n2_; clear n0_ n1_ n2_; (try clear hb); (try clear hb2); (try clear hk); (try clear hi)))
          (try simp only [Act.put, List.setIfInBounds_toArray, List.set_cons_zero, List.set_cons_succ])
          go_cut [79] (fun v79 wc => ∃ (kq : Nat) (x79_21 : Bool), v79 = .bool x79_21 ∧ Aside0 (signatorylaw35_ParcelsShift.j1 kq a0 a1 a3 a5 x79_21 a4_0 a4_1 a4_2 a4_0 a4_1 (Int.tmod (wrap64 (a4_2 + a5)) 1073741789) = some r) ∧ Aside0 (kq ≤ kj8) ∧ Aside0 (wc.heap[gb464]? = some (.cells #[.int .i64 a4_0, .int .i64 a4_1, .int .i64 a4_2] 48 (0, 0))) ∧ Aside0 (wc.heap[gb468]? = some (.cells #[.int .i64 a4_0, .int .i64 a4_1, .int .i64 (Int.tmod (wrap64 (a4_2 + a5)) 1073741789)] 48 (0, 0))) ∧ Aside0 (Below w.heap.size w wc))
          case first =>
            have H := HC22.out
            clear HC22
            by_cases c31 : t470 = t472
            · rw [if_pos c31] at H
              have c31b0 : (t470 == t472) = true := beq_iff_eq.mpr c31
              have c31b1 : (t470 != t472) = false := bne_eq_false_iff_eq.mpr c31
              clear c31
              (first | rw [c31b0] | (simp only [i64_w, i32_w]; rw [c31b0]) | skip)
              by_cases c32 : t470 = 0
              · rw [if_pos c32] at H
                have c32b0 : (t470 == 0) = true := beq_iff_eq.mpr c32
                have c32b1 : (t470 != 0) = false := bne_eq_false_iff_eq.mpr c32
                clear c32
                by_cases c33 : t471 = (Int.tmod (wrap64 (t469 + a5)) 1073741789)
                · rw [if_pos c33] at H
                  have c33b0 : (t471 == (Int.tmod (wrap64 (t469 + a5)) 1073741789)) = true := beq_iff_eq.mpr c33
                  have c33b1 : (t471 != (Int.tmod (wrap64 (t469 + a5)) 1073741789)) = false := bne_eq_false_iff_eq.mpr c33
                  clear c33
                  have H' := Aside0.mk H
                  clear H
                  go_wp2
                  go_meet
                  case rel => exact ⟨_, (false), (by first | rfl | (simp; done) | (simp [*]; done)), H', ⟨by have := HJ8.out; first | omega | exact Nat.le_refl _⟩, ⟨by (with_reducible repeat (first | refine blk_drewN ?_ _ | refine blk_drew ?_ | refine blk_alloc ?_ _)); exact BK464.out⟩, ⟨by (with_reducible repeat (first | refine blk_drewN ?_ _ | refine blk_drew ?_ | refine blk_alloc ?_ _)); exact BK468.out⟩, ⟨by repeat (first | (with_reducible first | exact HB.out | apply below_alloc | apply pw_below_drewN | apply below_drew1 | refine below_set ?_ GE464.out | refine below_set ?_ GE468.out) | exact HB.out)⟩⟩
                · rw [if_neg c33] at H
                  have c33b0 : (t471 == (Int.tmod (wrap64 (t469 + a5)) 1073741789)) = false := beq_eq_false_iff_ne.mpr c33
                  have c33b1 : (t471 != (Int.tmod (wrap64 (t469 + a5)) 1073741789)) = true := bne_iff_ne.mpr c33
                  have H' := Aside0.mk H
                  clear H
                  go_wp2
                  go_meet
                  case rel => exact ⟨_, (true), (by first | rfl | (simp; done) | (simp [*]; done)), H', ⟨by have := HJ8.out; first | omega | exact Nat.le_refl _⟩, ⟨by (with_reducible repeat (first | refine blk_drewN ?_ _ | refine blk_drew ?_ | refine blk_alloc ?_ _)); exact BK464.out⟩, ⟨by (with_reducible repeat (first | refine blk_drewN ?_ _ | refine blk_drew ?_ | refine blk_alloc ?_ _)); exact BK468.out⟩, ⟨by repeat (first | (with_reducible first | exact HB.out | apply below_alloc | apply pw_below_drewN | apply below_drew1 | refine below_set ?_ GE464.out | refine below_set ?_ GE468.out) | exact HB.out)⟩⟩
              · rw [if_neg c32] at H
                have c32b0 : (t470 == 0) = false := beq_eq_false_iff_ne.mpr c32
                have c32b1 : (t470 != 0) = true := bne_iff_ne.mpr c32
                by_cases c34 : t469 = 0
                · rw [if_pos c34] at H
                  have c34b0 : (t469 == 0) = true := beq_iff_eq.mpr c34
                  have c34b1 : (t469 != 0) = false := bne_eq_false_iff_eq.mpr c34
                  clear c34
                  have H' := Aside0.mk H
                  clear H
                  go_wp2
                  go_meet
                  case rel => exact ⟨_, ((t471 != 0)), (by first | rfl | (simp; done) | (simp [*]; done)), H', ⟨by have := HJ8.out; first | omega | exact Nat.le_refl _⟩, ⟨by (with_reducible repeat (first | refine blk_drewN ?_ _ | refine blk_drew ?_ | refine blk_alloc ?_ _)); exact BK464.out⟩, ⟨by (with_reducible repeat (first | refine blk_drewN ?_ _ | refine blk_drew ?_ | refine blk_alloc ?_ _)); exact BK468.out⟩, ⟨by repeat (first | (with_reducible first | exact HB.out | apply below_alloc | apply pw_below_drewN | apply below_drew1 | refine below_set ?_ GE464.out | refine below_set ?_ GE468.out) | exact HB.out)⟩⟩
                · rw [if_neg c34] at H
                  have c34b0 : (t469 == 0) = false := beq_eq_false_iff_ne.mpr c34
                  have c34b1 : (t469 != 0) = true := bne_iff_ne.mpr c34
                  have H' := Aside0.mk H
                  clear H
                  go_wp2
                  go_meet
                  case rel => exact ⟨_, (true), (by first | rfl | (simp; done) | (simp [*]; done)), H', ⟨by have := HJ8.out; first | omega | exact Nat.le_refl _⟩, ⟨by (with_reducible repeat (first | refine blk_drewN ?_ _ | refine blk_drew ?_ | refine blk_alloc ?_ _)); exact BK464.out⟩, ⟨by (with_reducible repeat (first | refine blk_drewN ?_ _ | refine blk_drew ?_ | refine blk_alloc ?_ _)); exact BK468.out⟩, ⟨by repeat (first | (with_reducible first | exact HB.out | apply below_alloc | apply pw_below_drewN | apply below_drew1 | refine below_set ?_ GE464.out | refine below_set ?_ GE468.out) | exact HB.out)⟩⟩
            · rw [if_neg c31] at H
              have c31b0 : (t470 == t472) = false := beq_eq_false_iff_ne.mpr c31
              have c31b1 : (t470 != t472) = true := bne_iff_ne.mpr c31
              (first | rw [c31b0] | (simp only [i64_w, i32_w]; rw [c31b0]) | skip)
              have H' := Aside0.mk H
              clear H
              go_wp2
              go_meet
              case rel => exact ⟨_, (true), (by first | rfl | (simp; done) | (simp [*]; done)), H', ⟨by have := HJ8.out; first | omega | exact Nat.le_refl _⟩, ⟨by (with_reducible repeat (first | refine blk_drewN ?_ _ | refine blk_drew ?_ | refine blk_alloc ?_ _)); exact BK464.out⟩, ⟨by (with_reducible repeat (first | refine blk_drewN ?_ _ | refine blk_drew ?_ | refine blk_alloc ?_ _)); exact BK468.out⟩, ⟨by repeat (first | (with_reducible first | exact HB.out | apply below_alloc | apply pw_below_drewN | apply below_drew1 | refine below_set ?_ GE464.out | refine below_set ?_ GE468.out) | exact HB.out)⟩⟩
          case rest =>
            clear HC22
            try clear c1
            try clear c2
            try clear p2
            try clear c3
            try clear p6
            try clear c8
            try clear c11
            try clear c13
            try clear c19
            try clear c25
            try clear c26
            try clear c31
            try clear c31b0
            try clear c31b1
            try clear c32
            try clear c32b0
            try clear c32b1
            try clear c33
            try clear c33b0
            try clear c33b1
            try clear c34
            try clear c34b0
            try clear c34b1
            try clear hcz15_0
            try clear hcz15_1
            try clear hcz15_2
            try clear hcz17_0
            try clear hcz17_1
            try clear hcz17_2
            try clear hcz23_0
            try clear hcz23_1
            try clear hcz23_2
            try clear hcz26_0
            try clear hcz26_1
            try clear hcz26_2
            try clear hcz27_0
            try clear hcz27_1
            try clear hcz27_2
            try clear hcz29_0
            try clear hcz29_1
            try clear hcz29_2
            try clear hfz15_0
            try clear hfz15_1
            try clear hfz15_2
            try clear hfz17_0
            try clear hfz17_1
            try clear hfz17_2
            try clear hfz23_0
            try clear hfz23_1
            try clear hfz23_2
            try clear hfz26_0
            try clear hfz26_1
            try clear hfz26_2
            try clear hfz27_0
            try clear hfz27_1
            try clear hfz27_2
            try clear hfz29_0
            try clear hfz29_1
            try clear hfz29_2
            try clear p2
            obtain ⟨kq, x79_21, rfl, HA, HJ21, BK464, BK468, HB⟩ := hcut
            cases kq with
            | zero => exact absurd HA.out (by simp [signatorylaw35_ParcelsShift.j1])
            | succ kj21 =>
              have H := HA.out
              clear HA
              simp only [signatorylaw35_ParcelsShift.j1] at H
              by_cases c35 : x79_21 = true
              · subst c35
                have H1 : (some false) = some r := by rw [if_pos rfl] at H; exact H
                clear H
                have H := H1
                clear H1
                exact absurd (H.trans (congrArg some HT.out)) (by simp)
              · replace c35 := Bool.eq_false_iff.mpr c35
                subst c35
                have H1 : ((parcels_Seal.f a0 a1 a3 a4_0 a4_2).bind fun bt473 => ((parcels_Seal.f a0 a1 a3 a4_0 (Int.tmod (wrap64 (a4_2 + a5)) 1073741789)).bind fun bt478 => (if bt473.2.2.2 = bt478.2.2.2 then (if bt473.2.2.2 = 0 then (if bt473.2.1 = bt478.2.1 then (if bt473.1 = a4_0 then (some (bt478.2.2.1 == (Int.tmod (wrap64 (bt473.2.2.1 + a5)) 1073741789))) else (some false)) else (some false)) else (if (bt473.1 == 0 && (bt473.2.1 == 0 && (bt473.2.2.1 == 0))) = true then (some (bt478.1 == 0 && (bt478.2.1 == 0 && (bt478.2.2.1 == 0)))) else (some false))) else (some false)))) = some r := by rw [if_neg (show ¬ (false = true) by decide)] at H; exact H
                clear H
                have H := H1
                clear H1
                replace H := Option.bind_eq_some_iff.mp H
                obtain ⟨⟨t473, t474, t475, t476⟩, A360, H⟩ := H
                replace H : ((parcels_Seal.f a0 a1 a3 a4_0 (Int.tmod (wrap64 (a4_2 + a5)) 1073741789)).bind fun bt478 => (if t476 = bt478.2.2.2 then (if t476 = 0 then (if t474 = bt478.2.1 then (if t473 = a4_0 then (some (bt478.2.2.1 == (Int.tmod (wrap64 (t475 + a5)) 1073741789))) else (some false)) else (some false)) else (if (t473 == 0 && (t474 == 0 && (t475 == 0))) = true then (some (bt478.1 == 0 && (bt478.2.1 == 0 && (bt478.2.2.1 == 0)))) else (some false))) else (some false))) = some r := H
                have A36 := Aside0.mk A360
                clear A360
                replace H := Option.bind_eq_some_iff.mp H
                obtain ⟨⟨t478, t479, t480, t481⟩, A370, H⟩ := H
                replace H : (if t476 = t481 then (if t476 = 0 then (if t474 = t479 then (if t473 = a4_0 then (some (t480 == (Int.tmod (wrap64 (t475 + a5)) 1073741789))) else (some false)) else (some false)) else (if (t473 == 0 && (t474 == 0 && (t475 == 0))) = true then (some (t478 == 0 && (t479 == 0 && (t480 == 0)))) else (some false))) else (some false)) = some r := H
                have A37 := Aside0.mk A370
                clear A370
                by_cases c38 : t476 = t481
                · rw [if_pos c38] at H
                  have c38b0 : (t476 == t481) = true := beq_iff_eq.mpr c38
                  have c38b1 : (t476 != t481) = false := bne_eq_false_iff_eq.mpr c38
                  clear c38
                  by_cases c39 : t476 = 0
                  · rw [if_pos c39] at H
                    have c39b0 : (t476 == 0) = true := beq_iff_eq.mpr c39
                    have c39b1 : (t476 != 0) = false := bne_eq_false_iff_eq.mpr c39
                    clear c39
                    by_cases c40 : t474 = t479
                    · rw [if_pos c40] at H
                      have c40b0 : (t474 == t479) = true := beq_iff_eq.mpr c40
                      have c40b1 : (t474 != t479) = false := bne_eq_false_iff_eq.mpr c40
                      clear c40
                      by_cases c41 : t473 = a4_0
                      · rw [if_pos c41] at H
                        have c41b0 : (t473 == a4_0) = true := beq_iff_eq.mpr c41
                        have c41b1 : (t473 != a4_0) = false := bne_eq_false_iff_eq.mpr c41
                        clear c41
                        obtain rfl := Option.some.inj H
                        have hnb42 := NB464_468.out
                        have hnc42 := NB468_464.out
                        have hcz43_0 : wc.cell? ⟨gb464, 0, none⟩ = some (.int .i64 a4_0) := (blk_cell BK464.out 0).trans rfl
                        have hcz43_1 : wc.cell? ⟨gb464, 1, none⟩ = some (.int .i64 a4_1) := (blk_cell BK464.out 1).trans rfl
                        have hcz43_2 : wc.cell? ⟨gb464, 2, none⟩ = some (.int .i64 a4_2) := (blk_cell BK464.out 2).trans rfl
                        have hfz43_0 := blk_frozen BK464.out 0
                        have hfz43_1 := blk_frozen BK464.out 1
                        have hfz43_2 := blk_frozen BK464.out 2
                        go_wp2_with (first | ((with_reducible refine gate_callee (f := 27) rfl ?_); refine goesL_ (some 88) rfl rfl Tryd.func27 (by kernel_rfl) rfl #[.int .i64 a0, .int .i64 a1, .int .i64 a3, .int .i64 a4_0, .int .i64 a4_2] rfl (by (try simp only [List.map_toArray, List.map_cons, List.map_nil]); first | done | rfl | (simp only [List.length_drop, List.length_take]; rfl)) ?_; (with_reducible refine (parcels_Seal.calls a0 a1 a3 a4_0 a4_2 t473 t474 t475 t476 _ A36.out).mono ?_); rintro e w44 ⟨rfl, hb⟩; refine ⟨_, rfl, ?_⟩; have n0_ := Aside0.mk (blk_below (g := gb464) (o := .cells #[.int .i64 a4_0, .int .i64 a4_1, .int .i64 a4_2] 48 (0, 0)) (by (with_reducible repeat (first | refine blk_drewN ?_ _ | refine blk_drew ?_ | refine blk_alloc ?_ _)); exact BK464.out) hb); have n1_ := Aside0.mk (blk_below (g := gb468) (o := .cells #[.int .i64 a4_0, .int .i64 a4_1, .int .i64 (Int.tmod (wrap64 (a4_2 + a5)) 1073741789)] 48 (0, 0)) (by (with_reducible repeat (first | refine blk_drewN ?_ _ | refine blk_drew ?_ | refine blk_alloc ?_ _)); exact BK468.out) hb); have n2_ := Aside0.mk (below_step (by repeat (first | (with_reducible first | exact HB.out | apply below_alloc | apply pw_below_drewN | apply below_drew1 | refine below_set ?_ GE464.out | refine below_set ?_ GE468.out) | exact HB.out)) hb); clear BK464; clear BK468; clear HB; have BK464 := n0_; have BK468 := n1_; have HB := n2_; clear n0_ n1_ n2_; (try clear hb); (try clear hb2); (try clear hk); (try clear hi)) | ((with_reducible refine gate_dst (N := 18) rfl ?_); refine box_event ?hg (N := 18) ?hd (cs := #[.int .i64 0, .int .i64 0, .int .i64 0]) (t := 48) ?hr ?_; (case hd => rfl); (case hg => rfl); (case hr => first | (go_simp; done) | (go_simp; rfl)); intro gb477 hg w45 hbox hb; have n0_ := Aside0.mk (blk_below (g := gb464) (o := .cells #[.int .i64 a4_0, .int .i64 a4_1, .int .i64 a4_2] 48 (0, 0)) (by (with_reducible repeat (first | refine blk_drewN ?_ _ | refine blk_drew ?_ | refine blk_alloc ?_ _)); exact BK464.out) hb); have n1_ := Aside0.mk (blk_below (g := gb468) (o := .cells #[.int .i64 a4_0, .int .i64 a4_1, .int .i64 (Int.tmod (wrap64 (a4_2 + a5)) 1073741789)] 48 (0, 0)) (by (with_reducible repeat (first | refine blk_drewN ?_ _ | refine blk_drew ?_ | refine blk_alloc ?_ _)); exact BK468.out) hb); have n2_ := Aside0.mk (below_step (by repeat (first | (with_reducible first | exact HB.out | apply below_alloc | apply pw_below_drewN | apply below_drew1 | refine below_set ?_ GE464.out | refine below_set ?_ GE468.out) | exact HB.out)) hb); have n3_ := Aside0.mk (hbox); have n4_ := Aside0.mk ((by rw [hg]; exact (below_size (by repeat (first | (with_reducible first | exact HB.out | apply below_alloc | apply pw_below_drewN | apply below_drew1 | refine below_set ?_ GE464.out | refine below_set ?_ GE468.out) | exact HB.out))) : w.heap.size ≤ gb477)); have n5_ := Aside0.mk ((by rw [hg]; exact (below_size (by repeat (first | (with_reducible first | exact HB.out | apply below_alloc | apply pw_below_drewN | apply below_drew1 | refine below_set ?_ GE464.out | refine below_set ?_ GE468.out) | exact HB.out))) : w.heap.size ≤ gb477)); have n6_ := Aside0.mk ((by rw [hg]; exact Nat.ne_of_lt (blk_lt (g := gb464) (o := .cells #[.int .i64 a4_0, .int .i64 a4_1, .int .i64 a4_2] 48 (0, 0)) (by (with_reducible repeat (first | refine blk_drewN ?_ _ | refine blk_drew ?_ | refine blk_alloc ?_ _)); exact BK464.out)) : gb464 ≠ gb477)); have n7_ := Aside0.mk ((by rw [hg]; exact Nat.ne_of_gt (blk_lt (g := gb464) (o := .cells #[.int .i64 a4_0, .int .i64 a4_1, .int .i64 a4_2] 48 (0, 0)) (by (with_reducible repeat (first | refine blk_drewN ?_ _ | refine blk_drew ?_ | refine blk_alloc ?_ _)); exact BK464.out)) : gb477 ≠ gb464)); have n8_ := Aside0.mk ((by rw [hg]; exact Nat.ne_of_lt (blk_lt (g := gb468) (o := .cells #[.int .i64 a4_0, .int .i64 a4_1, .int .i64 (Int.tmod (wrap64 (a4_2 + a5)) 1073741789)] 48 (0, 0)) (by (with_reducible repeat (first | refine blk_drewN ?_ _ | refine blk_drew ?_ | refine blk_alloc ?_ _)); exact BK468.out)) : gb468 ≠ gb477)); have n9_ := Aside0.mk ((by rw [hg]; exact Nat.ne_of_gt (blk_lt (g := gb468) (o := .cells #[.int .i64 a4_0, .int .i64 a4_1, .int .i64 (Int.tmod (wrap64 (a4_2 + a5)) 1073741789)] 48 (0, 0)) (by (with_reducible repeat (first | refine blk_drewN ?_ _ | refine blk_drew ?_ | refine blk_alloc ?_ _)); exact BK468.out)) : gb477 ≠ gb468)); clear BK464; clear BK468; clear HB; have BK464 := n0_; have BK468 := n1_; have HB := n2_; have BK477 := n3_; have GW477 := n4_; have GE477 := n5_; have NB464_477 := n6_; have NB477_464 := n7_; have NB468_477 := n8_; have NB477_468 := n9_; clear n0_ n1_ n2_ n3_ n4_ n5_ n6_ n7_ n8_ n9_; clear hb hbox hg; have hnb46 := NB477_464.out; have hnc46 := NB464_477.out; have hnb47 := NB477_468.out; have hnc47 := NB468_477.out; have hcz48_0 : w45.cell? ⟨gb477, 0, none⟩ = some (.int .i64 0) := (blk_cell BK477.out 0).trans rfl; have hcz48_1 : w45.cell? ⟨gb477, 1, none⟩ = some (.int .i64 0) := (blk_cell BK477.out 1).trans rfl; have hcz48_2 : w45.cell? ⟨gb477, 2, none⟩ = some (.int .i64 0) := (blk_cell BK477.out 2).trans rfl; have hfz48_0 := blk_frozen BK477.out 0; have hfz48_1 := blk_frozen BK477.out 1; have hfz48_2 := blk_frozen BK477.out 2; have hcz49_0 : w45.cell? ⟨gb464, 0, none⟩ = some (.int .i64 a4_0) := (blk_cell BK464.out 0).trans rfl; have hcz49_1 : w45.cell? ⟨gb464, 1, none⟩ = some (.int .i64 a4_1) := (blk_cell BK464.out 1).trans rfl; have hcz49_2 : w45.cell? ⟨gb464, 2, none⟩ = some (.int .i64 a4_2) := (blk_cell BK464.out 2).trans rfl; have hfz49_0 := blk_frozen BK464.out 0; have hfz49_1 := blk_frozen BK464.out 1; have hfz49_2 := blk_frozen BK464.out 2; have hcz50_0 : w45.cell? ⟨gb468, 0, none⟩ = some (.int .i64 a4_0) := (blk_cell BK468.out 0).trans rfl; have hcz50_1 : w45.cell? ⟨gb468, 1, none⟩ = some (.int .i64 a4_1) := (blk_cell BK468.out 1).trans rfl; have hcz50_2 : w45.cell? ⟨gb468, 2, none⟩ = some (.int .i64 (Int.tmod (wrap64 (a4_2 + a5)) 1073741789)) := (blk_cell BK468.out 2).trans rfl; have hfz50_0 := blk_frozen BK468.out 0; have hfz50_1 := blk_frozen BK468.out 1; have hfz50_2 := blk_frozen BK468.out 2) | ((with_reducible refine gate_callee (f := 27) rfl ?_); refine goesL_ (some 99) rfl rfl Tryd.func27 (by kernel_rfl) rfl #[.int .i64 a0, .int .i64 a1, .int .i64 a3, .int .i64 a4_0, .int .i64 (Int.tmod (wrap64 (a4_2 + a5)) 1073741789)] rfl (by (try simp only [List.map_toArray, List.map_cons, List.map_nil]); first | done | rfl | (simp only [List.length_drop, List.length_take]; rfl)) ?_; (with_reducible refine (parcels_Seal.calls a0 a1 a3 a4_0 (Int.tmod (wrap64 (a4_2 + a5)) 1073741789) t478 t479 t480 t481 _ A37.out).mono ?_); rintro e w51 ⟨rfl, hb⟩; refine ⟨_, rfl, ?_⟩; have n0_ := Aside0.mk (blk_below (g := gb464) (o := .cells #[.int .i64 a4_0, .int .i64 a4_1, .int .i64 a4_2] 48 (0, 0)) (by (with_reducible repeat (first | refine blk_drewN ?_ _ | refine blk_drew ?_ | refine blk_alloc ?_ _)); refine blk_far ?_ NB464_477.out _; (with_reducible repeat (first | refine blk_drewN ?_ _ | refine blk_drew ?_ | refine blk_alloc ?_ _)); refine blk_far ?_ NB464_477.out _; (with_reducible repeat (first | refine blk_drewN ?_ _ | refine blk_drew ?_ | refine blk_alloc ?_ _)); refine blk_far ?_ NB464_477.out _; (with_reducible repeat (first | refine blk_drewN ?_ _ | refine blk_drew ?_ | refine blk_alloc ?_ _)); exact BK464.out) hb); have n1_ := Aside0.mk (blk_below (g := gb468) (o := .cells #[.int .i64 a4_0, .int .i64 a4_1, .int .i64 (Int.tmod (wrap64 (a4_2 + a5)) 1073741789)] 48 (0, 0)) (by (with_reducible repeat (first | refine blk_drewN ?_ _ | refine blk_drew ?_ | refine blk_alloc ?_ _)); refine blk_far ?_ NB468_477.out _; (with_reducible repeat (first | refine blk_drewN ?_ _ | refine blk_drew ?_ | refine blk_alloc ?_ _)); refine blk_far ?_ NB468_477.out _; (with_reducible repeat (first | refine blk_drewN ?_ _ | refine blk_drew ?_ | refine blk_alloc ?_ _)); refine blk_far ?_ NB468_477.out _; (with_reducible repeat (first | refine blk_drewN ?_ _ | refine blk_drew ?_ | refine blk_alloc ?_ _)); exact BK468.out) hb); have n2_ := Aside0.mk (blk_below (g := gb477) (o := .cells #[.int .i64 t473, .int .i64 t474, .int .i64 t475] 48 (0, 0)) (by (with_reducible repeat (first | refine blk_drewN ?_ _ | refine blk_drew ?_ | refine blk_alloc ?_ _)); refine blk_put (cs := #[.int .i64 t473, .int .i64 t474, .int .i64 0]) ?_ 2 _ rfl; (with_reducible repeat (first | refine blk_drewN ?_ _ | refine blk_drew ?_ | refine blk_alloc ?_ _)); refine blk_put (cs := #[.int .i64 t473, .int .i64 0, .int .i64 0]) ?_ 1 _ rfl; (with_reducible repeat (first | refine blk_drewN ?_ _ | refine blk_drew ?_ | refine blk_alloc ?_ _)); refine blk_put (cs := #[.int .i64 0, .int .i64 0, .int .i64 0]) ?_ 0 _ rfl; (with_reducible repeat (first | refine blk_drewN ?_ _ | refine blk_drew ?_ | refine blk_alloc ?_ _)); exact BK477.out) hb); have n3_ := Aside0.mk (below_step (by repeat (first | (with_reducible first | exact HB.out | apply below_alloc | apply pw_below_drewN | apply below_drew1 | refine below_set ?_ GE464.out | refine below_set ?_ GE468.out | refine below_set ?_ GE477.out) | exact HB.out)) hb); clear BK464; clear BK468; clear BK477; clear HB; have BK464 := n0_; have BK468 := n1_; have BK477 := n2_; have HB := n3_; clear n0_ n1_ n2_ n3_; (try clear hb); (try clear hb2); (try clear hk); (try clear hi)) | ((with_reducible refine gate_dst (N := 20) rfl ?_); refine box_event ?hg (N := 20) ?hd (cs := #[.int .i64 0, .int .i64 0, .int .i64 0]) (t := 48) ?hr ?_; (case hd => rfl); (case hg => rfl); (case hr => first | (go_simp; done) | (go_simp; rfl)); intro gb482 hg w52 hbox hb; have n0_ := Aside0.mk (blk_below (g := gb464) (o := .cells #[.int .i64 a4_0, .int .i64 a4_1, .int .i64 a4_2] 48 (0, 0)) (by (with_reducible repeat (first | refine blk_drewN ?_ _ | refine blk_drew ?_ | refine blk_alloc ?_ _)); exact BK464.out) hb); have n1_ := Aside0.mk (blk_below (g := gb468) (o := .cells #[.int .i64 a4_0, .int .i64 a4_1, .int .i64 (Int.tmod (wrap64 (a4_2 + a5)) 1073741789)] 48 (0, 0)) (by (with_reducible repeat (first | refine blk_drewN ?_ _ | refine blk_drew ?_ | refine blk_alloc ?_ _)); exact BK468.out) hb); have n2_ := Aside0.mk (blk_below (g := gb477) (o := .cells #[.int .i64 t473, .int .i64 t474, .int .i64 t475] 48 (0, 0)) (by (with_reducible repeat (first | refine blk_drewN ?_ _ | refine blk_drew ?_ | refine blk_alloc ?_ _)); exact BK477.out) hb); have n3_ := Aside0.mk (below_step (by repeat (first | (with_reducible first | exact HB.out | apply below_alloc | apply pw_below_drewN | apply below_drew1 | refine below_set ?_ GE464.out | refine below_set ?_ GE468.out | refine below_set ?_ GE477.out) | exact HB.out)) hb); have n4_ := Aside0.mk (hbox); have n5_ := Aside0.mk ((by rw [hg]; exact (below_size (by repeat (first | (with_reducible first | exact HB.out | apply below_alloc | apply pw_below_drewN | apply below_drew1 | refine below_set ?_ GE464.out | refine below_set ?_ GE468.out | refine below_set ?_ GE477.out) | exact HB.out))) : w.heap.size ≤ gb482)); have n6_ := Aside0.mk ((by rw [hg]; exact (below_size (by repeat (first | (with_reducible first | exact HB.out | apply below_alloc | apply pw_below_drewN | apply below_drew1 | refine below_set ?_ GE464.out | refine below_set ?_ GE468.out | refine below_set ?_ GE477.out) | exact HB.out))) : w.heap.size ≤ gb482)); have n7_ := Aside0.mk ((by rw [hg]; exact Nat.ne_of_lt (blk_lt (g := gb464) (o := .cells #[.int .i64 a4_0, .int .i64 a4_1, .int .i64 a4_2] 48 (0, 0)) (by (with_reducible repeat (first | refine blk_drewN ?_ _ | refine blk_drew ?_ | refine blk_alloc ?_ _)); exact BK464.out)) : gb464 ≠ gb482)); have n8_ := Aside0.mk ((by rw [hg]; exact Nat.ne_of_gt (blk_lt (g := gb464) (o := .cells #[.int .i64 a4_0, .int .i64 a4_1, .int .i64 a4_2] 48 (0, 0)) (by (with_reducible repeat (first | refine blk_drewN ?_ _ | refine blk_drew ?_ | refine blk_alloc ?_ _)); exact BK464.out)) : gb482 ≠ gb464)); have n9_ := Aside0.mk ((by rw [hg]; exact Nat.ne_of_lt (blk_lt (g := gb468) (o := .cells #[.int .i64 a4_0, .int .i64 a4_1, .int .i64 (Int.tmod (wrap64 (a4_2 + a5)) 1073741789)] 48 (0, 0)) (by (with_reducible repeat (first | refine blk_drewN ?_ _ | refine blk_drew ?_ | refine blk_alloc ?_ _)); exact BK468.out)) : gb468 ≠ gb482)); have n10_ := Aside0.mk ((by rw [hg]; exact Nat.ne_of_gt (blk_lt (g := gb468) (o := .cells #[.int .i64 a4_0, .int .i64 a4_1, .int .i64 (Int.tmod (wrap64 (a4_2 + a5)) 1073741789)] 48 (0, 0)) (by (with_reducible repeat (first | refine blk_drewN ?_ _ | refine blk_drew ?_ | refine blk_alloc ?_ _)); exact BK468.out)) : gb482 ≠ gb468)); have n11_ := Aside0.mk ((by rw [hg]; exact Nat.ne_of_lt (blk_lt (g := gb477) (o := .cells #[.int .i64 t473, .int .i64 t474, .int .i64 t475] 48 (0, 0)) (by (with_reducible repeat (first | refine blk_drewN ?_ _ | refine blk_drew ?_ | refine blk_alloc ?_ _)); exact BK477.out)) : gb477 ≠ gb482)); have n12_ := Aside0.mk ((by rw [hg]; exact Nat.ne_of_gt (blk_lt (g := gb477) (o := .cells #[.int .i64 t473, .int .i64 t474, .int .i64 t475] 48 (0, 0)) (by (with_reducible repeat (first | refine blk_drewN ?_ _ | refine blk_drew ?_ | refine blk_alloc ?_ _)); exact BK477.out)) : gb482 ≠ gb477)); clear BK464; clear BK468; clear BK477; clear HB; have BK464 := n0_; have BK468 := n1_; have BK477 := n2_; have HB := n3_; have BK482 := n4_; have GW482 := n5_; have GE482 := n6_; have NB464_482 := n7_; have NB482_464 := n8_; have NB468_482 := n9_; have NB482_468 := n10_; have NB477_482 := n11_; have NB482_477 := n12_; clear n0_ n1_ n2_ n3_ n4_ n5_ n6_ n7_ n8_ n9_ n10_ n11_ n12_; clear hb hbox hg; have hnb53 := NB482_464.out; have hnc53 := NB464_482.out; have hnb54 := NB482_468.out; have hnc54 := NB468_482.out; have hnb55 := NB482_477.out; have hnc55 := NB477_482.out; have hcz56_0 : w52.cell? ⟨gb482, 0, none⟩ = some (.int .i64 0) := (blk_cell BK482.out 0).trans rfl; have hcz56_1 : w52.cell? ⟨gb482, 1, none⟩ = some (.int .i64 0) := (blk_cell BK482.out 1).trans rfl; have hcz56_2 : w52.cell? ⟨gb482, 2, none⟩ = some (.int .i64 0) := (blk_cell BK482.out 2).trans rfl; have hfz56_0 := blk_frozen BK482.out 0; have hfz56_1 := blk_frozen BK482.out 1; have hfz56_2 := blk_frozen BK482.out 2; have hcz57_0 : w52.cell? ⟨gb477, 0, none⟩ = some (.int .i64 t473) := (blk_cell BK477.out 0).trans rfl; have hcz57_1 : w52.cell? ⟨gb477, 1, none⟩ = some (.int .i64 t474) := (blk_cell BK477.out 1).trans rfl; have hcz57_2 : w52.cell? ⟨gb477, 2, none⟩ = some (.int .i64 t475) := (blk_cell BK477.out 2).trans rfl; have hfz57_0 := blk_frozen BK477.out 0; have hfz57_1 := blk_frozen BK477.out 1; have hfz57_2 := blk_frozen BK477.out 2; have hcz58_0 : w52.cell? ⟨gb464, 0, none⟩ = some (.int .i64 a4_0) := (blk_cell BK464.out 0).trans rfl; have hcz58_1 : w52.cell? ⟨gb464, 1, none⟩ = some (.int .i64 a4_1) := (blk_cell BK464.out 1).trans rfl; have hcz58_2 : w52.cell? ⟨gb464, 2, none⟩ = some (.int .i64 a4_2) := (blk_cell BK464.out 2).trans rfl; have hfz58_0 := blk_frozen BK464.out 0; have hfz58_1 := blk_frozen BK464.out 1; have hfz58_2 := blk_frozen BK464.out 2))
                        go_ret
                        exact ⟨by first | rfl | (simp [errW_none, errW_some] <;> rfl) | (simp [*, errW_none, errW_some] <;> rfl), by repeat (first | (with_reducible first | exact HB.out | apply below_alloc | apply pw_below_drewN | apply below_drew1 | refine below_set ?_ GE464.out | refine below_set ?_ GE468.out | refine below_set ?_ GE477.out | refine below_set ?_ GE482.out) | exact HB.out)⟩
                      · rw [if_neg c41] at H
                        have c41b0 : (t473 == a4_0) = false := beq_eq_false_iff_ne.mpr c41
                        have c41b1 : (t473 != a4_0) = true := bne_iff_ne.mpr c41
                        exact absurd (H.trans (congrArg some HT.out)) (by simp)
                    · rw [if_neg c40] at H
                      have c40b0 : (t474 == t479) = false := beq_eq_false_iff_ne.mpr c40
                      have c40b1 : (t474 != t479) = true := bne_iff_ne.mpr c40
                      exact absurd (H.trans (congrArg some HT.out)) (by simp)
                  · rw [if_neg c39] at H
                    have c39b0 : (t476 == 0) = false := beq_eq_false_iff_ne.mpr c39
                    have c39b1 : (t476 != 0) = true := bne_iff_ne.mpr c39
                    by_cases c59 : (t473 == 0 && (t474 == 0 && (t475 == 0))) = true
                    · rw [if_pos c59] at H
                      have c59b0 : (t473 == 0 && (t474 == 0 && (t475 == 0))) = true := c59
                      (try (have c59b1 : decide (t473 = 0 && (t474 == 0 && (t475 == 0))) = true := by simpa using c59))
                      (try (have c59b2 : (t473 == 0 && (t474 == 0 && (t475 == 0))) = true := by simpa using c59))
                      clear c59
                      obtain rfl := Option.some.inj H
                      have hnb60 := NB464_468.out
                      have hnc60 := NB468_464.out
                      have hcz61_0 : wc.cell? ⟨gb464, 0, none⟩ = some (.int .i64 a4_0) := (blk_cell BK464.out 0).trans rfl
                      have hcz61_1 : wc.cell? ⟨gb464, 1, none⟩ = some (.int .i64 a4_1) := (blk_cell BK464.out 1).trans rfl
                      have hcz61_2 : wc.cell? ⟨gb464, 2, none⟩ = some (.int .i64 a4_2) := (blk_cell BK464.out 2).trans rfl
                      have hfz61_0 := blk_frozen BK464.out 0
                      have hfz61_1 := blk_frozen BK464.out 1
                      have hfz61_2 := blk_frozen BK464.out 2
                      go_wp2_with (first | ((with_reducible refine gate_callee (f := 27) rfl ?_); refine goesL_ (some 88) rfl rfl Tryd.func27 (by kernel_rfl) rfl #[.int .i64 a0, .int .i64 a1, .int .i64 a3, .int .i64 a4_0, .int .i64 a4_2] rfl (by (try simp only [List.map_toArray, List.map_cons, List.map_nil]); first | done | rfl | (simp only [List.length_drop, List.length_take]; rfl)) ?_; (with_reducible refine (parcels_Seal.calls a0 a1 a3 a4_0 a4_2 t473 t474 t475 t476 _ A36.out).mono ?_); rintro e w62 ⟨rfl, hb⟩; refine ⟨_, rfl, ?_⟩; have n0_ := Aside0.mk (blk_below (g := gb464) (o := .cells #[.int .i64 a4_0, .int .i64 a4_1, .int .i64 a4_2] 48 (0, 0)) (by (with_reducible repeat (first | refine blk_drewN ?_ _ | refine blk_drew ?_ | refine blk_alloc ?_ _)); exact BK464.out) hb); have n1_ := Aside0.mk (blk_below (g := gb468) (o := .cells #[.int .i64 a4_0, .int .i64 a4_1, .int .i64 (Int.tmod (wrap64 (a4_2 + a5)) 1073741789)] 48 (0, 0)) (by (with_reducible repeat (first | refine blk_drewN ?_ _ | refine blk_drew ?_ | refine blk_alloc ?_ _)); exact BK468.out) hb); have n2_ := Aside0.mk (below_step (by repeat (first | (with_reducible first | exact HB.out | apply below_alloc | apply pw_below_drewN | apply below_drew1 | refine below_set ?_ GE464.out | refine below_set ?_ GE468.out) | exact HB.out)) hb); clear BK464; clear BK468; clear HB; have BK464 := n0_; have BK468 := n1_; have HB := n2_; clear n0_ n1_ n2_; (try clear hb); (try clear hb2); (try clear hk); (try clear hi)) | ((with_reducible refine gate_dst (N := 18) rfl ?_); refine box_event ?hg (N := 18) ?hd (cs := #[.int .i64 0, .int .i64 0, .int .i64 0]) (t := 48) ?hr ?_; (case hd => rfl); (case hg => rfl); (case hr => first | (go_simp; done) | (go_simp; rfl)); intro gb477 hg w63 hbox hb; have n0_ := Aside0.mk (blk_below (g := gb464) (o := .cells #[.int .i64 a4_0, .int .i64 a4_1, .int .i64 a4_2] 48 (0, 0)) (by (with_reducible repeat (first | refine blk_drewN ?_ _ | refine blk_drew ?_ | refine blk_alloc ?_ _)); exact BK464.out) hb); have n1_ := Aside0.mk (blk_below (g := gb468) (o := .cells #[.int .i64 a4_0, .int .i64 a4_1, .int .i64 (Int.tmod (wrap64 (a4_2 + a5)) 1073741789)] 48 (0, 0)) (by (with_reducible repeat (first | refine blk_drewN ?_ _ | refine blk_drew ?_ | refine blk_alloc ?_ _)); exact BK468.out) hb); have n2_ := Aside0.mk (below_step (by repeat (first | (with_reducible first | exact HB.out | apply below_alloc | apply pw_below_drewN | apply below_drew1 | refine below_set ?_ GE464.out | refine below_set ?_ GE468.out) | exact HB.out)) hb); have n3_ := Aside0.mk (hbox); have n4_ := Aside0.mk ((by rw [hg]; exact (below_size (by repeat (first | (with_reducible first | exact HB.out | apply below_alloc | apply pw_below_drewN | apply below_drew1 | refine below_set ?_ GE464.out | refine below_set ?_ GE468.out) | exact HB.out))) : w.heap.size ≤ gb477)); have n5_ := Aside0.mk ((by rw [hg]; exact (below_size (by repeat (first | (with_reducible first | exact HB.out | apply below_alloc | apply pw_below_drewN | apply below_drew1 | refine below_set ?_ GE464.out | refine below_set ?_ GE468.out) | exact HB.out))) : w.heap.size ≤ gb477)); have n6_ := Aside0.mk ((by rw [hg]; exact Nat.ne_of_lt (blk_lt (g := gb464) (o := .cells #[.int .i64 a4_0, .int .i64 a4_1, .int .i64 a4_2] 48 (0, 0)) (by (with_reducible repeat (first | refine blk_drewN ?_ _ | refine blk_drew ?_ | refine blk_alloc ?_ _)); exact BK464.out)) : gb464 ≠ gb477)); have n7_ := Aside0.mk ((by rw [hg]; exact Nat.ne_of_gt (blk_lt (g := gb464) (o := .cells #[.int .i64 a4_0, .int .i64 a4_1, .int .i64 a4_2] 48 (0, 0)) (by (with_reducible repeat (first | refine blk_drewN ?_ _ | refine blk_drew ?_ | refine blk_alloc ?_ _)); exact BK464.out)) : gb477 ≠ gb464)); have n8_ := Aside0.mk ((by rw [hg]; exact Nat.ne_of_lt (blk_lt (g := gb468) (o := .cells #[.int .i64 a4_0, .int .i64 a4_1, .int .i64 (Int.tmod (wrap64 (a4_2 + a5)) 1073741789)] 48 (0, 0)) (by (with_reducible repeat (first | refine blk_drewN ?_ _ | refine blk_drew ?_ | refine blk_alloc ?_ _)); exact BK468.out)) : gb468 ≠ gb477)); have n9_ := Aside0.mk ((by rw [hg]; exact Nat.ne_of_gt (blk_lt (g := gb468) (o := .cells #[.int .i64 a4_0, .int .i64 a4_1, .int .i64 (Int.tmod (wrap64 (a4_2 + a5)) 1073741789)] 48 (0, 0)) (by (with_reducible repeat (first | refine blk_drewN ?_ _ | refine blk_drew ?_ | refine blk_alloc ?_ _)); exact BK468.out)) : gb477 ≠ gb468)); clear BK464; clear BK468; clear HB; have BK464 := n0_; have BK468 := n1_; have HB := n2_; have BK477 := n3_; have GW477 := n4_; have GE477 := n5_; have NB464_477 := n6_; have NB477_464 := n7_; have NB468_477 := n8_; have NB477_468 := n9_; clear n0_ n1_ n2_ n3_ n4_ n5_ n6_ n7_ n8_ n9_; clear hb hbox hg; have hnb64 := NB477_464.out; have hnc64 := NB464_477.out; have hnb65 := NB477_468.out; have hnc65 := NB468_477.out; have hcz66_0 : w63.cell? ⟨gb477, 0, none⟩ = some (.int .i64 0) := (blk_cell BK477.out 0).trans rfl; have hcz66_1 : w63.cell? ⟨gb477, 1, none⟩ = some (.int .i64 0) := (blk_cell BK477.out 1).trans rfl; have hcz66_2 : w63.cell? ⟨gb477, 2, none⟩ = some (.int .i64 0) := (blk_cell BK477.out 2).trans rfl; have hfz66_0 := blk_frozen BK477.out 0; have hfz66_1 := blk_frozen BK477.out 1; have hfz66_2 := blk_frozen BK477.out 2; have hcz67_0 : w63.cell? ⟨gb464, 0, none⟩ = some (.int .i64 a4_0) := (blk_cell BK464.out 0).trans rfl; have hcz67_1 : w63.cell? ⟨gb464, 1, none⟩ = some (.int .i64 a4_1) := (blk_cell BK464.out 1).trans rfl; have hcz67_2 : w63.cell? ⟨gb464, 2, none⟩ = some (.int .i64 a4_2) := (blk_cell BK464.out 2).trans rfl; have hfz67_0 := blk_frozen BK464.out 0; have hfz67_1 := blk_frozen BK464.out 1; have hfz67_2 := blk_frozen BK464.out 2; have hcz68_0 : w63.cell? ⟨gb468, 0, none⟩ = some (.int .i64 a4_0) := (blk_cell BK468.out 0).trans rfl; have hcz68_1 : w63.cell? ⟨gb468, 1, none⟩ = some (.int .i64 a4_1) := (blk_cell BK468.out 1).trans rfl; have hcz68_2 : w63.cell? ⟨gb468, 2, none⟩ = some (.int .i64 (Int.tmod (wrap64 (a4_2 + a5)) 1073741789)) := (blk_cell BK468.out 2).trans rfl; have hfz68_0 := blk_frozen BK468.out 0; have hfz68_1 := blk_frozen BK468.out 1; have hfz68_2 := blk_frozen BK468.out 2) | ((with_reducible refine gate_callee (f := 27) rfl ?_); refine goesL_ (some 99) rfl rfl Tryd.func27 (by kernel_rfl) rfl #[.int .i64 a0, .int .i64 a1, .int .i64 a3, .int .i64 a4_0, .int .i64 (Int.tmod (wrap64 (a4_2 + a5)) 1073741789)] rfl (by (try simp only [List.map_toArray, List.map_cons, List.map_nil]); first | done | rfl | (simp only [List.length_drop, List.length_take]; rfl)) ?_; (with_reducible refine (parcels_Seal.calls a0 a1 a3 a4_0 (Int.tmod (wrap64 (a4_2 + a5)) 1073741789) t478 t479 t480 t481 _ A37.out).mono ?_); rintro e w69 ⟨rfl, hb⟩; refine ⟨_, rfl, ?_⟩; have n0_ := Aside0.mk (blk_below (g := gb464) (o := .cells #[.int .i64 a4_0, .int .i64 a4_1, .int .i64 a4_2] 48 (0, 0)) (by (with_reducible repeat (first | refine blk_drewN ?_ _ | refine blk_drew ?_ | refine blk_alloc ?_ _)); refine blk_far ?_ NB464_477.out _; (with_reducible repeat (first | refine blk_drewN ?_ _ | refine blk_drew ?_ | refine blk_alloc ?_ _)); refine blk_far ?_ NB464_477.out _; (with_reducible repeat (first | refine blk_drewN ?_ _ | refine blk_drew ?_ | refine blk_alloc ?_ _)); refine blk_far ?_ NB464_477.out _; (with_reducible repeat (first | refine blk_drewN ?_ _ | refine blk_drew ?_ | refine blk_alloc ?_ _)); exact BK464.out) hb); have n1_ := Aside0.mk (blk_below (g := gb468) (o := .cells #[.int .i64 a4_0, .int .i64 a4_1, .int .i64 (Int.tmod (wrap64 (a4_2 + a5)) 1073741789)] 48 (0, 0)) (by (with_reducible repeat (first | refine blk_drewN ?_ _ | refine blk_drew ?_ | refine blk_alloc ?_ _)); refine blk_far ?_ NB468_477.out _; (with_reducible repeat (first | refine blk_drewN ?_ _ | refine blk_drew ?_ | refine blk_alloc ?_ _)); refine blk_far ?_ NB468_477.out _; (with_reducible repeat (first | refine blk_drewN ?_ _ | refine blk_drew ?_ | refine blk_alloc ?_ _)); refine blk_far ?_ NB468_477.out _; (with_reducible repeat (first | refine blk_drewN ?_ _ | refine blk_drew ?_ | refine blk_alloc ?_ _)); exact BK468.out) hb); have n2_ := Aside0.mk (blk_below (g := gb477) (o := .cells #[.int .i64 t473, .int .i64 t474, .int .i64 t475] 48 (0, 0)) (by (with_reducible repeat (first | refine blk_drewN ?_ _ | refine blk_drew ?_ | refine blk_alloc ?_ _)); refine blk_put (cs := #[.int .i64 t473, .int .i64 t474, .int .i64 0]) ?_ 2 _ rfl; (with_reducible repeat (first | refine blk_drewN ?_ _ | refine blk_drew ?_ | refine blk_alloc ?_ _)); refine blk_put (cs := #[.int .i64 t473, .int .i64 0, .int .i64 0]) ?_ 1 _ rfl; (with_reducible repeat (first | refine blk_drewN ?_ _ | refine blk_drew ?_ | refine blk_alloc ?_ _)); refine blk_put (cs := #[.int .i64 0, .int .i64 0, .int .i64 0]) ?_ 0 _ rfl; (with_reducible repeat (first | refine blk_drewN ?_ _ | refine blk_drew ?_ | refine blk_alloc ?_ _)); exact BK477.out) hb); have n3_ := Aside0.mk (below_step (by repeat (first | (with_reducible first | exact HB.out | apply below_alloc | apply pw_below_drewN | apply below_drew1 | refine below_set ?_ GE464.out | refine below_set ?_ GE468.out | refine below_set ?_ GE477.out) | exact HB.out)) hb); clear BK464; clear BK468; clear BK477; clear HB; have BK464 := n0_; have BK468 := n1_; have BK477 := n2_; have HB := n3_; clear n0_ n1_ n2_ n3_; (try clear hb); (try clear hb2); (try clear hk); (try clear hi)) | ((with_reducible refine gate_dst (N := 20) rfl ?_); refine box_event ?hg (N := 20) ?hd (cs := #[.int .i64 0, .int .i64 0, .int .i64 0]) (t := 48) ?hr ?_; (case hd => rfl); (case hg => rfl); (case hr => first | (go_simp; done) | (go_simp; rfl)); intro gb482 hg w70 hbox hb; have n0_ := Aside0.mk (blk_below (g := gb464) (o := .cells #[.int .i64 a4_0, .int .i64 a4_1, .int .i64 a4_2] 48 (0, 0)) (by (with_reducible repeat (first | refine blk_drewN ?_ _ | refine blk_drew ?_ | refine blk_alloc ?_ _)); exact BK464.out) hb); have n1_ := Aside0.mk (blk_below (g := gb468) (o := .cells #[.int .i64 a4_0, .int .i64 a4_1, .int .i64 (Int.tmod (wrap64 (a4_2 + a5)) 1073741789)] 48 (0, 0)) (by (with_reducible repeat (first | refine blk_drewN ?_ _ | refine blk_drew ?_ | refine blk_alloc ?_ _)); exact BK468.out) hb); have n2_ := Aside0.mk (blk_below (g := gb477) (o := .cells #[.int .i64 t473, .int .i64 t474, .int .i64 t475] 48 (0, 0)) (by (with_reducible repeat (first | refine blk_drewN ?_ _ | refine blk_drew ?_ | refine blk_alloc ?_ _)); exact BK477.out) hb); have n3_ := Aside0.mk (below_step (by repeat (first | (with_reducible first | exact HB.out | apply below_alloc | apply pw_below_drewN | apply below_drew1 | refine below_set ?_ GE464.out | refine below_set ?_ GE468.out | refine below_set ?_ GE477.out) | exact HB.out)) hb); have n4_ := Aside0.mk (hbox); have n5_ := Aside0.mk ((by rw [hg]; exact (below_size (by repeat (first | (with_reducible first | exact HB.out | apply below_alloc | apply pw_below_drewN | apply below_drew1 | refine below_set ?_ GE464.out | refine below_set ?_ GE468.out | refine below_set ?_ GE477.out) | exact HB.out))) : w.heap.size ≤ gb482)); have n6_ := Aside0.mk ((by rw [hg]; exact (below_size (by repeat (first | (with_reducible first | exact HB.out | apply below_alloc | apply pw_below_drewN | apply below_drew1 | refine below_set ?_ GE464.out | refine below_set ?_ GE468.out | refine below_set ?_ GE477.out) | exact HB.out))) : w.heap.size ≤ gb482)); have n7_ := Aside0.mk ((by rw [hg]; exact Nat.ne_of_lt (blk_lt (g := gb464) (o := .cells #[.int .i64 a4_0, .int .i64 a4_1, .int .i64 a4_2] 48 (0, 0)) (by (with_reducible repeat (first | refine blk_drewN ?_ _ | refine blk_drew ?_ | refine blk_alloc ?_ _)); exact BK464.out)) : gb464 ≠ gb482)); have n8_ := Aside0.mk ((by rw [hg]; exact Nat.ne_of_gt (blk_lt (g := gb464) (o := .cells #[.int .i64 a4_0, .int .i64 a4_1, .int .i64 a4_2] 48 (0, 0)) (by (with_reducible repeat (first | refine blk_drewN ?_ _ | refine blk_drew ?_ | refine blk_alloc ?_ _)); exact BK464.out)) : gb482 ≠ gb464)); have n9_ := Aside0.mk ((by rw [hg]; exact Nat.ne_of_lt (blk_lt (g := gb468) (o := .cells #[.int .i64 a4_0, .int .i64 a4_1, .int .i64 (Int.tmod (wrap64 (a4_2 + a5)) 1073741789)] 48 (0, 0)) (by (with_reducible repeat (first | refine blk_drewN ?_ _ | refine blk_drew ?_ | refine blk_alloc ?_ _)); exact BK468.out)) : gb468 ≠ gb482)); have n10_ := Aside0.mk ((by rw [hg]; exact Nat.ne_of_gt (blk_lt (g := gb468) (o := .cells #[.int .i64 a4_0, .int .i64 a4_1, .int .i64 (Int.tmod (wrap64 (a4_2 + a5)) 1073741789)] 48 (0, 0)) (by (with_reducible repeat (first | refine blk_drewN ?_ _ | refine blk_drew ?_ | refine blk_alloc ?_ _)); exact BK468.out)) : gb482 ≠ gb468)); have n11_ := Aside0.mk ((by rw [hg]; exact Nat.ne_of_lt (blk_lt (g := gb477) (o := .cells #[.int .i64 t473, .int .i64 t474, .int .i64 t475] 48 (0, 0)) (by (with_reducible repeat (first | refine blk_drewN ?_ _ | refine blk_drew ?_ | refine blk_alloc ?_ _)); exact BK477.out)) : gb477 ≠ gb482)); have n12_ := Aside0.mk ((by rw [hg]; exact Nat.ne_of_gt (blk_lt (g := gb477) (o := .cells #[.int .i64 t473, .int .i64 t474, .int .i64 t475] 48 (0, 0)) (by (with_reducible repeat (first | refine blk_drewN ?_ _ | refine blk_drew ?_ | refine blk_alloc ?_ _)); exact BK477.out)) : gb482 ≠ gb477)); clear BK464; clear BK468; clear BK477; clear HB; have BK464 := n0_; have BK468 := n1_; have BK477 := n2_; have HB := n3_; have BK482 := n4_; have GW482 := n5_; have GE482 := n6_; have NB464_482 := n7_; have NB482_464 := n8_; have NB468_482 := n9_; have NB482_468 := n10_; have NB477_482 := n11_; have NB482_477 := n12_; clear n0_ n1_ n2_ n3_ n4_ n5_ n6_ n7_ n8_ n9_ n10_ n11_ n12_; clear hb hbox hg; have hnb71 := NB482_464.out; have hnc71 := NB464_482.out; have hnb72 := NB482_468.out; have hnc72 := NB468_482.out; have hnb73 := NB482_477.out; have hnc73 := NB477_482.out; have hcz74_0 : w70.cell? ⟨gb482, 0, none⟩ = some (.int .i64 0) := (blk_cell BK482.out 0).trans rfl; have hcz74_1 : w70.cell? ⟨gb482, 1, none⟩ = some (.int .i64 0) := (blk_cell BK482.out 1).trans rfl; have hcz74_2 : w70.cell? ⟨gb482, 2, none⟩ = some (.int .i64 0) := (blk_cell BK482.out 2).trans rfl; have hfz74_0 := blk_frozen BK482.out 0; have hfz74_1 := blk_frozen BK482.out 1; have hfz74_2 := blk_frozen BK482.out 2; have hcz75_0 : w70.cell? ⟨gb477, 0, none⟩ = some (.int .i64 t473) := (blk_cell BK477.out 0).trans rfl; have hcz75_1 : w70.cell? ⟨gb477, 1, none⟩ = some (.int .i64 t474) := (blk_cell BK477.out 1).trans rfl; have hcz75_2 : w70.cell? ⟨gb477, 2, none⟩ = some (.int .i64 t475) := (blk_cell BK477.out 2).trans rfl; have hfz75_0 := blk_frozen BK477.out 0; have hfz75_1 := blk_frozen BK477.out 1; have hfz75_2 := blk_frozen BK477.out 2))
                      go_ret
                      exact ⟨by first | rfl | (simp [errW_none, errW_some] <;> rfl) | (simp [*, errW_none, errW_some] <;> rfl), by repeat (first | (with_reducible first | exact HB.out | apply below_alloc | apply pw_below_drewN | apply below_drew1 | refine below_set ?_ GE464.out | refine below_set ?_ GE468.out | refine below_set ?_ GE477.out | refine below_set ?_ GE482.out) | exact HB.out)⟩
                    · rw [if_neg c59] at H
                      have c59b0 : (t473 == 0 && (t474 == 0 && (t475 == 0))) = false := by simpa using c59
                      (try (have c59b1 : decide (t473 = 0 && (t474 == 0 && (t475 == 0))) = false := by simpa using c59))
                      (try (have c59b2 : (t473 == 0 && (t474 == 0 && (t475 == 0))) = false := by simpa using c59))
                      (try (have c59b3 : ¬ (t473 = 0 && (t474 == 0 && (t475 == 0))) := by simpa using c59))
                      clear c59
                      exact absurd (H.trans (congrArg some HT.out)) (by simp)
                · rw [if_neg c38] at H
                  have c38b0 : (t476 == t481) = false := beq_eq_false_iff_ne.mpr c38
                  have c38b1 : (t476 != t481) = true := bne_iff_ne.mpr c38
                  exact absurd (H.trans (congrArg some HT.out)) (by simp)
  · replace c8 := Bool.eq_false_iff.mpr c8
    subst c8
    have H1 : (some false) = some r := by rw [if_neg (show ¬ (false = true) by decide)] at H; exact H
    clear H
    have H := H1
    clear H1
    exact absurd (H.trans (congrArg some HT.out)) (by simp)

end Go.Proofs.YthladfegmedpnaaDoor.P

namespace Go.Proofs.YthladfegmedpnaaDoor.P
open Go.RowKit Go.Proofs.YthladfegmedpnaaDoorW.PrintWords Go.Proofs.YthladfegmedpnaaDoorW.PrintLast Go.Proofs.YthladfegmedpnaaDoorW.PrintMore Go.Proofs.YthladfegmedpnaaDoor
set_option linter.unusedVariables false
set_option linter.unusedSimpArgs false

theorem add_go {x y : Int} (hx : 0 ≤ x ∧ x < 1073741789) (hy : 0 ≤ y ∧ y < 1073741789) : Int.tmod (wrap64 (x + y)) 1073741789 = (x + y) % 1073741789 := by
  have e1 : wrap64 (x + y) = x + y := by unfold wrap64; omega
  rw [e1, Int.tmod_eq_emod_of_nonneg (by omega)]
theorem beq_zero3s : (((0 : Int) == 0) && (((0 : Int) == 0) && ((0 : Int) == 0))) = true := by decide
theorem shift_open {c p b : Int} (hp : 0 ≤ p ∧ p < 1073741789) : (((c + b) % 1073741789 - p + 1073741789) % 1073741789) = ((c - p + 1073741789) % 1073741789 + b) % 1073741789 := by omega
theorem shift_seal {c p b : Int} : ((c + b) % 1073741789 + p) % 1073741789 = ((c + p) % 1073741789 + b) % 1073741789 := by omega

theorem Shift_j1 (k : Nat) (hk : 1 ≤ k) (u key dealer by_ row point c : Int) (hr : isPers row = true) (hc : inQ c = true) (hb : inQ by_ = true) : signatorylaw35_ParcelsShift.j1 k u key dealer by_ false row point c row point ((c + by_) % 1073741789) = some true := by
  obtain ⟨k, rfl⟩ : ∃ j, k = j + 1 := ⟨k - 1, by omega⟩
  have qc := inQ_iff35.1 hc
  have qb := inQ_iff35.1 hb
  have hc2 : inQ ((c + by_) % 1073741789) = true := inQ_iff35.2 (by omega)
  have hE : sealE u key dealer row ((c + by_) % 1073741789) = sealE u key dealer row c := by unfold sealE; rw [hc, hc2]
  rw [signatorylaw35_ParcelsShift.j1, if_neg (by decide)]
  by_cases hz : sealE u key dealer row c = 0
  · have hp := padz_lt (pwz key u) dealer row
    rw [seal_yes hz, seal_yes (hE.trans hz), Option.bind_some, Option.bind_some, if_pos rfl, if_pos rfl, if_pos rfl, if_pos rfl, add_go (x := (c + padz (pwz key u) dealer row) % 1073741789) ⟨by omega, by omega⟩ qb, shift_seal, beq_self_eq_true]
  · generalize he : sealE u key dealer row c = e at hz hE
    rw [seal_no he hz, seal_no hE hz, Option.bind_some, Option.bind_some, if_pos rfl, if_neg hz, if_pos beq_zero3s, beq_zero3s]

theorem ParcelsShift_f (u key d dealer row point cipher by_ : Int) : signatorylaw35_ParcelsShift.f 100 u key d dealer row point cipher by_ = some true := by
  have jt : ∀ k, 1 ≤ k → signatorylaw35_ParcelsShift.j0 k u key d dealer by_ true row point cipher = some true := fun k hk => by
    obtain ⟨k, rfl⟩ : ∃ j, k = j + 1 := ⟨k - 1, by omega⟩
    rw [signatorylaw35_ParcelsShift.j0, if_pos rfl]
  unfold signatorylaw35_ParcelsShift.f
  rw [sane35, Option.bind_some, if_pos rfl, ref35_Right_f 100 (by decide), Option.bind_some]
  cases hr : rightP row point cipher
  · rw [if_neg (by decide)]; exact jt 100 (by decide)
  · rw [if_pos rfl, ref35_Number_f, Option.bind_some]
    cases hb : inQ by_
    · rw [Bool.not_false]; exact jt 100 (by decide)
    · obtain ⟨y0, y1, y2⟩ := right_parts hr
      have qc := inQ_iff35.1 y2
      have qb := inQ_iff35.1 hb
      have hc2 : inQ ((cipher + by_) % 1073741789) = true := inQ_iff35.2 (by omega)
      have hr2 : rightP row point ((cipher + by_) % 1073741789) = true := by unfold rightP; rw [y0, y1, hc2]; rfl
      have hE : withE d dealer row point ((cipher + by_) % 1073741789) = withE d dealer row point cipher := by unfold withE; rw [hr, hr2]
      rw [Bool.not_true, signatorylaw35_ParcelsShift.j0, if_neg (by decide), add_go qc qb]
      by_cases hz : withE d dealer row point cipher = 0
      · obtain ⟨z1, z2, z3⟩ := withE_zero hz
        have hp := padz_lt d dealer row
        have ho : opened d dealer row ((cipher + by_) % 1073741789) = (opened d dealer row cipher + by_) % 1073741789 := by unfold opened; exact shift_open hp
        have hv : 0 ≤ opened d dealer row cipher ∧ opened d dealer row cipher < 1073741789 := by unfold opened; omega
        rw [with_yes z1 z2 hr, with_yes z1 z2 hr2, Option.bind_some, Option.bind_some, if_pos rfl, if_pos rfl, add_go hv qb, if_pos ho]
        exact Shift_j1 _ (by decide) _ _ _ _ _ _ _ y0 y2 hb
      · generalize he : withE d dealer row point cipher = e at hz hE
        rw [with_no he hz, with_no hE hz, Option.bind_some, Option.bind_some, if_pos rfl, if_neg hz, if_pos rfl, show (((0 : Int)) != 0) = false from rfl]
        exact Shift_j1 _ (by decide) _ _ _ _ _ _ _ y0 y2 hb

end Go.Proofs.YthladfegmedpnaaDoor.P
