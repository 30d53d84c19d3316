import Derived.Test.YthladfegmedpnaaDoorK4
import Derived.Test.YthladfegmedpnaaDoorLParcelsSpec1
import Derived.Test.YthladfegmedpnaaDoorK17
import Derived.Test.YthladfegmedpnaaDoorK15
set_option linter.unusedVariables false
set_option linter.unusedSimpArgs false
namespace Go.Proofs.YthladfegmedpnaaDoor.P
open Go.RowKit Go.Proofs.YthladfegmedpnaaDoorW.PrintWords Go.Proofs.YthladfegmedpnaaDoorW.PrintLast Go.Proofs.YthladfegmedpnaaDoorW.PrintMore
attribute [local go_sem] max2_int min2_int max_two min_two max_three min_three max_four min_four
set_option linter.unusedVariables false
set_option linter.unusedSimpArgs false

attribute [local go_sem high] eqA48
/-! ### signatorylaw35_ParcelsPoints: function 12 -/
def signatorylaw35_ParcelsPoints.j0 : Nat → Int → Int → Int → Int → Int → Int → Int → Bool → Int → Int → Int → Int → Int → Int → Option (Bool)
  | 0, _, _, _, _, _, _, _, _, _, _, _, _, _, _ => none
  | k + 1, x0, x1, x2, x3, x5, x14, x16, x46, x489000, x489001, x489002, x494000, x494001, x494002 => if x46 = true then (if x14 = 0 then (if x16 = 0 then (some true) else (some (x494000 == 0 && (x494001 == 0 && (x494002 == 0))))) else (if (x489000 == 0 && (x489001 == 0 && (x489002 == 0))) = true then (if x16 = 0 then (some true) else (some (x494000 == 0 && (x494001 == 0 && (x494002 == 0))))) else (some false))) else (if ((x489001 == x494001) != (x0 == x1)) = true then (some false) else ((group_Pow.f x2 x0).bind fun bt494 => ((parcels_With.f bt494.1 x3 x489000 x489001 x489002).bind fun bt496 => (if bt494.2 = 0 then (if bt496.2 = 0 then (some (bt496.1 == x5)) else (some false)) else (some false)))))
def signatorylaw35_ParcelsPoints.f (k : Nat) (a0 : Int) (a1 : Int) (a2 : Int) (a3 : Int) (a4 : Int) (a5 : Int) : Option (Bool) := (signatorylaw35_sane.f).bind fun t483 => (if t483 = true then ((parcels_Seal.f a0 a2 a3 a4 a5).bind fun bt484 => ((parcels_Seal.f a1 a2 a3 a4 a5).bind fun bt489 => (if bt484.2.2.2 = 0 then (signatorylaw35_ParcelsPoints.j0 k a0 a1 a2 a3 a5 bt484.2.2.2 bt489.2.2.2 (bt489.2.2.2 != 0) bt484.1 bt484.2.1 bt484.2.2.1 bt489.1 bt489.2.1 bt489.2.2.1) else (signatorylaw35_ParcelsPoints.j0 k a0 a1 a2 a3 a5 bt484.2.2.2 bt489.2.2.2 true bt484.1 bt484.2.1 bt484.2.2.1 bt489.1 bt489.2.1 bt489.2.2.1)))) else (some false))
theorem signatorylaw35_ParcelsPoints.mono_l : ∀ k, (∀ y0 y1 y2 y3 y4 y5 y6 y7 y8 y9 y10 y11 y12 y13, LeO (signatorylaw35_ParcelsPoints.j0 k y0 y1 y2 y3 y4 y5 y6 y7 y8 y9 y10 y11 y12 y13) (signatorylaw35_ParcelsPoints.j0 (k + 1) y0 y1 y2 y3 y4 y5 y6 y7 y8 y9 y10 y11 y12 y13))
  | 0 => fun _ _ _ _ _ _ _ _ _ _ _ _ _ _ r h => by simp [signatorylaw35_ParcelsPoints.j0] at h
  | k + 1 => by
    have ih0 := signatorylaw35_ParcelsPoints.mono_l k
    · intro y0 y1 y2 y3 y4 y5 y6 y7 y8 y9 y10 y11 y12 y13
      unfold signatorylaw35_ParcelsPoints.j0
      repeat' first
      | (with_reducible exact ih0 _ _ _ _ _ _ _ _ _ _ _ _ _ _)
      | (with_reducible exact LeO.refl _)
      | (with_reducible exact LeO.none _)
      | (with_reducible refine LeO.ite ?_ ?_)
      | (with_reducible refine LeO.bind ?_ (fun _ => ?_))
      | exact ih0 _ _ _ _ _ _ _ _ _ _ _ _ _ _
      | exact LeO.none _
      | refine LeO.ite ?_ ?_
      | refine LeO.bind ?_ (fun _ => ?_)
theorem signatorylaw35_ParcelsPoints.mono : ∀ a0 a1 a2 a3 a4 a5 k, LeO (signatorylaw35_ParcelsPoints.f k a0 a1 a2 a3 a4 a5) (signatorylaw35_ParcelsPoints.f (k + 1) a0 a1 a2 a3 a4 a5) := by
  intro a0 a1 a2 a3 a4 a5 k
  have ih0 := signatorylaw35_ParcelsPoints.mono_l k
  unfold signatorylaw35_ParcelsPoints.f
  repeat' first
      | (with_reducible exact ih0 _ _ _ _ _ _ _ _ _ _ _ _ _ _)
      | (with_reducible exact LeO.refl _)
      | (with_reducible exact LeO.none _)
      | (with_reducible refine LeO.ite ?_ ?_)
      | (with_reducible refine LeO.bind ?_ (fun _ => ?_))
      | exact ih0 _ _ _ _ _ _ _ _ _ _ _ _ _ _
      | exact LeO.none _
      | refine LeO.ite ?_ ?_
      | refine LeO.bind ?_ (fun _ => ?_)
set_option maxHeartbeats 8000000 in
set_option maxRecDepth 100000 in
theorem signatorylaw35_ParcelsPoints.calls (k : Nat) (a0 : Int) (a1 : Int) (a2 : Int) (a3 : Int) (a4 : Int) (a5 : Int) (r : Bool) (w : World) (h : signatorylaw35_ParcelsPoints.f k a0 a1 a2 a3 a4 a5 = some r) (hT : r = true := by rfl) (hG : Glob w := by first | exact hG | exact Glob.below hG HB.out | exact Glob.below hG (by repeat (first | (with_reducible first | exact HB.out | apply below_alloc | apply pw_below_drewN | apply below_drew1 | refine below_set ?_ (Aside0.out (by assumption))) | exact HB.out))) :
    Calls Tryd.prog 12 #[.int .i64 a0, .int .i64 a1, .int .i64 a2, .int .i64 a3, .int .i64 a4, .int .i64 a5] w fun e w' => e = .returned (.bool r) ∧ Below w.heap.size w w' := by
  have HT := Aside0.mk hT
  clear hT
  have hu48 := Tryd.underlying48
  have HB := Aside0.mk (Below.refl w.heap.size w)
  have H : ((signatorylaw35_sane.f).bind fun t483 => (if t483 = true then ((parcels_Seal.f a0 a2 a3 a4 a5).bind fun bt484 => ((parcels_Seal.f a1 a2 a3 a4 a5).bind fun bt489 => (if bt484.2.2.2 = 0 then (signatorylaw35_ParcelsPoints.j0 k a0 a1 a2 a3 a5 bt484.2.2.2 bt489.2.2.2 (bt489.2.2.2 != 0) bt484.1 bt484.2.1 bt484.2.2.1 bt489.1 bt489.2.1 bt489.2.2.1) else (signatorylaw35_ParcelsPoints.j0 k a0 a1 a2 a3 a5 bt484.2.2.2 bt489.2.2.2 true bt484.1 bt484.2.1 bt484.2.2.1 bt489.1 bt489.2.1 bt489.2.2.1)))) else (some false))) = some r := h
  clear h
  replace H := Option.bind_eq_some_iff.mp H
  obtain ⟨t483, A70, H⟩ := H
  replace H : (if t483 = true then ((parcels_Seal.f a0 a2 a3 a4 a5).bind fun bt484 => ((parcels_Seal.f a1 a2 a3 a4 a5).bind fun bt489 => (if bt484.2.2.2 = 0 then (signatorylaw35_ParcelsPoints.j0 k a0 a1 a2 a3 a5 bt484.2.2.2 bt489.2.2.2 (bt489.2.2.2 != 0) bt484.1 bt484.2.1 bt484.2.2.1 bt489.1 bt489.2.1 bt489.2.2.1) else (signatorylaw35_ParcelsPoints.j0 k a0 a1 a2 a3 a5 bt484.2.2.2 bt489.2.2.2 true bt484.1 bt484.2.1 bt484.2.2.1 bt489.1 bt489.2.1 bt489.2.2.1)))) else (some false)) = some r := H
  have A7 := Aside0.mk A70
  clear A70
  by_cases c8 : t483 = true
  · subst c8
    have H1 : ((parcels_Seal.f a0 a2 a3 a4 a5).bind fun bt484 => ((parcels_Seal.f a1 a2 a3 a4 a5).bind fun bt489 => (if bt484.2.2.2 = 0 then (signatorylaw35_ParcelsPoints.j0 k a0 a1 a2 a3 a5 bt484.2.2.2 bt489.2.2.2 (bt489.2.2.2 != 0) bt484.1 bt484.2.1 bt484.2.2.1 bt489.1 bt489.2.1 bt489.2.2.1) else (signatorylaw35_ParcelsPoints.j0 k a0 a1 a2 a3 a5 bt484.2.2.2 bt489.2.2.2 true bt484.1 bt484.2.1 bt484.2.2.1 bt489.1 bt489.2.1 bt489.2.2.1)))) = some r := by rw [if_pos rfl] at H; exact H
    clear H
    have H := H1
    clear H1
    replace H := Option.bind_eq_some_iff.mp H
    obtain ⟨⟨t484, t485, t486, t487⟩, A90, H⟩ := H
    replace H : ((parcels_Seal.f a1 a2 a3 a4 a5).bind fun bt489 => (if t487 = 0 then (signatorylaw35_ParcelsPoints.j0 k a0 a1 a2 a3 a5 t487 bt489.2.2.2 (bt489.2.2.2 != 0) t484 t485 t486 bt489.1 bt489.2.1 bt489.2.2.1) else (signatorylaw35_ParcelsPoints.j0 k a0 a1 a2 a3 a5 t487 bt489.2.2.2 true t484 t485 t486 bt489.1 bt489.2.1 bt489.2.2.1))) = some r := H
    have A9 := Aside0.mk A90
    clear A90
    replace H := Option.bind_eq_some_iff.mp H
    obtain ⟨⟨t489, t490, t491, t492⟩, A100, H⟩ := H
    replace H : (if t487 = 0 then (signatorylaw35_ParcelsPoints.j0 k a0 a1 a2 a3 a5 t487 t492 (t492 != 0) t484 t485 t486 t489 t490 t491) else (signatorylaw35_ParcelsPoints.j0 k a0 a1 a2 a3 a5 t487 t492 true t484 t485 t486 t489 t490 t491)) = some r := H
    have A10 := Aside0.mk A100
    clear A100
    have HC11 := Aside0.mk H
    clear H
    go_enter Tryd.func12, Tryd.ntmps12
    go_upto_region 5 with (first | ((with_reducible refine gate_callee (f := 26) rfl ?_); refine goesL_ (some 21) rfl rfl Tryd.func26 (by kernel_rfl) rfl #[] rfl (by (try simp only [List.map_toArray, List.map_cons, List.map_nil]); first | done | rfl | (simp only [List.length_drop, List.length_take]; rfl)) ?_; (with_reducible refine (signatorylaw35_sane.calls  true _ A7.out).mono ?_); rintro e w12 ⟨rfl, hb⟩; refine ⟨_, rfl, ?_⟩; have n0_ := Aside0.mk (below_step (by repeat (first | (with_reducible first | exact HB.out | apply below_alloc | apply pw_below_drewN | apply below_drew1) | exact HB.out)) hb); clear HB; have HB := n0_; clear n0_; (try clear hb); (try clear hb2); (try clear hk); (try clear hi)) | ((with_reducible refine gate_callee (f := 27) rfl ?_); refine goesL_ (some 29) rfl rfl Tryd.func27 (by kernel_rfl) rfl #[.int .i64 a0, .int .i64 a2, .int .i64 a3, .int .i64 a4, .int .i64 a5] rfl (by (try simp only [List.map_toArray, List.map_cons, List.map_nil]); first | done | rfl | (simp only [List.length_drop, List.length_take]; rfl)) ?_; (with_reducible refine (parcels_Seal.calls a0 a2 a3 a4 a5 t484 t485 t486 t487 _ A9.out).mono ?_); rintro e w13 ⟨rfl, hb⟩; refine ⟨_, rfl, ?_⟩; have n0_ := Aside0.mk (below_step (by repeat (first | (with_reducible first | exact HB.out | apply below_alloc | apply pw_below_drewN | apply below_drew1) | exact HB.out)) hb); clear HB; have HB := n0_; clear n0_; (try clear hb); (try clear hb2); (try clear hk); (try clear hi)) | ((with_reducible refine gate_dst (N := 13) rfl ?_); refine box_event ?hg (N := 13) ?hd (cs := #[.int .i64 0, .int .i64 0, .int .i64 0]) (t := 48) ?hr ?_; (case hd => rfl); (case hg => rfl); (case hr => first | (go_simp; done) | (go_simp; rfl)); intro gb488 hg w14 hbox hb; have n0_ := Aside0.mk (below_step (by repeat (first | (with_reducible first | exact HB.out | apply below_alloc | apply pw_below_drewN | apply below_drew1) | exact HB.out)) hb); have n1_ := Aside0.mk (hbox); have n2_ := Aside0.mk ((by rw [hg]; exact (below_size (by repeat (first | (with_reducible first | exact HB.out | apply below_alloc | apply pw_below_drewN | apply below_drew1) | exact HB.out))) : w.heap.size ≤ gb488)); have n3_ := Aside0.mk ((by rw [hg]; exact (below_size (by repeat (first | (with_reducible first | exact HB.out | apply below_alloc | apply pw_below_drewN | apply below_drew1) | exact HB.out))) : w.heap.size ≤ gb488)); clear HB; have HB := n0_; have BK488 := n1_; have GW488 := n2_; have GE488 := n3_; clear n0_ n1_ n2_ n3_; clear hb hbox hg; have hcz15_0 : w14.cell? ⟨gb488, 0, none⟩ = some (.int .i64 0) := (blk_cell BK488.out 0).trans rfl; have hcz15_1 : w14.cell? ⟨gb488, 1, none⟩ = some (.int .i64 0) := (blk_cell BK488.out 1).trans rfl; have hcz15_2 : w14.cell? ⟨gb488, 2, none⟩ = some (.int .i64 0) := (blk_cell BK488.out 2).trans rfl; have hfz15_0 := blk_frozen BK488.out 0; have hfz15_1 := blk_frozen BK488.out 1; have hfz15_2 := blk_frozen BK488.out 2) | ((with_reducible refine gate_callee (f := 27) rfl ?_); refine goesL_ (some 38) rfl rfl Tryd.func27 (by kernel_rfl) rfl #[.int .i64 a1, .int .i64 a2, .int .i64 a3, .int .i64 a4, .int .i64 a5] rfl (by (try simp only [List.map_toArray, List.map_cons, List.map_nil]); first | done | rfl | (simp only [List.length_drop, List.length_take]; rfl)) ?_; (with_reducible refine (parcels_Seal.calls a1 a2 a3 a4 a5 t489 t490 t491 t492 _ A10.out).mono ?_); rintro e w16 ⟨rfl, hb⟩; refine ⟨_, rfl, ?_⟩; have n0_ := Aside0.mk (blk_below (g := gb488) (o := .cells #[.int .i64 t484, .int .i64 t485, .int .i64 t486] 48 (0, 0)) (by (with_reducible repeat (first | refine blk_drewN ?_ _ | refine blk_drew ?_ | refine blk_alloc ?_ _)); refine blk_put (cs := #[.int .i64 t484, .int .i64 t485, .int .i64 0]) ?_ 2 _ rfl; (with_reducible repeat (first | refine blk_drewN ?_ _ | refine blk_drew ?_ | refine blk_alloc ?_ _)); refine blk_put (cs := #[.int .i64 t484, .int .i64 0, .int .i64 0]) ?_ 1 _ rfl; (with_reducible repeat (first | refine blk_drewN ?_ _ | refine blk_drew ?_ | refine blk_alloc ?_ _)); refine blk_put (cs := #[.int .i64 0, .int .i64 0, .int .i64 0]) ?_ 0 _ rfl; (with_reducible repeat (first | refine blk_drewN ?_ _ | refine blk_drew ?_ | refine blk_alloc ?_ _)); exact BK488.out) hb); have n1_ := Aside0.mk (below_step (by repeat (first | (with_reducible first | exact HB.out | apply below_alloc | apply pw_below_drewN | apply below_drew1 | refine below_set ?_ GE488.out) | exact HB.out)) hb); clear BK488; clear HB; have BK488 := n0_; have HB := n1_; clear n0_ n1_; (try clear hb); (try clear hb2); (try clear hk); (try clear hi)) | ((with_reducible refine gate_dst (N := 15) rfl ?_); refine box_event ?hg (N := 15) ?hd (cs := #[.int .i64 0, .int .i64 0, .int .i64 0]) (t := 48) ?hr ?_; (case hd => rfl); (case hg => rfl); (case hr => first | (go_simp; done) | (go_simp; rfl)); intro gb493 hg w17 hbox hb; have n0_ := Aside0.mk (blk_below (g := gb488) (o := .cells #[.int .i64 t484, .int .i64 t485, .int .i64 t486] 48 (0, 0)) (by (with_reducible repeat (first | refine blk_drewN ?_ _ | refine blk_drew ?_ | refine blk_alloc ?_ _)); exact BK488.out) hb); have n1_ := Aside0.mk (below_step (by repeat (first | (with_reducible first | exact HB.out | apply below_alloc | apply pw_below_drewN | apply below_drew1 | refine below_set ?_ GE488.out) | exact HB.out)) hb); have n2_ := Aside0.mk (hbox); have n3_ := Aside0.mk ((by rw [hg]; exact (below_size (by repeat (first | (with_reducible first | exact HB.out | apply below_alloc | apply pw_below_drewN | apply below_drew1 | refine below_set ?_ GE488.out) | exact HB.out))) : w.heap.size ≤ gb493)); have n4_ := Aside0.mk ((by rw [hg]; exact (below_size (by repeat (first | (with_reducible first | exact HB.out | apply below_alloc | apply pw_below_drewN | apply below_drew1 | refine below_set ?_ GE488.out) | exact HB.out))) : w.heap.size ≤ gb493)); have n5_ := Aside0.mk ((by rw [hg]; exact Nat.ne_of_lt (blk_lt (g := gb488) (o := .cells #[.int .i64 t484, .int .i64 t485, .int .i64 t486] 48 (0, 0)) (by (with_reducible repeat (first | refine blk_drewN ?_ _ | refine blk_drew ?_ | refine blk_alloc ?_ _)); exact BK488.out)) : gb488 ≠ gb493)); have n6_ := Aside0.mk ((by rw [hg]; exact Nat.ne_of_gt (blk_lt (g := gb488) (o := .cells #[.int .i64 t484, .int .i64 t485, .int .i64 t486] 48 (0, 0)) (by (with_reducible repeat (first | refine blk_drewN ?_ _ | refine blk_drew ?_ | refine blk_alloc ?_ _)); exact BK488.out)) : gb493 ≠ gb488)); clear BK488; clear HB; have BK488 := n0_; have HB := n1_; have BK493 := n2_; have GW493 := n3_; have GE493 := n4_; have NB488_493 := n5_; have NB493_488 := n6_; clear n0_ n1_ n2_ n3_ n4_ n5_ n6_; clear hb hbox hg; have hnb18 := NB493_488.out; have hnc18 := NB488_493.out; have hcz19_0 : w17.cell? ⟨gb493, 0, none⟩ = some (.int .i64 0) := (blk_cell BK493.out 0).trans rfl; have hcz19_1 : w17.cell? ⟨gb493, 1, none⟩ = some (.int .i64 0) := (blk_cell BK493.out 1).trans rfl; have hcz19_2 : w17.cell? ⟨gb493, 2, none⟩ = some (.int .i64 0) := (blk_cell BK493.out 2).trans rfl; have hfz19_0 := blk_frozen BK493.out 0; have hfz19_1 := blk_frozen BK493.out 1; have hfz19_2 := blk_frozen BK493.out 2))
    (try simp only [Act.put, List.setIfInBounds_toArray, List.set_cons_zero, List.set_cons_succ])
    go_cut [46] (fun v46 wc => ∃ (kq : Nat) (x46_10 : Bool), v46 = .bool x46_10 ∧ Aside0 (signatorylaw35_ParcelsPoints.j0 kq a0 a1 a2 a3 a5 t487 t492 x46_10 t484 t485 t486 t489 t490 t491 = some r) ∧ Aside0 (kq ≤ k) ∧ Aside0 (wc.heap[gb488]? = some (.cells #[.int .i64 t484, .int .i64 t485, .int .i64 t486] 48 (0, 0))) ∧ Aside0 (wc.heap[gb493]? = some (.cells #[.int .i64 t489, .int .i64 t490, .int .i64 t491] 48 (0, 0))) ∧ Aside0 (Below w.heap.size w wc))
    case first =>
      have H := HC11.out
      clear HC11
      by_cases c20 : t487 = 0
      · rw [if_pos c20] at H
        have c20b0 : (t487 == 0) = true := beq_iff_eq.mpr c20
        have c20b1 : (t487 != 0) = false := bne_eq_false_iff_eq.mpr c20
        clear c20
        (first | rw [c20b0] | (simp only [i64_w, i32_w]; rw [c20b0]) | skip)
        have H' := Aside0.mk H
        clear H
        go_wp2
        go_meet
        case rel => exact ⟨_, ((t492 != 0)), (by first | rfl | (simp; done) | (simp [*]; done)), H', ⟨by first | omega | exact Nat.le_refl _⟩, ⟨by (with_reducible repeat (first | refine blk_drewN ?_ _ | refine blk_drew ?_ | refine blk_alloc ?_ _)); refine blk_far ?_ NB488_493.out _; (with_reducible repeat (first | refine blk_drewN ?_ _ | refine blk_drew ?_ | refine blk_alloc ?_ _)); refine blk_far ?_ NB488_493.out _; (with_reducible repeat (first | refine blk_drewN ?_ _ | refine blk_drew ?_ | refine blk_alloc ?_ _)); refine blk_far ?_ NB488_493.out _; (with_reducible repeat (first | refine blk_drewN ?_ _ | refine blk_drew ?_ | refine blk_alloc ?_ _)); exact BK488.out⟩, ⟨by (with_reducible repeat (first | refine blk_drewN ?_ _ | refine blk_drew ?_ | refine blk_alloc ?_ _)); refine blk_put (cs := #[.int .i64 t489, .int .i64 t490, .int .i64 0]) ?_ 2 _ rfl; (with_reducible repeat (first | refine blk_drewN ?_ _ | refine blk_drew ?_ | refine blk_alloc ?_ _)); refine blk_put (cs := #[.int .i64 t489, .int .i64 0, .int .i64 0]) ?_ 1 _ rfl; (with_reducible repeat (first | refine blk_drewN ?_ _ | refine blk_drew ?_ | refine blk_alloc ?_ _)); refine blk_put (cs := #[.int .i64 0, .int .i64 0, .int .i64 0]) ?_ 0 _ rfl; (with_reducible repeat (first | refine blk_drewN ?_ _ | refine blk_drew ?_ | refine blk_alloc ?_ _)); exact BK493.out⟩, ⟨by repeat (first | (with_reducible first | exact HB.out | apply below_alloc | apply pw_below_drewN | apply below_drew1 | refine below_set ?_ GE488.out | refine below_set ?_ GE493.out) | exact HB.out)⟩⟩
      · rw [if_neg c20] at H
        have c20b0 : (t487 == 0) = false := beq_eq_false_iff_ne.mpr c20
        have c20b1 : (t487 != 0) = true := bne_iff_ne.mpr c20
        (first | rw [c20b0] | (simp only [i64_w, i32_w]; rw [c20b0]) | skip)
        have H' := Aside0.mk H
        clear H
        go_wp2
        go_meet
        case rel => exact ⟨_, (true), (by first | rfl | (simp; done) | (simp [*]; done)), H', ⟨by first | omega | exact Nat.le_refl _⟩, ⟨by (with_reducible repeat (first | refine blk_drewN ?_ _ | refine blk_drew ?_ | refine blk_alloc ?_ _)); refine blk_far ?_ NB488_493.out _; (with_reducible repeat (first | refine blk_drewN ?_ _ | refine blk_drew ?_ | refine blk_alloc ?_ _)); refine blk_far ?_ NB488_493.out _; (with_reducible repeat (first | refine blk_drewN ?_ _ | refine blk_drew ?_ | refine blk_alloc ?_ _)); refine blk_far ?_ NB488_493.out _; (with_reducible repeat (first | refine blk_drewN ?_ _ | refine blk_drew ?_ | refine blk_alloc ?_ _)); exact BK488.out⟩, ⟨by (with_reducible repeat (first | refine blk_drewN ?_ _ | refine blk_drew ?_ | refine blk_alloc ?_ _)); refine blk_put (cs := #[.int .i64 t489, .int .i64 t490, .int .i64 0]) ?_ 2 _ rfl; (with_reducible repeat (first | refine blk_drewN ?_ _ | refine blk_drew ?_ | refine blk_alloc ?_ _)); refine blk_put (cs := #[.int .i64 t489, .int .i64 0, .int .i64 0]) ?_ 1 _ rfl; (with_reducible repeat (first | refine blk_drewN ?_ _ | refine blk_drew ?_ | refine blk_alloc ?_ _)); refine blk_put (cs := #[.int .i64 0, .int .i64 0, .int .i64 0]) ?_ 0 _ rfl; (with_reducible repeat (first | refine blk_drewN ?_ _ | refine blk_drew ?_ | refine blk_alloc ?_ _)); exact BK493.out⟩, ⟨by repeat (first | (with_reducible first | exact HB.out | apply below_alloc | apply pw_below_drewN | apply below_drew1 | refine below_set ?_ GE488.out | refine below_set ?_ GE493.out) | exact HB.out)⟩⟩
    case rest =>
      clear HC11
      try clear c1
      try clear c2
      try clear p2
      try clear c8
      try clear c12
      try clear c18
      try clear c20
      try clear c20b0
      try clear c20b1
      try clear hcz15_0
      try clear hcz15_1
      try clear hcz15_2
      try clear hcz19_0
      try clear hcz19_1
      try clear hcz19_2
      try clear hfz15_0
      try clear hfz15_1
      try clear hfz15_2
      try clear hfz19_0
      try clear hfz19_1
      try clear hfz19_2
      obtain ⟨kq, x46_10, rfl, HA, HJ10, BK488, BK493, HB⟩ := hcut
      cases kq with
      | zero => exact absurd HA.out (by simp [signatorylaw35_ParcelsPoints.j0])
      | succ kj10 =>
        have H := HA.out
        clear HA
        simp only [signatorylaw35_ParcelsPoints.j0] at H
        by_cases c21 : x46_10 = true
        · subst c21
          have H1 : (if t487 = 0 then (if t492 = 0 then (some true) else (some (t489 == 0 && (t490 == 0 && (t491 == 0))))) else (if (t484 == 0 && (t485 == 0 && (t486 == 0))) = true then (if t492 = 0 then (some true) else (some (t489 == 0 && (t490 == 0 && (t491 == 0))))) else (some false))) = some r := by rw [if_pos rfl] at H; exact H
          clear H
          have H := H1
          clear H1
          by_cases c22 : t487 = 0
          · rw [if_pos c22] at H
            have c22b0 : (t487 == 0) = true := beq_iff_eq.mpr c22
            have c22b1 : (t487 != 0) = false := bne_eq_false_iff_eq.mpr c22
            clear c22
            by_cases c23 : t492 = 0
            · rw [if_pos c23] at H
              have c23b0 : (t492 == 0) = true := beq_iff_eq.mpr c23
              have c23b1 : (t492 != 0) = false := bne_eq_false_iff_eq.mpr c23
              clear c23
              obtain rfl := Option.some.inj H
              go_wp2
              go_ret
              exact ⟨by first | rfl | (simp [errW_none, errW_some] <;> rfl) | (simp [*, errW_none, errW_some] <;> rfl), by repeat (first | (with_reducible first | exact HB.out | apply below_alloc | apply pw_below_drewN | apply below_drew1 | refine below_set ?_ GE488.out | refine below_set ?_ GE493.out) | exact HB.out)⟩
            · rw [if_neg c23] at H
              have c23b0 : (t492 == 0) = false := beq_eq_false_iff_ne.mpr c23
              have c23b1 : (t492 != 0) = true := bne_iff_ne.mpr c23
              obtain rfl := Option.some.inj H
              have hnb24 := NB493_488.out
              have hnc24 := NB488_493.out
              have hcz25_0 : wc.cell? ⟨gb493, 0, none⟩ = some (.int .i64 t489) := (blk_cell BK493.out 0).trans rfl
              have hcz25_1 : wc.cell? ⟨gb493, 1, none⟩ = some (.int .i64 t490) := (blk_cell BK493.out 1).trans rfl
              have hcz25_2 : wc.cell? ⟨gb493, 2, none⟩ = some (.int .i64 t491) := (blk_cell BK493.out 2).trans rfl
              have hfz25_0 := blk_frozen BK493.out 0
              have hfz25_1 := blk_frozen BK493.out 1
              have hfz25_2 := blk_frozen BK493.out 2
              go_wp2
              go_ret
              exact ⟨by first | rfl | (simp [errW_none, errW_some] <;> rfl) | (simp [*, errW_none, errW_some] <;> rfl), by repeat (first | (with_reducible first | exact HB.out | apply below_alloc | apply pw_below_drewN | apply below_drew1 | refine below_set ?_ GE488.out | refine below_set ?_ GE493.out) | exact HB.out)⟩
          · rw [if_neg c22] at H
            have c22b0 : (t487 == 0) = false := beq_eq_false_iff_ne.mpr c22
            have c22b1 : (t487 != 0) = true := bne_iff_ne.mpr c22
            by_cases c26 : (t484 == 0 && (t485 == 0 && (t486 == 0))) = true
            · rw [if_pos c26] at H
              have c26b0 : (t484 == 0 && (t485 == 0 && (t486 == 0))) = true := c26
              (try (have c26b1 : decide (t484 = 0 && (t485 == 0 && (t486 == 0))) = true := by simpa using c26))
              (try (have c26b2 : (t484 == 0 && (t485 == 0 && (t486 == 0))) = true := by simpa using c26))
              clear c26
              by_cases c27 : t492 = 0
              · rw [if_pos c27] at H
                have c27b0 : (t492 == 0) = true := beq_iff_eq.mpr c27
                have c27b1 : (t492 != 0) = false := bne_eq_false_iff_eq.mpr c27
                clear c27
                obtain rfl := Option.some.inj H
                have hnb28 := NB488_493.out
                have hnc28 := NB493_488.out
                have hcz29_0 : wc.cell? ⟨gb488, 0, none⟩ = some (.int .i64 t484) := (blk_cell BK488.out 0).trans rfl
                have hcz29_1 : wc.cell? ⟨gb488, 1, none⟩ = some (.int .i64 t485) := (blk_cell BK488.out 1).trans rfl
                have hcz29_2 : wc.cell? ⟨gb488, 2, none⟩ = some (.int .i64 t486) := (blk_cell BK488.out 2).trans rfl
                have hfz29_0 := blk_frozen BK488.out 0
                have hfz29_1 := blk_frozen BK488.out 1
                have hfz29_2 := blk_frozen BK488.out 2
                go_wp2
                go_ret
                exact ⟨by first | rfl | (simp [errW_none, errW_some] <;> rfl) | (simp [*, errW_none, errW_some] <;> rfl), by repeat (first | (with_reducible first | exact HB.out | apply below_alloc | apply pw_below_drewN | apply below_drew1 | refine below_set ?_ GE488.out | refine below_set ?_ GE493.out) | exact HB.out)⟩
              · rw [if_neg c27] at H
                have c27b0 : (t492 == 0) = false := beq_eq_false_iff_ne.mpr c27
                have c27b1 : (t492 != 0) = true := bne_iff_ne.mpr c27
                obtain rfl := Option.some.inj H
                have hnb30 := NB488_493.out
                have hnc30 := NB493_488.out
                have hcz31_0 : wc.cell? ⟨gb488, 0, none⟩ = some (.int .i64 t484) := (blk_cell BK488.out 0).trans rfl
                have hcz31_1 : wc.cell? ⟨gb488, 1, none⟩ = some (.int .i64 t485) := (blk_cell BK488.out 1).trans rfl
                have hcz31_2 : wc.cell? ⟨gb488, 2, none⟩ = some (.int .i64 t486) := (blk_cell BK488.out 2).trans rfl
                have hfz31_0 := blk_frozen BK488.out 0
                have hfz31_1 := blk_frozen BK488.out 1
                have hfz31_2 := blk_frozen BK488.out 2
                have hcz32_0 : wc.cell? ⟨gb493, 0, none⟩ = some (.int .i64 t489) := (blk_cell BK493.out 0).trans rfl
                have hcz32_1 : wc.cell? ⟨gb493, 1, none⟩ = some (.int .i64 t490) := (blk_cell BK493.out 1).trans rfl
                have hcz32_2 : wc.cell? ⟨gb493, 2, none⟩ = some (.int .i64 t491) := (blk_cell BK493.out 2).trans rfl
                have hfz32_0 := blk_frozen BK493.out 0
                have hfz32_1 := blk_frozen BK493.out 1
                have hfz32_2 := blk_frozen BK493.out 2
                go_wp2
                go_ret
                exact ⟨by first | rfl | (simp [errW_none, errW_some] <;> rfl) | (simp [*, errW_none, errW_some] <;> rfl), by repeat (first | (with_reducible first | exact HB.out | apply below_alloc | apply pw_below_drewN | apply below_drew1 | refine below_set ?_ GE488.out | refine below_set ?_ GE493.out) | exact HB.out)⟩
            · rw [if_neg c26] at H
              have c26b0 : (t484 == 0 && (t485 == 0 && (t486 == 0))) = false := by simpa using c26
              (try (have c26b1 : decide (t484 = 0 && (t485 == 0 && (t486 == 0))) = false := by simpa using c26))
              (try (have c26b2 : (t484 == 0 && (t485 == 0 && (t486 == 0))) = false := by simpa using c26))
              (try (have c26b3 : ¬ (t484 = 0 && (t485 == 0 && (t486 == 0))) := by simpa using c26))
              clear c26
              exact absurd (H.trans (congrArg some HT.out)) (by simp)
        · replace c21 := Bool.eq_false_iff.mpr c21
          subst c21
          have H1 : (if ((t485 == t490) != (a0 == a1)) = true then (some false) else ((group_Pow.f a2 a0).bind fun bt494 => ((parcels_With.f bt494.1 a3 t484 t485 t486).bind fun bt496 => (if bt494.2 = 0 then (if bt496.2 = 0 then (some (bt496.1 == a5)) else (some false)) else (some false))))) = some r := by rw [if_neg (show ¬ (false = true) by decide)] at H; exact H
          clear H
          have H := H1
          clear H1
          by_cases c33 : ((t485 == t490) != (a0 == a1)) = true
          · rw [if_pos c33] at H
            have c33b0 : ((t485 == t490) != (a0 == a1)) = true := c33
            (try (have c33b1 : decide ((t485 == t490) = (a0 == a1)) = false := by simpa using c33))
            (try (have c33b2 : ((t485 == t490) == (a0 == a1)) = false := by simpa using c33))
            (try (have c33b3 : ¬ ((t485 == t490) = (a0 == a1)) := by simpa using c33))
            clear c33
            exact absurd (H.trans (congrArg some HT.out)) (by simp)
          · rw [if_neg c33] at H
            have c33b0 : ((t485 == t490) != (a0 == a1)) = false := by simpa using c33
            (try (have c33b1 : decide ((t485 == t490) = (a0 == a1)) = true := by simpa using c33))
            (try (have c33b2 : ((t485 == t490) == (a0 == a1)) = true := by simpa using c33))
            clear c33
            replace H := Option.bind_eq_some_iff.mp H
            obtain ⟨⟨t494, t495⟩, A340, H⟩ := H
            replace H : ((parcels_With.f t494 a3 t484 t485 t486).bind fun bt496 => (if t495 = 0 then (if bt496.2 = 0 then (some (bt496.1 == a5)) else (some false)) else (some false))) = some r := H
            have A34 := Aside0.mk A340
            clear A340
            replace H := Option.bind_eq_some_iff.mp H
            obtain ⟨⟨t496, t497⟩, A350, H⟩ := H
            replace H : (if t495 = 0 then (if t497 = 0 then (some (t496 == a5)) else (some false)) else (some false)) = some r := H
            have A35 := Aside0.mk A350
            clear A350
            by_cases c36 : t495 = 0
            · rw [if_pos c36] at H
              have c36b0 : (t495 == 0) = true := beq_iff_eq.mpr c36
              have c36b1 : (t495 != 0) = false := bne_eq_false_iff_eq.mpr c36
              clear c36
              by_cases c37 : t497 = 0
              · rw [if_pos c37] at H
                have c37b0 : (t497 == 0) = true := beq_iff_eq.mpr c37
                have c37b1 : (t497 != 0) = false := bne_eq_false_iff_eq.mpr c37
                clear c37
                obtain rfl := Option.some.inj H
                have hnb38 := NB488_493.out
                have hnc38 := NB493_488.out
                have hcz39_0 : wc.cell? ⟨gb488, 0, none⟩ = some (.int .i64 t484) := (blk_cell BK488.out 0).trans rfl
                have hcz39_1 : wc.cell? ⟨gb488, 1, none⟩ = some (.int .i64 t485) := (blk_cell BK488.out 1).trans rfl
                have hcz39_2 : wc.cell? ⟨gb488, 2, none⟩ = some (.int .i64 t486) := (blk_cell BK488.out 2).trans rfl
                have hfz39_0 := blk_frozen BK488.out 0
                have hfz39_1 := blk_frozen BK488.out 1
                have hfz39_2 := blk_frozen BK488.out 2
                have hcz40_0 : wc.cell? ⟨gb493, 0, none⟩ = some (.int .i64 t489) := (blk_cell BK493.out 0).trans rfl
                have hcz40_1 : wc.cell? ⟨gb493, 1, none⟩ = some (.int .i64 t490) := (blk_cell BK493.out 1).trans rfl
                have hcz40_2 : wc.cell? ⟨gb493, 2, none⟩ = some (.int .i64 t491) := (blk_cell BK493.out 2).trans rfl
                have hfz40_0 := blk_frozen BK493.out 0
                have hfz40_1 := blk_frozen BK493.out 1
                have hfz40_2 := blk_frozen BK493.out 2
                go_wp2_with (first | ((with_reducible refine gate_callee (f := 31) rfl ?_); refine goesL_ (some 75) rfl rfl Tryd.func31 (by kernel_rfl) rfl #[.int .i64 a2, .int .i64 a0] rfl (by (try simp only [List.map_toArray, List.map_cons, List.map_nil]); first | done | rfl | (simp only [List.length_drop, List.length_take]; rfl)) ?_; (with_reducible refine (group_Pow.calls a2 a0 t494 t495 _ A34.out).mono ?_); rintro e w41 ⟨rfl, hb⟩; refine ⟨_, rfl, ?_⟩; have n0_ := Aside0.mk (blk_below (g := gb488) (o := .cells #[.int .i64 t484, .int .i64 t485, .int .i64 t486] 48 (0, 0)) (by (with_reducible repeat (first | refine blk_drewN ?_ _ | refine blk_drew ?_ | refine blk_alloc ?_ _)); exact BK488.out) hb); have n1_ := Aside0.mk (blk_below (g := gb493) (o := .cells #[.int .i64 t489, .int .i64 t490, .int .i64 t491] 48 (0, 0)) (by (with_reducible repeat (first | refine blk_drewN ?_ _ | refine blk_drew ?_ | refine blk_alloc ?_ _)); exact BK493.out) hb); have n2_ := Aside0.mk (below_step (by repeat (first | (with_reducible first | exact HB.out | apply below_alloc | apply pw_below_drewN | apply below_drew1 | refine below_set ?_ GE488.out | refine below_set ?_ GE493.out) | exact HB.out)) hb); clear BK488; clear BK493; clear HB; have BK488 := n0_; have BK493 := n1_; have HB := n2_; clear n0_ n1_ n2_; (try clear hb); (try clear hb2); (try clear hk); (try clear hi); have hcz42_0 : w41.cell? ⟨gb488, 0, none⟩ = some (.int .i64 t484) := (blk_cell BK488.out 0).trans rfl; have hcz42_1 : w41.cell? ⟨gb488, 1, none⟩ = some (.int .i64 t485) := (blk_cell BK488.out 1).trans rfl; have hcz42_2 : w41.cell? ⟨gb488, 2, none⟩ = some (.int .i64 t486) := (blk_cell BK488.out 2).trans rfl; have hfz42_0 := blk_frozen BK488.out 0; have hfz42_1 := blk_frozen BK488.out 1; have hfz42_2 := blk_frozen BK488.out 2) | ((with_reducible refine gate_callee (f := 37) rfl ?_); refine goesL_ (some 82) rfl rfl Tryd.func37 (by kernel_rfl) rfl #[.int .i64 t494, .int .i64 a3, .agg #[.int .i64 t484, .int .i64 t485, .int .i64 t486]] rfl (by (try simp only [List.map_toArray, List.map_cons, List.map_nil]); first | done | rfl | (simp only [List.length_drop, List.length_take]; rfl)) ?_; (with_reducible refine (parcels_With.calls t494 a3 t484 t485 t486 t496 t497 _ A35.out).mono ?_); rintro e w43 ⟨rfl, hb⟩; refine ⟨_, rfl, ?_⟩; have n0_ := Aside0.mk (blk_below (g := gb488) (o := .cells #[.int .i64 t484, .int .i64 t485, .int .i64 t486] 48 (0, 0)) (by (with_reducible repeat (first | refine blk_drewN ?_ _ | refine blk_drew ?_ | refine blk_alloc ?_ _)); exact BK488.out) hb); have n1_ := Aside0.mk (blk_below (g := gb493) (o := .cells #[.int .i64 t489, .int .i64 t490, .int .i64 t491] 48 (0, 0)) (by (with_reducible repeat (first | refine blk_drewN ?_ _ | refine blk_drew ?_ | refine blk_alloc ?_ _)); exact BK493.out) hb); have n2_ := Aside0.mk (below_step (by repeat (first | (with_reducible first | exact HB.out | apply below_alloc | apply pw_below_drewN | apply below_drew1 | refine below_set ?_ GE488.out | refine below_set ?_ GE493.out) | exact HB.out)) hb); clear BK488; clear BK493; clear HB; have BK488 := n0_; have BK493 := n1_; have HB := n2_; clear n0_ n1_ n2_; (try clear hb); (try clear hb2); (try clear hk); (try clear hi)))
                go_ret
                exact ⟨by first | rfl | (simp [errW_none, errW_some] <;> rfl) | (simp [*, errW_none, errW_some] <;> rfl), by repeat (first | (with_reducible first | exact HB.out | apply below_alloc | apply pw_below_drewN | apply below_drew1 | refine below_set ?_ GE488.out | refine below_set ?_ GE493.out) | exact HB.out)⟩
              · rw [if_neg c37] at H
                have c37b0 : (t497 == 0) = false := beq_eq_false_iff_ne.mpr c37
                have c37b1 : (t497 != 0) = true := bne_iff_ne.mpr c37
                exact absurd (H.trans (congrArg some HT.out)) (by simp)
            · rw [if_neg c36] at H
              have c36b0 : (t495 == 0) = false := beq_eq_false_iff_ne.mpr c36
              have c36b1 : (t495 != 0) = true := bne_iff_ne.mpr c36
              exact absurd (H.trans (congrArg some HT.out)) (by simp)
  · replace c8 := Bool.eq_false_iff.mpr c8
    subst c8
    have H1 : (some false) = some r := by rw [if_neg (show ¬ (false = true) by decide)] at H; exact H
    clear H
    have H := H1
    clear H1
    exact absurd (H.trans (congrArg some HT.out)) (by simp)

/-- THE ONE PURE STATEMENT of signatorylaw35_ParcelsPoints: yours. -/
def signatorylaw35_ParcelsPoints.Pure : Prop := ∀ (a0 : Int) (a1 : Int) (a2 : Int) (a3 : Int) (a4 : Int) (a5 : Int), (Lit.int .i64 a0).wf = true → (Lit.int .i64 a1).wf = true → (Lit.int .i64 a2).wf = true → (Lit.int .i64 a3).wf = true → (Lit.int .i64 a4).wf = true → (Lit.int .i64 a5).wf = true → ∃ k, signatorylaw35_ParcelsPoints.f k a0 a1 a2 a3 a4 a5 = some true
theorem signatorylaw35_ParcelsPoints.walk (P : signatorylaw35_ParcelsPoints.Pure) (a0 : Int) (a1 : Int) (a2 : Int) (a3 : Int) (a4 : Int) (a5 : Int) (w : World) (hG : Glob w) (w0 : (Lit.int .i64 a0).wf = true) (w1 : (Lit.int .i64 a1).wf = true) (w2 : (Lit.int .i64 a2).wf = true) (w3 : (Lit.int .i64 a3).wf = true) (w4 : (Lit.int .i64 a4).wf = true) (w5 : (Lit.int .i64 a5).wf = true) :
    Calls Tryd.prog 12 #[.int .i64 a0, .int .i64 a1, .int .i64 a2, .int .i64 a3, .int .i64 a4, .int .i64 a5] w fun e w' => e = .returned (.bool true) ∧ Below w.heap.size w w' := by
  obtain ⟨k, h⟩ := P a0 a1 a2 a3 a4 a5 w0 w1 w2 w3 w4 w5
  refine (signatorylaw35_ParcelsPoints.calls k a0 a1 a2 a3 a4 a5 true w h).mono ?_
  rintro e w' ⟨rfl, hd⟩
  exact ⟨rfl, hd⟩

end Go.Proofs.YthladfegmedpnaaDoor.P

namespace Go.Proofs.YthladfegmedpnaaDoor.P
open Go.RowKit Go.Proofs.YthladfegmedpnaaDoorW.PrintWords Go.Proofs.YthladfegmedpnaaDoorW.PrintLast Go.Proofs.YthladfegmedpnaaDoorW.PrintMore Go.Proofs.YthladfegmedpnaaDoor
set_option linter.unusedVariables false
set_option linter.unusedSimpArgs false

theorem beq_zero3 : (((0 : Int) == 0) && (((0 : Int) == 0) && ((0 : Int) == 0))) = true := by decide

theorem ParcelsPoints_f (u v key dealer row value : Int) : signatorylaw35_ParcelsPoints.f 100 u v key dealer row value = some true := by
  unfold signatorylaw35_ParcelsPoints.f
  rw [sane35, Option.bind_some, if_pos rfl]
  by_cases hu : sealE u key dealer row value = 0
  · rw [seal_yes hu, Option.bind_some]
    by_cases hv : sealE v key dealer row value = 0
    · obtain ⟨k1, k2, k3, k4, k5⟩ := sealE_zero hu
      obtain ⟨m1, _, _, _, _⟩ := sealE_zero hv
      have lu := secret35_lt k1
      have lv := secret35_lt m1
      have hpd := padz_lt (pwz key u) dealer row
      have hr : rightP row (pwz 4 u) ((value + padz (pwz key u) dealer row) % 1073741789) = true := by
        unfold rightP; rw [k4, vld_pw vld_four u, inQ_iff35.2 (by omega)]; rfl
      have q2 := with_yes (vld_pw k2 u) k3 hr
      unfold opened at q2
      rw [unsealed hpd (inQ_iff35.1 k5)] at q2
      have q1 : group_Pow.f key u = some (pwz key u, 0) := by unfold group_Pow.f; rw [if_pos (secret35_i64 k1), if_pos k2]
      have hp : (pwz 4 u == pwz 4 v) = (u == v) := by
        by_cases h : u = v
        · rw [h, beq_self_eq_true, beq_self_eq_true]
        · rw [beq_eq_false_iff_ne.2 h, beq_eq_false_iff_ne.2 (fun e => h (by have := pwz_inj vld_four (by decide) e; omega))]
      rw [seal_yes hv, Option.bind_some, if_pos rfl, show (((0 : Int)) != 0) = false from rfl, signatorylaw35_ParcelsPoints.j0, if_neg (by decide), if_neg (by rw [hp, bne_self_eq_false]; decide), q1, Option.bind_some, q2, Option.bind_some, if_pos rfl, if_pos rfl, beq_self_eq_true]
    · generalize he : sealE v key dealer row value = e at hv
      rw [seal_no he hv, Option.bind_some, if_pos rfl, show (e != 0) = true from bne_iff_ne.2 hv, signatorylaw35_ParcelsPoints.j0, if_pos rfl, if_pos rfl, if_neg hv, beq_zero3]
  · generalize he : sealE u key dealer row value = e at hu
    rw [seal_no he hu, Option.bind_some]
    by_cases hv : sealE v key dealer row value = 0
    · rw [seal_yes hv, Option.bind_some, if_neg hu, signatorylaw35_ParcelsPoints.j0, if_pos rfl, if_neg hu, if_pos beq_zero3, if_pos rfl]
    · generalize he' : sealE v key dealer row value = e' at hv
      rw [seal_no he' hv, Option.bind_some, if_neg hu, signatorylaw35_ParcelsPoints.j0, if_pos rfl, if_neg hu, if_pos beq_zero3, if_neg hv, beq_zero3]

end Go.Proofs.YthladfegmedpnaaDoor.P
