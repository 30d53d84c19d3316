import Derived.Test.YthladfegmedpnaaDoorK4
import Derived.Test.YthladfegmedpnaaDoorK17
import Derived.Test.YthladfegmedpnaaDoorKO1
set_option linter.unusedVariables false
set_option linter.unusedSimpArgs false
namespace Go.Proofs.YthladfegmedpnaaDoor.P
open Go.RowKit Go.Proofs.YthladfegmedpnaaDoorW.PrintWords Go.Proofs.YthladfegmedpnaaDoorW.PrintLast Go.Proofs.YthladfegmedpnaaDoorW.PrintMore
attribute [local go_sem] max2_int min2_int max_two min_two max_three min_three max_four min_four
set_option linter.unusedVariables false
set_option linter.unusedSimpArgs false

/-! ### signatorylaw35_ParcelsOpenSpec: function 10 -/
def signatorylaw35_ParcelsOpenSpec.f (k : Nat) (a0 : Int) (a1 : Int) (a2_0 : Int) (a2_1 : Int) (a2_2 : Int) : Option (Bool) := (signatorylaw35_sane.f).bind fun t455 => (if t455 = true then ((parcels_Open.f a0 a1 a2_0 a2_1 a2_2).bind fun bt456 => ((signatoryref35_Open.f k a0 a1 a2_0 a2_1 a2_2).bind fun bt458 => ((parcels_With.f a0 a1 a2_0 a2_1 a2_2).bind fun bt460 => ((signatoryref35_With.f k a0 a1 a2_0 a2_1 a2_2).bind fun bt462 => (if bt456.1 = bt458.1 then (if bt456.2 = bt458.2 then (if bt460.1 = bt462.1 then (some (bt460.2 == bt462.2)) else (some false)) else (some false)) else (some false)))))) else (some false))
theorem signatorylaw35_ParcelsOpenSpec.mono : ∀ a0 a1 a2 a3 a4 k, LeO (signatorylaw35_ParcelsOpenSpec.f k a0 a1 a2 a3 a4) (signatorylaw35_ParcelsOpenSpec.f (k + 1) a0 a1 a2 a3 a4) := by
  intro a0 a1 a2 a3 a4 k
  unfold signatorylaw35_ParcelsOpenSpec.f
  repeat' first
      | (with_reducible exact signatoryref35_Open.mono _ _ _ _ _ _)
      | (with_reducible exact signatoryref35_With.mono _ _ _ _ _ _)
      | (with_reducible exact LeO.refl _)
      | (with_reducible exact LeO.none _)
      | (with_reducible refine LeO.ite ?_ ?_)
      | (with_reducible refine LeO.bind ?_ (fun _ => ?_))
      | exact signatoryref35_Open.mono _ _ _ _ _ _
      | exact signatoryref35_With.mono _ _ _ _ _ _
      | exact LeO.none _
      | refine LeO.ite ?_ ?_
      | refine LeO.bind ?_ (fun _ => ?_)
set_option maxHeartbeats 8000000 in
set_option maxRecDepth 100000 in
theorem signatorylaw35_ParcelsOpenSpec.calls (k : Nat) (a0 : Int) (a1 : Int) (a2_0 : Int) (a2_1 : Int) (a2_2 : Int) (r : Bool) (w : World) (h : signatorylaw35_ParcelsOpenSpec.f k a0 a1 a2_0 a2_1 a2_2 = some r) (hT : r = true := by rfl) (hG : Glob w := by first | exact hG | exact Glob.below hG HB.out | exact Glob.below hG (by repeat (first | (with_reducible first | exact HB.out | apply below_alloc | apply pw_below_drewN | apply below_drew1 | refine below_set ?_ (Aside0.out (by assumption))) | exact HB.out))) :
    Calls Tryd.prog 10 #[.int .i64 a0, .int .i64 a1, .agg #[.int .i64 a2_0, .int .i64 a2_1, .int .i64 a2_2]] w fun e w' => e = .returned (.bool r) ∧ Below w.heap.size w w' := by
  have HT := Aside0.mk hT
  clear hT
  have hu48 := Tryd.underlying48
  have HB := Aside0.mk (Below.refl w.heap.size w)
  have H : ((signatorylaw35_sane.f).bind fun t455 => (if t455 = true then ((parcels_Open.f a0 a1 a2_0 a2_1 a2_2).bind fun bt456 => ((signatoryref35_Open.f k a0 a1 a2_0 a2_1 a2_2).bind fun bt458 => ((parcels_With.f a0 a1 a2_0 a2_1 a2_2).bind fun bt460 => ((signatoryref35_With.f k a0 a1 a2_0 a2_1 a2_2).bind fun bt462 => (if bt456.1 = bt458.1 then (if bt456.2 = bt458.2 then (if bt460.1 = bt462.1 then (some (bt460.2 == bt462.2)) else (some false)) else (some false)) else (some false)))))) else (some false))) = some r := h
  clear h
  replace H := Option.bind_eq_some_iff.mp H
  obtain ⟨t455, A40, H⟩ := H
  replace H : (if t455 = true then ((parcels_Open.f a0 a1 a2_0 a2_1 a2_2).bind fun bt456 => ((signatoryref35_Open.f k a0 a1 a2_0 a2_1 a2_2).bind fun bt458 => ((parcels_With.f a0 a1 a2_0 a2_1 a2_2).bind fun bt460 => ((signatoryref35_With.f k a0 a1 a2_0 a2_1 a2_2).bind fun bt462 => (if bt456.1 = bt458.1 then (if bt456.2 = bt458.2 then (if bt460.1 = bt462.1 then (some (bt460.2 == bt462.2)) else (some false)) else (some false)) else (some false)))))) else (some false)) = some r := H
  have A4 := Aside0.mk A40
  clear A40
  by_cases c5 : t455 = true
  · subst c5
    have H1 : ((parcels_Open.f a0 a1 a2_0 a2_1 a2_2).bind fun bt456 => ((signatoryref35_Open.f k a0 a1 a2_0 a2_1 a2_2).bind fun bt458 => ((parcels_With.f a0 a1 a2_0 a2_1 a2_2).bind fun bt460 => ((signatoryref35_With.f k a0 a1 a2_0 a2_1 a2_2).bind fun bt462 => (if bt456.1 = bt458.1 then (if bt456.2 = bt458.2 then (if bt460.1 = bt462.1 then (some (bt460.2 == bt462.2)) else (some false)) else (some false)) else (some false)))))) = some r := by rw [if_pos rfl] at H; exact H
    clear H
    have H := H1
    clear H1
    replace H := Option.bind_eq_some_iff.mp H
    obtain ⟨⟨t456, t457⟩, A60, H⟩ := H
    replace H : ((signatoryref35_Open.f k a0 a1 a2_0 a2_1 a2_2).bind fun bt458 => ((parcels_With.f a0 a1 a2_0 a2_1 a2_2).bind fun bt460 => ((signatoryref35_With.f k a0 a1 a2_0 a2_1 a2_2).bind fun bt462 => (if t456 = bt458.1 then (if t457 = bt458.2 then (if bt460.1 = bt462.1 then (some (bt460.2 == bt462.2)) else (some false)) else (some false)) else (some false))))) = some r := H
    have A6 := Aside0.mk A60
    clear A60
    replace H := Option.bind_eq_some_iff.mp H
    obtain ⟨⟨t458, t459⟩, A70, H⟩ := H
    replace H : ((parcels_With.f a0 a1 a2_0 a2_1 a2_2).bind fun bt460 => ((signatoryref35_With.f k a0 a1 a2_0 a2_1 a2_2).bind fun bt462 => (if t456 = t458 then (if t457 = t459 then (if bt460.1 = bt462.1 then (some (bt460.2 == bt462.2)) else (some false)) else (some false)) else (some false)))) = some r := H
    have A7 := Aside0.mk A70
    clear A70
    replace H := Option.bind_eq_some_iff.mp H
    obtain ⟨⟨t460, t461⟩, A80, H⟩ := H
    replace H : ((signatoryref35_With.f k a0 a1 a2_0 a2_1 a2_2).bind fun bt462 => (if t456 = t458 then (if t457 = t459 then (if t460 = bt462.1 then (some (t461 == bt462.2)) else (some false)) else (some false)) else (some false))) = some r := H
    have A8 := Aside0.mk A80
    clear A80
    replace H := Option.bind_eq_some_iff.mp H
    obtain ⟨⟨t462, t463⟩, A90, H⟩ := H
    replace H : (if t456 = t458 then (if t457 = t459 then (if t460 = t462 then (some (t461 == t463)) else (some false)) else (some false)) else (some false)) = some r := H
    have A9 := Aside0.mk A90
    clear A90
    by_cases c10 : t456 = t458
    · rw [if_pos c10] at H
      have c10b0 : (t456 == t458) = true := beq_iff_eq.mpr c10
      have c10b1 : (t456 != t458) = false := bne_eq_false_iff_eq.mpr c10
      clear c10
      by_cases c11 : t457 = t459
      · rw [if_pos c11] at H
        have c11b0 : (t457 == t459) = true := beq_iff_eq.mpr c11
        have c11b1 : (t457 != t459) = false := bne_eq_false_iff_eq.mpr c11
        clear c11
        by_cases c12 : t460 = t462
        · rw [if_pos c12] at H
          have c12b0 : (t460 == t462) = true := beq_iff_eq.mpr c12
          have c12b1 : (t460 != t462) = false := bne_eq_false_iff_eq.mpr c12
          clear c12
          obtain rfl := Option.some.inj H
          go_enter Tryd.func10, Tryd.ntmps10
          go_wp2_with (first | ((with_reducible refine gate_dst (N := 5) rfl ?_); refine box_event ?hg (N := 5) ?hd (cs := #[.int .i64 a2_0, .int .i64 a2_1, .int .i64 a2_2]) (t := 48) ?hr ?_; (case hd => rfl); (case hg => rfl); (case hr => first | (go_simp; done) | (go_simp; rfl)); intro gb454 hg w13 hbox hb; have n0_ := Aside0.mk (below_step (by repeat (first | (with_reducible first | exact HB.out | apply below_alloc | apply pw_below_drewN | apply below_drew1) | exact HB.out)) hb); have n1_ := Aside0.mk (hbox); have n2_ := Aside0.mk ((by rw [hg]; exact (below_size (by repeat (first | (with_reducible first | exact HB.out | apply below_alloc | apply pw_below_drewN | apply below_drew1) | exact HB.out))) : w.heap.size ≤ gb454)); have n3_ := Aside0.mk ((by rw [hg]; exact (below_size (by repeat (first | (with_reducible first | exact HB.out | apply below_alloc | apply pw_below_drewN | apply below_drew1) | exact HB.out))) : w.heap.size ≤ gb454)); clear HB; have HB := n0_; have BK454 := n1_; have GW454 := n2_; have GE454 := n3_; clear n0_ n1_ n2_ n3_; clear hb hbox hg) | ((with_reducible refine gate_callee (f := 26) rfl ?_); refine goesL_ (some 15) rfl rfl Tryd.func26 (by kernel_rfl) rfl #[] rfl (by (try simp only [List.map_toArray, List.map_cons, List.map_nil]); first | done | rfl | (simp only [List.length_drop, List.length_take]; rfl)) ?_; (with_reducible refine (signatorylaw35_sane.calls  true _ A4.out).mono ?_); rintro e w14 ⟨rfl, hb⟩; refine ⟨_, rfl, ?_⟩; have n0_ := Aside0.mk (blk_below (g := gb454) (o := .cells #[.int .i64 a2_0, .int .i64 a2_1, .int .i64 a2_2] 48 (0, 0)) (by (with_reducible repeat (first | refine blk_drewN ?_ _ | refine blk_drew ?_ | refine blk_alloc ?_ _)); exact BK454.out) hb); have n1_ := Aside0.mk (below_step (by repeat (first | (with_reducible first | exact HB.out | apply below_alloc | apply pw_below_drewN | apply below_drew1 | refine below_set ?_ GE454.out) | exact HB.out)) hb); clear BK454; clear HB; have BK454 := n0_; have HB := n1_; clear n0_ n1_; (try clear hb); (try clear hb2); (try clear hk); (try clear hi); have hcz15_0 : w14.cell? ⟨gb454, 0, none⟩ = some (.int .i64 a2_0) := (blk_cell BK454.out 0).trans rfl; have hcz15_1 : w14.cell? ⟨gb454, 1, none⟩ = some (.int .i64 a2_1) := (blk_cell BK454.out 1).trans rfl; have hcz15_2 : w14.cell? ⟨gb454, 2, none⟩ = some (.int .i64 a2_2) := (blk_cell BK454.out 2).trans rfl; have hfz15_0 := blk_frozen BK454.out 0; have hfz15_1 := blk_frozen BK454.out 1; have hfz15_2 := blk_frozen BK454.out 2) | ((with_reducible refine gate_callee (f := 30) rfl ?_); refine goesL_ (some 21) rfl rfl Tryd.func30 (by kernel_rfl) rfl #[.int .i64 a0, .int .i64 a1, .agg #[.int .i64 a2_0, .int .i64 a2_1, .int .i64 a2_2]] rfl (by (try simp only [List.map_toArray, List.map_cons, List.map_nil]); first | done | rfl | (simp only [List.length_drop, List.length_take]; rfl)) ?_; (with_reducible refine (parcels_Open.calls a0 a1 a2_0 a2_1 a2_2 t456 t457 _ A6.out).mono ?_); rintro e w16 ⟨rfl, hb⟩; refine ⟨_, rfl, ?_⟩; have n0_ := Aside0.mk (blk_below (g := gb454) (o := .cells #[.int .i64 a2_0, .int .i64 a2_1, .int .i64 a2_2] 48 (0, 0)) (by (with_reducible repeat (first | refine blk_drewN ?_ _ | refine blk_drew ?_ | refine blk_alloc ?_ _)); exact BK454.out) hb); have n1_ := Aside0.mk (below_step (by repeat (first | (with_reducible first | exact HB.out | apply below_alloc | apply pw_below_drewN | apply below_drew1 | refine below_set ?_ GE454.out) | exact HB.out)) hb); clear BK454; clear HB; have BK454 := n0_; have HB := n1_; clear n0_ n1_; (try clear hb); (try clear hb2); (try clear hk); (try clear hi); have hcz17_0 : w16.cell? ⟨gb454, 0, none⟩ = some (.int .i64 a2_0) := (blk_cell BK454.out 0).trans rfl; have hcz17_1 : w16.cell? ⟨gb454, 1, none⟩ = some (.int .i64 a2_1) := (blk_cell BK454.out 1).trans rfl; have hcz17_2 : w16.cell? ⟨gb454, 2, none⟩ = some (.int .i64 a2_2) := (blk_cell BK454.out 2).trans rfl; have hfz17_0 := blk_frozen BK454.out 0; have hfz17_1 := blk_frozen BK454.out 1; have hfz17_2 := blk_frozen BK454.out 2) | ((with_reducible refine gate_callee (f := 36) rfl ?_); refine goesL_ (some 28) rfl rfl Tryd.func36 (by kernel_rfl) rfl #[.int .i64 a0, .int .i64 a1, .agg #[.int .i64 a2_0, .int .i64 a2_1, .int .i64 a2_2]] rfl (by (try simp only [List.map_toArray, List.map_cons, List.map_nil]); first | done | rfl | (simp only [List.length_drop, List.length_take]; rfl)) ?_; (with_reducible refine (signatoryref35_Open.calls k a0 a1 a2_0 a2_1 a2_2 t458 t459 _ A7.out).mono ?_); rintro e w18 ⟨rfl, hb⟩; refine ⟨_, rfl, ?_⟩; have n0_ := Aside0.mk (blk_below (g := gb454) (o := .cells #[.int .i64 a2_0, .int .i64 a2_1, .int .i64 a2_2] 48 (0, 0)) (by (with_reducible repeat (first | refine blk_drewN ?_ _ | refine blk_drew ?_ | refine blk_alloc ?_ _)); exact BK454.out) hb); have n1_ := Aside0.mk (below_step (by repeat (first | (with_reducible first | exact HB.out | apply below_alloc | apply pw_below_drewN | apply below_drew1 | refine below_set ?_ GE454.out) | exact HB.out)) hb); clear BK454; clear HB; have BK454 := n0_; have HB := n1_; clear n0_ n1_; (try clear hb); (try clear hb2); (try clear hk); (try clear hi); have hcz19_0 : w18.cell? ⟨gb454, 0, none⟩ = some (.int .i64 a2_0) := (blk_cell BK454.out 0).trans rfl; have hcz19_1 : w18.cell? ⟨gb454, 1, none⟩ = some (.int .i64 a2_1) := (blk_cell BK454.out 1).trans rfl; have hcz19_2 : w18.cell? ⟨gb454, 2, none⟩ = some (.int .i64 a2_2) := (blk_cell BK454.out 2).trans rfl; have hfz19_0 := blk_frozen BK454.out 0; have hfz19_1 := blk_frozen BK454.out 1; have hfz19_2 := blk_frozen BK454.out 2) | ((with_reducible refine gate_callee (f := 37) rfl ?_); refine goesL_ (some 35) rfl rfl Tryd.func37 (by kernel_rfl) rfl #[.int .i64 a0, .int .i64 a1, .agg #[.int .i64 a2_0, .int .i64 a2_1, .int .i64 a2_2]] rfl (by (try simp only [List.map_toArray, List.map_cons, List.map_nil]); first | done | rfl | (simp only [List.length_drop, List.length_take]; rfl)) ?_; (with_reducible refine (parcels_With.calls a0 a1 a2_0 a2_1 a2_2 t460 t461 _ A8.out).mono ?_); rintro e w20 ⟨rfl, hb⟩; refine ⟨_, rfl, ?_⟩; have n0_ := Aside0.mk (blk_below (g := gb454) (o := .cells #[.int .i64 a2_0, .int .i64 a2_1, .int .i64 a2_2] 48 (0, 0)) (by (with_reducible repeat (first | refine blk_drewN ?_ _ | refine blk_drew ?_ | refine blk_alloc ?_ _)); exact BK454.out) hb); have n1_ := Aside0.mk (below_step (by repeat (first | (with_reducible first | exact HB.out | apply below_alloc | apply pw_below_drewN | apply below_drew1 | refine below_set ?_ GE454.out) | exact HB.out)) hb); clear BK454; clear HB; have BK454 := n0_; have HB := n1_; clear n0_ n1_; (try clear hb); (try clear hb2); (try clear hk); (try clear hi); have hcz21_0 : w20.cell? ⟨gb454, 0, none⟩ = some (.int .i64 a2_0) := (blk_cell BK454.out 0).trans rfl; have hcz21_1 : w20.cell? ⟨gb454, 1, none⟩ = some (.int .i64 a2_1) := (blk_cell BK454.out 1).trans rfl; have hcz21_2 : w20.cell? ⟨gb454, 2, none⟩ = some (.int .i64 a2_2) := (blk_cell BK454.out 2).trans rfl; have hfz21_0 := blk_frozen BK454.out 0; have hfz21_1 := blk_frozen BK454.out 1; have hfz21_2 := blk_frozen BK454.out 2) | ((with_reducible refine gate_callee (f := 38) rfl ?_); refine goesL_ (some 42) rfl rfl Tryd.func38 (by kernel_rfl) rfl #[.int .i64 a0, .int .i64 a1, .agg #[.int .i64 a2_0, .int .i64 a2_1, .int .i64 a2_2]] rfl (by (try simp only [List.map_toArray, List.map_cons, List.map_nil]); first | done | rfl | (simp only [List.length_drop, List.length_take]; rfl)) ?_; (with_reducible refine (signatoryref35_With.calls k a0 a1 a2_0 a2_1 a2_2 t462 t463 _ A9.out).mono ?_); rintro e w22 ⟨rfl, hb⟩; refine ⟨_, rfl, ?_⟩; have n0_ := Aside0.mk (blk_below (g := gb454) (o := .cells #[.int .i64 a2_0, .int .i64 a2_1, .int .i64 a2_2] 48 (0, 0)) (by (with_reducible repeat (first | refine blk_drewN ?_ _ | refine blk_drew ?_ | refine blk_alloc ?_ _)); exact BK454.out) hb); have n1_ := Aside0.mk (below_step (by repeat (first | (with_reducible first | exact HB.out | apply below_alloc | apply pw_below_drewN | apply below_drew1 | refine below_set ?_ GE454.out) | exact HB.out)) hb); clear BK454; clear HB; have BK454 := n0_; have HB := n1_; clear n0_ n1_; (try clear hb); (try clear hb2); (try clear hk); (try clear hi)))
          go_ret
          exact ⟨by first | rfl | (simp [errW_none, errW_some] <;> rfl) | (simp [*, errW_none, errW_some] <;> rfl), by repeat (first | (with_reducible first | exact HB.out | apply below_alloc | apply pw_below_drewN | apply below_drew1 | refine below_set ?_ GE454.out) | exact HB.out)⟩
        · rw [if_neg c12] at H
          have c12b0 : (t460 == t462) = false := beq_eq_false_iff_ne.mpr c12
          have c12b1 : (t460 != t462) = true := bne_iff_ne.mpr c12
          exact absurd (H.trans (congrArg some HT.out)) (by simp)
      · rw [if_neg c11] at H
        have c11b0 : (t457 == t459) = false := beq_eq_false_iff_ne.mpr c11
        have c11b1 : (t457 != t459) = true := bne_iff_ne.mpr c11
        exact absurd (H.trans (congrArg some HT.out)) (by simp)
    · rw [if_neg c10] at H
      have c10b0 : (t456 == t458) = false := beq_eq_false_iff_ne.mpr c10
      have c10b1 : (t456 != t458) = true := bne_iff_ne.mpr c10
      exact absurd (H.trans (congrArg some HT.out)) (by simp)
  · replace c5 := Bool.eq_false_iff.mpr c5
    subst c5
    have H1 : (some false) = some r := by rw [if_neg (show ¬ (false = true) by decide)] at H; exact H
    clear H
    have H := H1
    clear H1
    exact absurd (H.trans (congrArg some HT.out)) (by simp)

end Go.Proofs.YthladfegmedpnaaDoor.P

namespace Go.Proofs.YthladfegmedpnaaDoor.P
open Go.RowKit Go.Proofs.YthladfegmedpnaaDoorW.PrintWords Go.Proofs.YthladfegmedpnaaDoorW.PrintLast Go.Proofs.YthladfegmedpnaaDoorW.PrintMore Go.Proofs.YthladfegmedpnaaDoor
set_option linter.unusedVariables false
set_option linter.unusedSimpArgs false

theorem open_some (s dealer row point cipher : Int) : ∃ r1 r2, parcels_Open.f s dealer row point cipher = some (r1, r2) := by
  rw [openE_f]
  split <;> exact ⟨_, _, rfl⟩
theorem with_some (d dealer row point cipher : Int) : ∃ r1 r2, parcels_With.f d dealer row point cipher = some (r1, r2) := by
  rw [withE_f]
  split <;> exact ⟨_, _, rfl⟩

theorem ParcelsOpenSpec_f (secret dealer row point cipher : Int) : signatorylaw35_ParcelsOpenSpec.f 100 secret dealer row point cipher = some true := by
  obtain ⟨r1, r2, h⟩ := open_some secret dealer row point cipher
  obtain ⟨t1, t2, h'⟩ := with_some secret dealer row point cipher
  unfold signatorylaw35_ParcelsOpenSpec.f
  rw [sane35, Option.bind_some, if_pos rfl, ref35_Open_f 100 (by decide), ref35_With_f 100 (by decide), h, Option.bind_some, Option.bind_some, h', Option.bind_some, Option.bind_some]
  rw [if_pos rfl, if_pos rfl, if_pos rfl, beq_self_eq_true]

end Go.Proofs.YthladfegmedpnaaDoor.P
