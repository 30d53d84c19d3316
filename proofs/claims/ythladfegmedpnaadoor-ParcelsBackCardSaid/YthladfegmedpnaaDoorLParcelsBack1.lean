import Derived.Test.YthladfegmedpnaaDoorK4
import Derived.Test.YthladfegmedpnaaDoorK17
import Derived.Test.YthladfegmedpnaaDoorLParcelsSpec1
import Derived.Test.YthladfegmedpnaaDoorK15
set_option linter.unusedVariables false
set_option linter.unusedSimpArgs false
namespace Go.Proofs.YthladfegmedpnaaDoor.P
open Go.RowKit Go.Proofs.YthladfegmedpnaaDoorW.PrintWords Go.Proofs.YthladfegmedpnaaDoorW.PrintLast Go.Proofs.YthladfegmedpnaaDoorW.PrintMore
attribute [local go_sem] max2_int min2_int max_two min_two max_three min_three max_four min_four
set_option linter.unusedVariables false
set_option linter.unusedSimpArgs false

attribute [local go_sem high] eqA48
/-! ### signatorylaw35_ParcelsBack: function 9 -/
def signatorylaw35_ParcelsBack.f (k : Nat) (a0 : Int) (a1 : Int) (a2 : Int) (a3 : Int) (a4 : Int) : Option (Bool) := (signatorylaw35_sane.f).bind fun t423 => (if t423 = true then ((signatoryref35_Secret.f a1).bind fun t424 => (if t424 = true then ((group_Pow.f 4 a1).bind fun bt427 => ((parcels_Seal.f a0 bt427.1 a2 a3 a4).bind fun bt429 => (if bt427.2 = 0 then (if bt429.2.2.2 = 0 then ((parcels_Open.f a1 a2 bt429.1 bt429.2.1 bt429.2.2.1).bind fun bt434 => (if bt434.2 = 0 then (if bt434.1 = a4 then (if bt429.1 = a3 then ((signatoryref35_Right.f k bt429.1 bt429.2.1 bt429.2.2.1).bind fun t436 => (some t436)) else (some false)) else (some false)) else (some false))) else (if (bt429.1 == 0 && (bt429.2.1 == 0 && (bt429.2.2.1 == 0))) = true then ((signatoryref35_Secret.f a0).bind fun t437 => (if t437 = true then ((signatoryref35_Person.f a2).bind fun t438 => (if t438 = true then ((signatoryref35_Row.f a3).bind fun t439 => (if t439 = true then ((signatoryref35_Number.f a4).bind fun t440 => (some (!t440))) else (some true))) else (some true))) else (some true))) else (some false))) else (some false)))) else ((parcels_Open.f a1 0 0 4 0).bind fun bt425 => (some (bt425.2 == 110))))) else (some false))
theorem signatorylaw35_ParcelsBack.mono : ∀ a0 a1 a2 a3 a4 k, LeO (signatorylaw35_ParcelsBack.f k a0 a1 a2 a3 a4) (signatorylaw35_ParcelsBack.f (k + 1) a0 a1 a2 a3 a4) := by
  intro a0 a1 a2 a3 a4 k
  unfold signatorylaw35_ParcelsBack.f
  repeat' first
      | (with_reducible exact signatoryref35_Right.mono _ _ _ _)
      | (with_reducible exact LeO.refl _)
      | (with_reducible exact LeO.none _)
      | (with_reducible refine LeO.ite ?_ ?_)
      | (with_reducible refine LeO.bind ?_ (fun _ => ?_))
      | exact signatoryref35_Right.mono _ _ _ _
      | exact LeO.none _
      | refine LeO.ite ?_ ?_
      | refine LeO.bind ?_ (fun _ => ?_)
set_option maxHeartbeats 8000000 in
set_option maxRecDepth 100000 in
theorem signatorylaw35_ParcelsBack.calls (k : Nat) (a0 : Int) (a1 : Int) (a2 : Int) (a3 : Int) (a4 : Int) (r : Bool) (w : World) (h : signatorylaw35_ParcelsBack.f k a0 a1 a2 a3 a4 = some r) (hT : r = true := by rfl) (hG : Glob w := by first | exact hG | exact Glob.below hG HB.out | exact Glob.below hG (by repeat (first | (with_reducible first | exact HB.out | apply below_alloc | apply pw_below_drewN | apply below_drew1 | refine below_set ?_ (Aside0.out (by assumption))) | exact HB.out))) :
    Calls Tryd.prog 9 #[.int .i64 a0, .int .i64 a1, .int .i64 a2, .int .i64 a3, .int .i64 a4] w fun e w' => e = .returned (.bool r) ∧ Below w.heap.size w w' := by
  have HT := Aside0.mk hT
  clear hT
  have hu48 := Tryd.underlying48
  have HB := Aside0.mk (Below.refl w.heap.size w)
  have H : ((signatorylaw35_sane.f).bind fun t423 => (if t423 = true then ((signatoryref35_Secret.f a1).bind fun t424 => (if t424 = true then ((group_Pow.f 4 a1).bind fun bt427 => ((parcels_Seal.f a0 bt427.1 a2 a3 a4).bind fun bt429 => (if bt427.2 = 0 then (if bt429.2.2.2 = 0 then ((parcels_Open.f a1 a2 bt429.1 bt429.2.1 bt429.2.2.1).bind fun bt434 => (if bt434.2 = 0 then (if bt434.1 = a4 then (if bt429.1 = a3 then ((signatoryref35_Right.f k bt429.1 bt429.2.1 bt429.2.2.1).bind fun t436 => (some t436)) else (some false)) else (some false)) else (some false))) else (if (bt429.1 == 0 && (bt429.2.1 == 0 && (bt429.2.2.1 == 0))) = true then ((signatoryref35_Secret.f a0).bind fun t437 => (if t437 = true then ((signatoryref35_Person.f a2).bind fun t438 => (if t438 = true then ((signatoryref35_Row.f a3).bind fun t439 => (if t439 = true then ((signatoryref35_Number.f a4).bind fun t440 => (some (!t440))) else (some true))) else (some true))) else (some true))) else (some false))) else (some false)))) else ((parcels_Open.f a1 0 0 4 0).bind fun bt425 => (some (bt425.2 == 110))))) else (some false))) = some r := h
  clear h
  replace H := Option.bind_eq_some_iff.mp H
  obtain ⟨t423, A60, H⟩ := H
  replace H : (if t423 = true then ((signatoryref35_Secret.f a1).bind fun t424 => (if t424 = true then ((group_Pow.f 4 a1).bind fun bt427 => ((parcels_Seal.f a0 bt427.1 a2 a3 a4).bind fun bt429 => (if bt427.2 = 0 then (if bt429.2.2.2 = 0 then ((parcels_Open.f a1 a2 bt429.1 bt429.2.1 bt429.2.2.1).bind fun bt434 => (if bt434.2 = 0 then (if bt434.1 = a4 then (if bt429.1 = a3 then ((signatoryref35_Right.f k bt429.1 bt429.2.1 bt429.2.2.1).bind fun t436 => (some t436)) else (some false)) else (some false)) else (some false))) else (if (bt429.1 == 0 && (bt429.2.1 == 0 && (bt429.2.2.1 == 0))) = true then ((signatoryref35_Secret.f a0).bind fun t437 => (if t437 = true then ((signatoryref35_Person.f a2).bind fun t438 => (if t438 = true then ((signatoryref35_Row.f a3).bind fun t439 => (if t439 = true then ((signatoryref35_Number.f a4).bind fun t440 => (some (!t440))) else (some true))) else (some true))) else (some true))) else (some false))) else (some false)))) else ((parcels_Open.f a1 0 0 4 0).bind fun bt425 => (some (bt425.2 == 110))))) else (some false)) = some r := H
  have A6 := Aside0.mk A60
  clear A60
  by_cases c7 : t423 = true
  · subst c7
    have H1 : ((signatoryref35_Secret.f a1).bind fun t424 => (if t424 = true then ((group_Pow.f 4 a1).bind fun bt427 => ((parcels_Seal.f a0 bt427.1 a2 a3 a4).bind fun bt429 => (if bt427.2 = 0 then (if bt429.2.2.2 = 0 then ((parcels_Open.f a1 a2 bt429.1 bt429.2.1 bt429.2.2.1).bind fun bt434 => (if bt434.2 = 0 then (if bt434.1 = a4 then (if bt429.1 = a3 then ((signatoryref35_Right.f k bt429.1 bt429.2.1 bt429.2.2.1).bind fun t436 => (some t436)) else (some false)) else (some false)) else (some false))) else (if (bt429.1 == 0 && (bt429.2.1 == 0 && (bt429.2.2.1 == 0))) = true then ((signatoryref35_Secret.f a0).bind fun t437 => (if t437 = true then ((signatoryref35_Person.f a2).bind fun t438 => (if t438 = true then ((signatoryref35_Row.f a3).bind fun t439 => (if t439 = true then ((signatoryref35_Number.f a4).bind fun t440 => (some (!t440))) else (some true))) else (some true))) else (some true))) else (some false))) else (some false)))) else ((parcels_Open.f a1 0 0 4 0).bind fun bt425 => (some (bt425.2 == 110))))) = some r := by rw [if_pos rfl] at H; exact H
    clear H
    have H := H1
    clear H1
    replace H := Option.bind_eq_some_iff.mp H
    obtain ⟨t424, A80, H⟩ := H
    replace H : (if t424 = true then ((group_Pow.f 4 a1).bind fun bt427 => ((parcels_Seal.f a0 bt427.1 a2 a3 a4).bind fun bt429 => (if bt427.2 = 0 then (if bt429.2.2.2 = 0 then ((parcels_Open.f a1 a2 bt429.1 bt429.2.1 bt429.2.2.1).bind fun bt434 => (if bt434.2 = 0 then (if bt434.1 = a4 then (if bt429.1 = a3 then ((signatoryref35_Right.f k bt429.1 bt429.2.1 bt429.2.2.1).bind fun t436 => (some t436)) else (some false)) else (some false)) else (some false))) else (if (bt429.1 == 0 && (bt429.2.1 == 0 && (bt429.2.2.1 == 0))) = true then ((signatoryref35_Secret.f a0).bind fun t437 => (if t437 = true then ((signatoryref35_Person.f a2).bind fun t438 => (if t438 = true then ((signatoryref35_Row.f a3).bind fun t439 => (if t439 = true then ((signatoryref35_Number.f a4).bind fun t440 => (some (!t440))) else (some true))) else (some true))) else (some true))) else (some false))) else (some false)))) else ((parcels_Open.f a1 0 0 4 0).bind fun bt425 => (some (bt425.2 == 110)))) = some r := H
    have A8 := Aside0.mk A80
    clear A80
    by_cases c9 : t424 = true
    · subst c9
      have H1 : ((group_Pow.f 4 a1).bind fun bt427 => ((parcels_Seal.f a0 bt427.1 a2 a3 a4).bind fun bt429 => (if bt427.2 = 0 then (if bt429.2.2.2 = 0 then ((parcels_Open.f a1 a2 bt429.1 bt429.2.1 bt429.2.2.1).bind fun bt434 => (if bt434.2 = 0 then (if bt434.1 = a4 then (if bt429.1 = a3 then ((signatoryref35_Right.f k bt429.1 bt429.2.1 bt429.2.2.1).bind fun t436 => (some t436)) else (some false)) else (some false)) else (some false))) else (if (bt429.1 == 0 && (bt429.2.1 == 0 && (bt429.2.2.1 == 0))) = true then ((signatoryref35_Secret.f a0).bind fun t437 => (if t437 = true then ((signatoryref35_Person.f a2).bind fun t438 => (if t438 = true then ((signatoryref35_Row.f a3).bind fun t439 => (if t439 = true then ((signatoryref35_Number.f a4).bind fun t440 => (some (!t440))) else (some true))) else (some true))) else (some true))) else (some false))) else (some false)))) = some r := by rw [if_pos rfl] at H; exact H
      clear H
      have H := H1
      clear H1
      replace H := Option.bind_eq_some_iff.mp H
      obtain ⟨⟨t427, t428⟩, A100, H⟩ := H
      replace H : ((parcels_Seal.f a0 t427 a2 a3 a4).bind fun bt429 => (if t428 = 0 then (if bt429.2.2.2 = 0 then ((parcels_Open.f a1 a2 bt429.1 bt429.2.1 bt429.2.2.1).bind fun bt434 => (if bt434.2 = 0 then (if bt434.1 = a4 then (if bt429.1 = a3 then ((signatoryref35_Right.f k bt429.1 bt429.2.1 bt429.2.2.1).bind fun t436 => (some t436)) else (some false)) else (some false)) else (some false))) else (if (bt429.1 == 0 && (bt429.2.1 == 0 && (bt429.2.2.1 == 0))) = true then ((signatoryref35_Secret.f a0).bind fun t437 => (if t437 = true then ((signatoryref35_Person.f a2).bind fun t438 => (if t438 = true then ((signatoryref35_Row.f a3).bind fun t439 => (if t439 = true then ((signatoryref35_Number.f a4).bind fun t440 => (some (!t440))) else (some true))) else (some true))) else (some true))) else (some false))) else (some false))) = some r := H
      have A10 := Aside0.mk A100
      clear A100
      replace H := Option.bind_eq_some_iff.mp H
      obtain ⟨⟨t429, t430, t431, t432⟩, A110, H⟩ := H
      replace H : (if t428 = 0 then (if t432 = 0 then ((parcels_Open.f a1 a2 t429 t430 t431).bind fun bt434 => (if bt434.2 = 0 then (if bt434.1 = a4 then (if t429 = a3 then ((signatoryref35_Right.f k t429 t430 t431).bind fun t436 => (some t436)) else (some false)) else (some false)) else (some false))) else (if (t429 == 0 && (t430 == 0 && (t431 == 0))) = true then ((signatoryref35_Secret.f a0).bind fun t437 => (if t437 = true then ((signatoryref35_Person.f a2).bind fun t438 => (if t438 = true then ((signatoryref35_Row.f a3).bind fun t439 => (if t439 = true then ((signatoryref35_Number.f a4).bind fun t440 => (some (!t440))) else (some true))) else (some true))) else (some true))) else (some false))) else (some false)) = some r := H
      have A11 := Aside0.mk A110
      clear A110
      by_cases c12 : t428 = 0
      · rw [if_pos c12] at H
        have c12b0 : (t428 == 0) = true := beq_iff_eq.mpr c12
        have c12b1 : (t428 != 0) = false := bne_eq_false_iff_eq.mpr c12
        clear c12
        by_cases c13 : t432 = 0
        · rw [if_pos c13] at H
          have c13b0 : (t432 == 0) = true := beq_iff_eq.mpr c13
          have c13b1 : (t432 != 0) = false := bne_eq_false_iff_eq.mpr c13
          clear c13
          replace H := Option.bind_eq_some_iff.mp H
          obtain ⟨⟨t434, t435⟩, A140, H⟩ := H
          replace H : (if t435 = 0 then (if t434 = a4 then (if t429 = a3 then ((signatoryref35_Right.f k t429 t430 t431).bind fun t436 => (some t436)) else (some false)) else (some false)) else (some false)) = some r := H
          have A14 := Aside0.mk A140
          clear A140
          by_cases c15 : t435 = 0
          · rw [if_pos c15] at H
            have c15b0 : (t435 == 0) = true := beq_iff_eq.mpr c15
            have c15b1 : (t435 != 0) = false := bne_eq_false_iff_eq.mpr c15
            clear c15
            by_cases c16 : t434 = a4
            · rw [if_pos c16] at H
              have c16b0 : (t434 == a4) = true := beq_iff_eq.mpr c16
              have c16b1 : (t434 != a4) = false := bne_eq_false_iff_eq.mpr c16
              clear c16
              by_cases c17 : t429 = a3
              · rw [if_pos c17] at H
                have c17b0 : (t429 == a3) = true := beq_iff_eq.mpr c17
                have c17b1 : (t429 != a3) = false := bne_eq_false_iff_eq.mpr c17
                clear c17
                replace H := Option.bind_eq_some_iff.mp H
                obtain ⟨t436, A180, H⟩ := H
                replace H : (some t436) = some r := H
                have A18 := Aside0.mk A180
                clear A180
                obtain rfl := Option.some.inj H
                go_enter Tryd.func9, Tryd.ntmps9
                go_wp2_with (first | ((with_reducible refine gate_callee (f := 26) rfl ?_); refine goesL_ (some 19) rfl rfl Tryd.func26 (by kernel_rfl) rfl #[] rfl (by (try simp only [List.map_toArray, List.map_cons, List.map_nil]); first | done | rfl | (simp only [List.length_drop, List.length_take]; rfl)) ?_; (with_reducible refine (signatorylaw35_sane.calls  true _ A6.out).mono ?_); rintro e w19 ⟨rfl, hb⟩; refine ⟨_, rfl, ?_⟩; have n0_ := Aside0.mk (below_step (by repeat (first | (with_reducible first | exact HB.out | apply below_alloc | apply pw_below_drewN | apply below_drew1) | exact HB.out)) hb); clear HB; have HB := n0_; clear n0_; (try clear hb); (try clear hb2); (try clear hk); (try clear hi)) | ((with_reducible refine gate_callee (f := 29) rfl ?_); refine goesL_ (some 22) rfl rfl Tryd.func29 (by kernel_rfl) rfl #[.int .i64 a1] rfl (by (try simp only [List.map_toArray, List.map_cons, List.map_nil]); first | done | rfl | (simp only [List.length_drop, List.length_take]; rfl)) ?_; (with_reducible refine (signatoryref35_Secret.calls a1 true _ A8.out).mono ?_); rintro e w' ⟨rfl, ⟨nd, rfl⟩⟩; refine ⟨_, rfl, ?_⟩; (try (rw [drewN_self w19]; generalize hq_ : World.drewN w19 _ = w19; have n0_ : Aside0 (Below w.heap.size w w19) := ⟨by rw [← hq_]; exact (by repeat (first | (with_reducible first | exact HB.out | apply below_alloc | apply pw_below_drewN | apply below_drew1) | exact HB.out))⟩; clear HB hq_; have HB := n0_; clear n0_))) | ((with_reducible refine gate_callee (f := 31) rfl ?_); refine goesL_ (some 34) rfl rfl Tryd.func31 (by kernel_rfl) rfl #[.int .i64 4, .int .i64 a1] rfl (by (try simp only [List.map_toArray, List.map_cons, List.map_nil]); first | done | rfl | (simp only [List.length_drop, List.length_take]; rfl)) ?_; (with_reducible refine (group_Pow.calls 4 a1 t427 t428 _ A10.out).mono ?_); rintro e w20 ⟨rfl, hb⟩; refine ⟨_, rfl, ?_⟩; have n0_ := Aside0.mk (below_step (by repeat (first | (with_reducible first | exact HB.out | apply below_alloc | apply pw_below_drewN | apply below_drew1) | exact HB.out)) hb); clear HB; have HB := n0_; clear n0_; (try clear hb); (try clear hb2); (try clear hk); (try clear hi)) | ((with_reducible refine gate_callee (f := 27) rfl ?_); refine goesL_ (some 43) rfl rfl Tryd.func27 (by kernel_rfl) rfl #[.int .i64 a0, .int .i64 t427, .int .i64 a2, .int .i64 a3, .int .i64 a4] rfl (by (try simp only [List.map_toArray, List.map_cons, List.map_nil]); first | done | rfl | (simp only [List.length_drop, List.length_take]; rfl)) ?_; (with_reducible refine (parcels_Seal.calls a0 t427 a2 a3 a4 t429 t430 t431 t432 _ A11.out).mono ?_); rintro e w21 ⟨rfl, hb⟩; refine ⟨_, rfl, ?_⟩; have n0_ := Aside0.mk (below_step (by repeat (first | (with_reducible first | exact HB.out | apply below_alloc | apply pw_below_drewN | apply below_drew1) | exact HB.out)) hb); clear HB; have HB := n0_; clear n0_; (try clear hb); (try clear hb2); (try clear hk); (try clear hi)) | ((with_reducible refine gate_dst (N := 15) rfl ?_); refine box_event ?hg (N := 15) ?hd (cs := #[.int .i64 0, .int .i64 0, .int .i64 0]) (t := 48) ?hr ?_; (case hd => rfl); (case hg => rfl); (case hr => first | (go_simp; done) | (go_simp; rfl)); intro gb433 hg w22 hbox hb; have n0_ := Aside0.mk (below_step (by repeat (first | (with_reducible first | exact HB.out | apply below_alloc | apply pw_below_drewN | apply below_drew1) | exact HB.out)) hb); have n1_ := Aside0.mk (hbox); have n2_ := Aside0.mk ((by rw [hg]; exact (below_size (by repeat (first | (with_reducible first | exact HB.out | apply below_alloc | apply pw_below_drewN | apply below_drew1) | exact HB.out))) : w.heap.size ≤ gb433)); have n3_ := Aside0.mk ((by rw [hg]; exact (below_size (by repeat (first | (with_reducible first | exact HB.out | apply below_alloc | apply pw_below_drewN | apply below_drew1) | exact HB.out))) : w.heap.size ≤ gb433)); clear HB; have HB := n0_; have BK433 := n1_; have GW433 := n2_; have GE433 := n3_; clear n0_ n1_ n2_ n3_; clear hb hbox hg; have hcz23_0 : w22.cell? ⟨gb433, 0, none⟩ = some (.int .i64 0) := (blk_cell BK433.out 0).trans rfl; have hcz23_1 : w22.cell? ⟨gb433, 1, none⟩ = some (.int .i64 0) := (blk_cell BK433.out 1).trans rfl; have hcz23_2 : w22.cell? ⟨gb433, 2, none⟩ = some (.int .i64 0) := (blk_cell BK433.out 2).trans rfl; have hfz23_0 := blk_frozen BK433.out 0; have hfz23_1 := blk_frozen BK433.out 1; have hfz23_2 := blk_frozen BK433.out 2) | ((with_reducible refine gate_callee (f := 30) rfl ?_); refine goesL_ (some 77) rfl rfl Tryd.func30 (by kernel_rfl) rfl #[.int .i64 a1, .int .i64 a2, .agg #[.int .i64 t429, .int .i64 t430, .int .i64 t431]] rfl (by (try simp only [List.map_toArray, List.map_cons, List.map_nil]); first | done | rfl | (simp only [List.length_drop, List.length_take]; rfl)) ?_; (with_reducible refine (parcels_Open.calls a1 a2 t429 t430 t431 t434 t435 _ A14.out).mono ?_); rintro e w24 ⟨rfl, hb⟩; refine ⟨_, rfl, ?_⟩; have n0_ := Aside0.mk (blk_below (g := gb433) (o := .cells #[.int .i64 t429, .int .i64 t430, .int .i64 t431] 48 (0, 0)) (by (with_reducible repeat (first | refine blk_drewN ?_ _ | refine blk_drew ?_ | refine blk_alloc ?_ _)); refine blk_put (cs := #[.int .i64 t429, .int .i64 t430, .int .i64 0]) ?_ 2 _ rfl; (with_reducible repeat (first | refine blk_drewN ?_ _ | refine blk_drew ?_ | refine blk_alloc ?_ _)); refine blk_put (cs := #[.int .i64 t429, .int .i64 0, .int .i64 0]) ?_ 1 _ rfl; (with_reducible repeat (first | refine blk_drewN ?_ _ | refine blk_drew ?_ | refine blk_alloc ?_ _)); refine blk_put (cs := #[.int .i64 0, .int .i64 0, .int .i64 0]) ?_ 0 _ rfl; (with_reducible repeat (first | refine blk_drewN ?_ _ | refine blk_drew ?_ | refine blk_alloc ?_ _)); exact BK433.out) hb); have n1_ := Aside0.mk (below_step (by repeat (first | (with_reducible first | exact HB.out | apply below_alloc | apply pw_below_drewN | apply below_drew1 | refine below_set ?_ GE433.out) | exact HB.out)) hb); clear BK433; clear HB; have BK433 := n0_; have HB := n1_; clear n0_ n1_; (try clear hb); (try clear hb2); (try clear hk); (try clear hi); have hcz25_0 : w24.cell? ⟨gb433, 0, none⟩ = some (.int .i64 t429) := (blk_cell BK433.out 0).trans rfl; have hcz25_1 : w24.cell? ⟨gb433, 1, none⟩ = some (.int .i64 t430) := (blk_cell BK433.out 1).trans rfl; have hcz25_2 : w24.cell? ⟨gb433, 2, none⟩ = some (.int .i64 t431) := (blk_cell BK433.out 2).trans rfl; have hfz25_0 := blk_frozen BK433.out 0; have hfz25_1 := blk_frozen BK433.out 1; have hfz25_2 := blk_frozen BK433.out 2) | (go_at_call 35; (with_reducible refine (signatoryref35_Right.calls k t429 t430 t431 t436 _ A18.out).mono ?_); rintro e w26 ⟨rfl, hb⟩; have n0_ := Aside0.mk (blk_below (g := gb433) (o := .cells #[.int .i64 t429, .int .i64 t430, .int .i64 t431] 48 (0, 0)) (by (with_reducible repeat (first | refine blk_drewN ?_ _ | refine blk_drew ?_ | refine blk_alloc ?_ _)); exact BK433.out) hb); have n1_ := Aside0.mk (below_step (by repeat (first | (with_reducible first | exact HB.out | apply below_alloc | apply pw_below_drewN | apply below_drew1 | refine below_set ?_ GE433.out) | exact HB.out)) hb); clear BK433; clear HB; have BK433 := n0_; have HB := n1_; clear n0_ n1_; (try clear hb); (try clear hb2); (try clear hk); (try clear hi)))
                go_ret
                exact ⟨by first | rfl | (simp [errW_none, errW_some] <;> rfl) | (simp [*, errW_none, errW_some] <;> rfl), by repeat (first | (with_reducible first | exact HB.out | apply below_alloc | apply pw_below_drewN | apply below_drew1 | refine below_set ?_ GE433.out) | exact HB.out)⟩
              · rw [if_neg c17] at H
                have c17b0 : (t429 == a3) = false := beq_eq_false_iff_ne.mpr c17
                have c17b1 : (t429 != a3) = true := bne_iff_ne.mpr c17
                exact absurd (H.trans (congrArg some HT.out)) (by simp)
            · rw [if_neg c16] at H
              have c16b0 : (t434 == a4) = false := beq_eq_false_iff_ne.mpr c16
              have c16b1 : (t434 != a4) = true := bne_iff_ne.mpr c16
              exact absurd (H.trans (congrArg some HT.out)) (by simp)
          · rw [if_neg c15] at H
            have c15b0 : (t435 == 0) = false := beq_eq_false_iff_ne.mpr c15
            have c15b1 : (t435 != 0) = true := bne_iff_ne.mpr c15
            exact absurd (H.trans (congrArg some HT.out)) (by simp)
        · rw [if_neg c13] at H
          have c13b0 : (t432 == 0) = false := beq_eq_false_iff_ne.mpr c13
          have c13b1 : (t432 != 0) = true := bne_iff_ne.mpr c13
          by_cases c27 : (t429 == 0 && (t430 == 0 && (t431 == 0))) = true
          · rw [if_pos c27] at H
            have c27b0 : (t429 == 0 && (t430 == 0 && (t431 == 0))) = true := c27
            (try (have c27b1 : decide (t429 = 0 && (t430 == 0 && (t431 == 0))) = true := by simpa using c27))
            (try (have c27b2 : (t429 == 0 && (t430 == 0 && (t431 == 0))) = true := by simpa using c27))
            clear c27
            replace H := Option.bind_eq_some_iff.mp H
            obtain ⟨t437, A280, H⟩ := H
            replace H : (if t437 = true then ((signatoryref35_Person.f a2).bind fun t438 => (if t438 = true then ((signatoryref35_Row.f a3).bind fun t439 => (if t439 = true then ((signatoryref35_Number.f a4).bind fun t440 => (some (!t440))) else (some true))) else (some true))) else (some true)) = some r := H
            have A28 := Aside0.mk A280
            clear A280
            by_cases c29 : t437 = true
            · subst c29
              have H1 : ((signatoryref35_Person.f a2).bind fun t438 => (if t438 = true then ((signatoryref35_Row.f a3).bind fun t439 => (if t439 = true then ((signatoryref35_Number.f a4).bind fun t440 => (some (!t440))) else (some true))) else (some true))) = some r := by rw [if_pos rfl] at H; exact H
              clear H
              have H := H1
              clear H1
              replace H := Option.bind_eq_some_iff.mp H
              obtain ⟨t438, A300, H⟩ := H
              replace H : (if t438 = true then ((signatoryref35_Row.f a3).bind fun t439 => (if t439 = true then ((signatoryref35_Number.f a4).bind fun t440 => (some (!t440))) else (some true))) else (some true)) = some r := H
              have A30 := Aside0.mk A300
              clear A300
              by_cases c31 : t438 = true
              · subst c31
                have H1 : ((signatoryref35_Row.f a3).bind fun t439 => (if t439 = true then ((signatoryref35_Number.f a4).bind fun t440 => (some (!t440))) else (some true))) = some r := by rw [if_pos rfl] at H; exact H
                clear H
                have H := H1
                clear H1
                replace H := Option.bind_eq_some_iff.mp H
                obtain ⟨t439, A320, H⟩ := H
                replace H : (if t439 = true then ((signatoryref35_Number.f a4).bind fun t440 => (some (!t440))) else (some true)) = some r := H
                have A32 := Aside0.mk A320
                clear A320
                by_cases c33 : t439 = true
                · subst c33
                  have H1 : ((signatoryref35_Number.f a4).bind fun t440 => (some (!t440))) = some r := by rw [if_pos rfl] at H; exact H
                  clear H
                  have H := H1
                  clear H1
                  replace H := Option.bind_eq_some_iff.mp H
                  obtain ⟨t440, A340, H⟩ := H
                  replace H : (some (!t440)) = some r := H
                  have A34 := Aside0.mk A340
                  clear A340
                  obtain rfl := Option.some.inj H
                  go_enter Tryd.func9, Tryd.ntmps9
                  go_wp2_with (first | ((with_reducible refine gate_callee (f := 26) rfl ?_); refine goesL_ (some 19) rfl rfl Tryd.func26 (by kernel_rfl) rfl #[] rfl (by (try simp only [List.map_toArray, List.map_cons, List.map_nil]); first | done | rfl | (simp only [List.length_drop, List.length_take]; rfl)) ?_; (with_reducible refine (signatorylaw35_sane.calls  true _ A6.out).mono ?_); rintro e w35 ⟨rfl, hb⟩; refine ⟨_, rfl, ?_⟩; have n0_ := Aside0.mk (below_step (by repeat (first | (with_reducible first | exact HB.out | apply below_alloc | apply pw_below_drewN | apply below_drew1) | exact HB.out)) hb); clear HB; have HB := n0_; clear n0_; (try clear hb); (try clear hb2); (try clear hk); (try clear hi)) | ((with_reducible refine gate_callee (f := 29) rfl ?_); refine goesL_ (some 22) rfl rfl Tryd.func29 (by kernel_rfl) rfl #[.int .i64 a1] rfl (by (try simp only [List.map_toArray, List.map_cons, List.map_nil]); first | done | rfl | (simp only [List.length_drop, List.length_take]; rfl)) ?_; (with_reducible refine (signatoryref35_Secret.calls a1 true _ A8.out).mono ?_); rintro e w' ⟨rfl, ⟨nd, rfl⟩⟩; refine ⟨_, rfl, ?_⟩; (try (rw [drewN_self w35]; generalize hq_ : World.drewN w35 _ = w35; have n0_ : Aside0 (Below w.heap.size w w35) := ⟨by rw [← hq_]; exact (by repeat (first | (with_reducible first | exact HB.out | apply below_alloc | apply pw_below_drewN | apply below_drew1) | exact HB.out))⟩; clear HB hq_; have HB := n0_; clear n0_))) | ((with_reducible refine gate_callee (f := 31) rfl ?_); refine goesL_ (some 34) rfl rfl Tryd.func31 (by kernel_rfl) rfl #[.int .i64 4, .int .i64 a1] rfl (by (try simp only [List.map_toArray, List.map_cons, List.map_nil]); first | done | rfl | (simp only [List.length_drop, List.length_take]; rfl)) ?_; (with_reducible refine (group_Pow.calls 4 a1 t427 t428 _ A10.out).mono ?_); rintro e w36 ⟨rfl, hb⟩; refine ⟨_, rfl, ?_⟩; have n0_ := Aside0.mk (below_step (by repeat (first | (with_reducible first | exact HB.out | apply below_alloc | apply pw_below_drewN | apply below_drew1) | exact HB.out)) hb); clear HB; have HB := n0_; clear n0_; (try clear hb); (try clear hb2); (try clear hk); (try clear hi)) | ((with_reducible refine gate_callee (f := 27) rfl ?_); refine goesL_ (some 43) rfl rfl Tryd.func27 (by kernel_rfl) rfl #[.int .i64 a0, .int .i64 t427, .int .i64 a2, .int .i64 a3, .int .i64 a4] rfl (by (try simp only [List.map_toArray, List.map_cons, List.map_nil]); first | done | rfl | (simp only [List.length_drop, List.length_take]; rfl)) ?_; (with_reducible refine (parcels_Seal.calls a0 t427 a2 a3 a4 t429 t430 t431 t432 _ A11.out).mono ?_); rintro e w37 ⟨rfl, hb⟩; refine ⟨_, rfl, ?_⟩; have n0_ := Aside0.mk (below_step (by repeat (first | (with_reducible first | exact HB.out | apply below_alloc | apply pw_below_drewN | apply below_drew1) | exact HB.out)) hb); clear HB; have HB := n0_; clear n0_; (try clear hb); (try clear hb2); (try clear hk); (try clear hi)) | ((with_reducible refine gate_dst (N := 15) rfl ?_); refine box_event ?hg (N := 15) ?hd (cs := #[.int .i64 0, .int .i64 0, .int .i64 0]) (t := 48) ?hr ?_; (case hd => rfl); (case hg => rfl); (case hr => first | (go_simp; done) | (go_simp; rfl)); intro gb433 hg w38 hbox hb; have n0_ := Aside0.mk (below_step (by repeat (first | (with_reducible first | exact HB.out | apply below_alloc | apply pw_below_drewN | apply below_drew1) | exact HB.out)) hb); have n1_ := Aside0.mk (hbox); have n2_ := Aside0.mk ((by rw [hg]; exact (below_size (by repeat (first | (with_reducible first | exact HB.out | apply below_alloc | apply pw_below_drewN | apply below_drew1) | exact HB.out))) : w.heap.size ≤ gb433)); have n3_ := Aside0.mk ((by rw [hg]; exact (below_size (by repeat (first | (with_reducible first | exact HB.out | apply below_alloc | apply pw_below_drewN | apply below_drew1) | exact HB.out))) : w.heap.size ≤ gb433)); clear HB; have HB := n0_; have BK433 := n1_; have GW433 := n2_; have GE433 := n3_; clear n0_ n1_ n2_ n3_; clear hb hbox hg; have hcz39_0 : w38.cell? ⟨gb433, 0, none⟩ = some (.int .i64 0) := (blk_cell BK433.out 0).trans rfl; have hcz39_1 : w38.cell? ⟨gb433, 1, none⟩ = some (.int .i64 0) := (blk_cell BK433.out 1).trans rfl; have hcz39_2 : w38.cell? ⟨gb433, 2, none⟩ = some (.int .i64 0) := (blk_cell BK433.out 2).trans rfl; have hfz39_0 := blk_frozen BK433.out 0; have hfz39_1 := blk_frozen BK433.out 1; have hfz39_2 := blk_frozen BK433.out 2) | (go_at_call 29; (with_reducible refine (signatoryref35_Secret.calls a0 true _ A28.out).mono ?_); rintro e w' ⟨rfl, ⟨nd, rfl⟩⟩) | (go_at_call 32; (with_reducible refine (signatoryref35_Person.calls a2 true _ A30.out).mono ?_); rintro e w' ⟨rfl, ⟨nd, rfl⟩⟩) | (go_at_call 33; (with_reducible refine (signatoryref35_Row.calls a3 true _ A32.out).mono ?_); rintro e w' ⟨rfl, ⟨nd, rfl⟩⟩) | (go_at_call 34; (with_reducible refine (signatoryref35_Number.calls a4 t440 _ A34.out).mono ?_); rintro e w' ⟨rfl, ⟨nd, rfl⟩⟩))
                  go_ret
                  exact ⟨by first | rfl | (simp [errW_none, errW_some] <;> rfl) | (simp [*, errW_none, errW_some] <;> rfl), by repeat (first | (with_reducible first | exact HB.out | apply below_alloc | apply pw_below_drewN | apply below_drew1 | refine below_set ?_ GE433.out) | exact HB.out)⟩
                · replace c33 := Bool.eq_false_iff.mpr c33
                  subst c33
                  have H1 : (some true) = some r := by rw [if_neg (show ¬ (false = true) by decide)] at H; exact H
                  clear H
                  have H := H1
                  clear H1
                  obtain rfl := Option.some.inj H
                  go_enter Tryd.func9, Tryd.ntmps9
                  go_wp2_with (first | ((with_reducible refine gate_callee (f := 26) rfl ?_); refine goesL_ (some 19) rfl rfl Tryd.func26 (by kernel_rfl) rfl #[] rfl (by (try simp only [List.map_toArray, List.map_cons, List.map_nil]); first | done | rfl | (simp only [List.length_drop, List.length_take]; rfl)) ?_; (with_reducible refine (signatorylaw35_sane.calls  true _ A6.out).mono ?_); rintro e w40 ⟨rfl, hb⟩; refine ⟨_, rfl, ?_⟩; have n0_ := Aside0.mk (below_step (by repeat (first | (with_reducible first | exact HB.out | apply below_alloc | apply pw_below_drewN | apply below_drew1) | exact HB.out)) hb); clear HB; have HB := n0_; clear n0_; (try clear hb); (try clear hb2); (try clear hk); (try clear hi)) | ((with_reducible refine gate_callee (f := 29) rfl ?_); refine goesL_ (some 22) rfl rfl Tryd.func29 (by kernel_rfl) rfl #[.int .i64 a1] rfl (by (try simp only [List.map_toArray, List.map_cons, List.map_nil]); first | done | rfl | (simp only [List.length_drop, List.length_take]; rfl)) ?_; (with_reducible refine (signatoryref35_Secret.calls a1 true _ A8.out).mono ?_); rintro e w' ⟨rfl, ⟨nd, rfl⟩⟩; refine ⟨_, rfl, ?_⟩; (try (rw [drewN_self w40]; generalize hq_ : World.drewN w40 _ = w40; have n0_ : Aside0 (Below w.heap.size w w40) := ⟨by rw [← hq_]; exact (by repeat (first | (with_reducible first | exact HB.out | apply below_alloc | apply pw_below_drewN | apply below_drew1) | exact HB.out))⟩; clear HB hq_; have HB := n0_; clear n0_))) | ((with_reducible refine gate_callee (f := 31) rfl ?_); refine goesL_ (some 34) rfl rfl Tryd.func31 (by kernel_rfl) rfl #[.int .i64 4, .int .i64 a1] rfl (by (try simp only [List.map_toArray, List.map_cons, List.map_nil]); first | done | rfl | (simp only [List.length_drop, List.length_take]; rfl)) ?_; (with_reducible refine (group_Pow.calls 4 a1 t427 t428 _ A10.out).mono ?_); rintro e w41 ⟨rfl, hb⟩; refine ⟨_, rfl, ?_⟩; have n0_ := Aside0.mk (below_step (by repeat (first | (with_reducible first | exact HB.out | apply below_alloc | apply pw_below_drewN | apply below_drew1) | exact HB.out)) hb); clear HB; have HB := n0_; clear n0_; (try clear hb); (try clear hb2); (try clear hk); (try clear hi)) | ((with_reducible refine gate_callee (f := 27) rfl ?_); refine goesL_ (some 43) rfl rfl Tryd.func27 (by kernel_rfl) rfl #[.int .i64 a0, .int .i64 t427, .int .i64 a2, .int .i64 a3, .int .i64 a4] rfl (by (try simp only [List.map_toArray, List.map_cons, List.map_nil]); first | done | rfl | (simp only [List.length_drop, List.length_take]; rfl)) ?_; (with_reducible refine (parcels_Seal.calls a0 t427 a2 a3 a4 t429 t430 t431 t432 _ A11.out).mono ?_); rintro e w42 ⟨rfl, hb⟩; refine ⟨_, rfl, ?_⟩; have n0_ := Aside0.mk (below_step (by repeat (first | (with_reducible first | exact HB.out | apply below_alloc | apply pw_below_drewN | apply below_drew1) | exact HB.out)) hb); clear HB; have HB := n0_; clear n0_; (try clear hb); (try clear hb2); (try clear hk); (try clear hi)) | ((with_reducible refine gate_dst (N := 15) rfl ?_); refine box_event ?hg (N := 15) ?hd (cs := #[.int .i64 0, .int .i64 0, .int .i64 0]) (t := 48) ?hr ?_; (case hd => rfl); (case hg => rfl); (case hr => first | (go_simp; done) | (go_simp; rfl)); intro gb433 hg w43 hbox hb; have n0_ := Aside0.mk (below_step (by repeat (first | (with_reducible first | exact HB.out | apply below_alloc | apply pw_below_drewN | apply below_drew1) | exact HB.out)) hb); have n1_ := Aside0.mk (hbox); have n2_ := Aside0.mk ((by rw [hg]; exact (below_size (by repeat (first | (with_reducible first | exact HB.out | apply below_alloc | apply pw_below_drewN | apply below_drew1) | exact HB.out))) : w.heap.size ≤ gb433)); have n3_ := Aside0.mk ((by rw [hg]; exact (below_size (by repeat (first | (with_reducible first | exact HB.out | apply below_alloc | apply pw_below_drewN | apply below_drew1) | exact HB.out))) : w.heap.size ≤ gb433)); clear HB; have HB := n0_; have BK433 := n1_; have GW433 := n2_; have GE433 := n3_; clear n0_ n1_ n2_ n3_; clear hb hbox hg; have hcz44_0 : w43.cell? ⟨gb433, 0, none⟩ = some (.int .i64 0) := (blk_cell BK433.out 0).trans rfl; have hcz44_1 : w43.cell? ⟨gb433, 1, none⟩ = some (.int .i64 0) := (blk_cell BK433.out 1).trans rfl; have hcz44_2 : w43.cell? ⟨gb433, 2, none⟩ = some (.int .i64 0) := (blk_cell BK433.out 2).trans rfl; have hfz44_0 := blk_frozen BK433.out 0; have hfz44_1 := blk_frozen BK433.out 1; have hfz44_2 := blk_frozen BK433.out 2) | (go_at_call 29; (with_reducible refine (signatoryref35_Secret.calls a0 true _ A28.out).mono ?_); rintro e w' ⟨rfl, ⟨nd, rfl⟩⟩) | (go_at_call 32; (with_reducible refine (signatoryref35_Person.calls a2 true _ A30.out).mono ?_); rintro e w' ⟨rfl, ⟨nd, rfl⟩⟩) | (go_at_call 33; (with_reducible refine (signatoryref35_Row.calls a3 false _ A32.out).mono ?_); rintro e w' ⟨rfl, ⟨nd, rfl⟩⟩))
                  go_ret
                  exact ⟨by first | rfl | (simp [errW_none, errW_some] <;> rfl) | (simp [*, errW_none, errW_some] <;> rfl), by repeat (first | (with_reducible first | exact HB.out | apply below_alloc | apply pw_below_drewN | apply below_drew1 | refine below_set ?_ GE433.out) | exact HB.out)⟩
              · replace c31 := Bool.eq_false_iff.mpr c31
                subst c31
                have H1 : (some true) = some r := by rw [if_neg (show ¬ (false = true) by decide)] at H; exact H
                clear H
                have H := H1
                clear H1
                obtain rfl := Option.some.inj H
                go_enter Tryd.func9, Tryd.ntmps9
                go_wp2_with (first | ((with_reducible refine gate_callee (f := 26) rfl ?_); refine goesL_ (some 19) rfl rfl Tryd.func26 (by kernel_rfl) rfl #[] rfl (by (try simp only [List.map_toArray, List.map_cons, List.map_nil]); first | done | rfl | (simp only [List.length_drop, List.length_take]; rfl)) ?_; (with_reducible refine (signatorylaw35_sane.calls  true _ A6.out).mono ?_); rintro e w45 ⟨rfl, hb⟩; refine ⟨_, rfl, ?_⟩; have n0_ := Aside0.mk (below_step (by repeat (first | (with_reducible first | exact HB.out | apply below_alloc | apply pw_below_drewN | apply below_drew1) | exact HB.out)) hb); clear HB; have HB := n0_; clear n0_; (try clear hb); (try clear hb2); (try clear hk); (try clear hi)) | ((with_reducible refine gate_callee (f := 29) rfl ?_); refine goesL_ (some 22) rfl rfl Tryd.func29 (by kernel_rfl) rfl #[.int .i64 a1] rfl (by (try simp only [List.map_toArray, List.map_cons, List.map_nil]); first | done | rfl | (simp only [List.length_drop, List.length_take]; rfl)) ?_; (with_reducible refine (signatoryref35_Secret.calls a1 true _ A8.out).mono ?_); rintro e w' ⟨rfl, ⟨nd, rfl⟩⟩; refine ⟨_, rfl, ?_⟩; (try (rw [drewN_self w45]; generalize hq_ : World.drewN w45 _ = w45; have n0_ : Aside0 (Below w.heap.size w w45) := ⟨by rw [← hq_]; exact (by repeat (first | (with_reducible first | exact HB.out | apply below_alloc | apply pw_below_drewN | apply below_drew1) | exact HB.out))⟩; clear HB hq_; have HB := n0_; clear n0_))) | ((with_reducible refine gate_callee (f := 31) rfl ?_); refine goesL_ (some 34) rfl rfl Tryd.func31 (by kernel_rfl) rfl #[.int .i64 4, .int .i64 a1] rfl (by (try simp only [List.map_toArray, List.map_cons, List.map_nil]); first | done | rfl | (simp only [List.length_drop, List.length_take]; rfl)) ?_; (with_reducible refine (group_Pow.calls 4 a1 t427 t428 _ A10.out).mono ?_); rintro e w46 ⟨rfl, hb⟩; refine ⟨_, rfl, ?_⟩; have n0_ := Aside0.mk (below_step (by repeat (first | (with_reducible first | exact HB.out | apply below_alloc | apply pw_below_drewN | apply below_drew1) | exact HB.out)) hb); clear HB; have HB := n0_; clear n0_; (try clear hb); (try clear hb2); (try clear hk); (try clear hi)) | ((with_reducible refine gate_callee (f := 27) rfl ?_); refine goesL_ (some 43) rfl rfl Tryd.func27 (by kernel_rfl) rfl #[.int .i64 a0, .int .i64 t427, .int .i64 a2, .int .i64 a3, .int .i64 a4] rfl (by (try simp only [List.map_toArray, List.map_cons, List.map_nil]); first | done | rfl | (simp only [List.length_drop, List.length_take]; rfl)) ?_; (with_reducible refine (parcels_Seal.calls a0 t427 a2 a3 a4 t429 t430 t431 t432 _ A11.out).mono ?_); rintro e w47 ⟨rfl, hb⟩; refine ⟨_, rfl, ?_⟩; have n0_ := Aside0.mk (below_step (by repeat (first | (with_reducible first | exact HB.out | apply below_alloc | apply pw_below_drewN | apply below_drew1) | exact HB.out)) hb); clear HB; have HB := n0_; clear n0_; (try clear hb); (try clear hb2); (try clear hk); (try clear hi)) | ((with_reducible refine gate_dst (N := 15) rfl ?_); refine box_event ?hg (N := 15) ?hd (cs := #[.int .i64 0, .int .i64 0, .int .i64 0]) (t := 48) ?hr ?_; (case hd => rfl); (case hg => rfl); (case hr => first | (go_simp; done) | (go_simp; rfl)); intro gb433 hg w48 hbox hb; have n0_ := Aside0.mk (below_step (by repeat (first | (with_reducible first | exact HB.out | apply below_alloc | apply pw_below_drewN | apply below_drew1) | exact HB.out)) hb); have n1_ := Aside0.mk (hbox); have n2_ := Aside0.mk ((by rw [hg]; exact (below_size (by repeat (first | (with_reducible first | exact HB.out | apply below_alloc | apply pw_below_drewN | apply below_drew1) | exact HB.out))) : w.heap.size ≤ gb433)); have n3_ := Aside0.mk ((by rw [hg]; exact (below_size (by repeat (first | (with_reducible first | exact HB.out | apply below_alloc | apply pw_below_drewN | apply below_drew1) | exact HB.out))) : w.heap.size ≤ gb433)); clear HB; have HB := n0_; have BK433 := n1_; have GW433 := n2_; have GE433 := n3_; clear n0_ n1_ n2_ n3_; clear hb hbox hg; have hcz49_0 : w48.cell? ⟨gb433, 0, none⟩ = some (.int .i64 0) := (blk_cell BK433.out 0).trans rfl; have hcz49_1 : w48.cell? ⟨gb433, 1, none⟩ = some (.int .i64 0) := (blk_cell BK433.out 1).trans rfl; have hcz49_2 : w48.cell? ⟨gb433, 2, none⟩ = some (.int .i64 0) := (blk_cell BK433.out 2).trans rfl; have hfz49_0 := blk_frozen BK433.out 0; have hfz49_1 := blk_frozen BK433.out 1; have hfz49_2 := blk_frozen BK433.out 2) | (go_at_call 29; (with_reducible refine (signatoryref35_Secret.calls a0 true _ A28.out).mono ?_); rintro e w' ⟨rfl, ⟨nd, rfl⟩⟩) | (go_at_call 32; (with_reducible refine (signatoryref35_Person.calls a2 false _ A30.out).mono ?_); rintro e w' ⟨rfl, ⟨nd, rfl⟩⟩))
                go_ret
                exact ⟨by first | rfl | (simp [errW_none, errW_some] <;> rfl) | (simp [*, errW_none, errW_some] <;> rfl), by repeat (first | (with_reducible first | exact HB.out | apply below_alloc | apply pw_below_drewN | apply below_drew1 | refine below_set ?_ GE433.out) | exact HB.out)⟩
            · replace c29 := Bool.eq_false_iff.mpr c29
              subst c29
              have H1 : (some true) = some r := by rw [if_neg (show ¬ (false = true) by decide)] at H; exact H
              clear H
              have H := H1
              clear H1
              obtain rfl := Option.some.inj H
              go_enter Tryd.func9, Tryd.ntmps9
              go_wp2_with (first | ((with_reducible refine gate_callee (f := 26) rfl ?_); refine goesL_ (some 19) rfl rfl Tryd.func26 (by kernel_rfl) rfl #[] rfl (by (try simp only [List.map_toArray, List.map_cons, List.map_nil]); first | done | rfl | (simp only [List.length_drop, List.length_take]; rfl)) ?_; (with_reducible refine (signatorylaw35_sane.calls  true _ A6.out).mono ?_); rintro e w50 ⟨rfl, hb⟩; refine ⟨_, rfl, ?_⟩; have n0_ := Aside0.mk (below_step (by repeat (first | (with_reducible first | exact HB.out | apply below_alloc | apply pw_below_drewN | apply below_drew1) | exact HB.out)) hb); clear HB; have HB := n0_; clear n0_; (try clear hb); (try clear hb2); (try clear hk); (try clear hi)) | ((with_reducible refine gate_callee (f := 29) rfl ?_); refine goesL_ (some 22) rfl rfl Tryd.func29 (by kernel_rfl) rfl #[.int .i64 a1] rfl (by (try simp only [List.map_toArray, List.map_cons, List.map_nil]); first | done | rfl | (simp only [List.length_drop, List.length_take]; rfl)) ?_; (with_reducible refine (signatoryref35_Secret.calls a1 true _ A8.out).mono ?_); rintro e w' ⟨rfl, ⟨nd, rfl⟩⟩; refine ⟨_, rfl, ?_⟩; (try (rw [drewN_self w50]; generalize hq_ : World.drewN w50 _ = w50; have n0_ : Aside0 (Below w.heap.size w w50) := ⟨by rw [← hq_]; exact (by repeat (first | (with_reducible first | exact HB.out | apply below_alloc | apply pw_below_drewN | apply below_drew1) | exact HB.out))⟩; clear HB hq_; have HB := n0_; clear n0_))) | ((with_reducible refine gate_callee (f := 31) rfl ?_); refine goesL_ (some 34) rfl rfl Tryd.func31 (by kernel_rfl) rfl #[.int .i64 4, .int .i64 a1] rfl (by (try simp only [List.map_toArray, List.map_cons, List.map_nil]); first | done | rfl | (simp only [List.length_drop, List.length_take]; rfl)) ?_; (with_reducible refine (group_Pow.calls 4 a1 t427 t428 _ A10.out).mono ?_); rintro e w51 ⟨rfl, hb⟩; refine ⟨_, rfl, ?_⟩; have n0_ := Aside0.mk (below_step (by repeat (first | (with_reducible first | exact HB.out | apply below_alloc | apply pw_below_drewN | apply below_drew1) | exact HB.out)) hb); clear HB; have HB := n0_; clear n0_; (try clear hb); (try clear hb2); (try clear hk); (try clear hi)) | ((with_reducible refine gate_callee (f := 27) rfl ?_); refine goesL_ (some 43) rfl rfl Tryd.func27 (by kernel_rfl) rfl #[.int .i64 a0, .int .i64 t427, .int .i64 a2, .int .i64 a3, .int .i64 a4] rfl (by (try simp only [List.map_toArray, List.map_cons, List.map_nil]); first | done | rfl | (simp only [List.length_drop, List.length_take]; rfl)) ?_; (with_reducible refine (parcels_Seal.calls a0 t427 a2 a3 a4 t429 t430 t431 t432 _ A11.out).mono ?_); rintro e w52 ⟨rfl, hb⟩; refine ⟨_, rfl, ?_⟩; have n0_ := Aside0.mk (below_step (by repeat (first | (with_reducible first | exact HB.out | apply below_alloc | apply pw_below_drewN | apply below_drew1) | exact HB.out)) hb); clear HB; have HB := n0_; clear n0_; (try clear hb); (try clear hb2); (try clear hk); (try clear hi)) | ((with_reducible refine gate_dst (N := 15) rfl ?_); refine box_event ?hg (N := 15) ?hd (cs := #[.int .i64 0, .int .i64 0, .int .i64 0]) (t := 48) ?hr ?_; (case hd => rfl); (case hg => rfl); (case hr => first | (go_simp; done) | (go_simp; rfl)); intro gb433 hg w53 hbox hb; have n0_ := Aside0.mk (below_step (by repeat (first | (with_reducible first | exact HB.out | apply below_alloc | apply pw_below_drewN | apply below_drew1) | exact HB.out)) hb); have n1_ := Aside0.mk (hbox); have n2_ := Aside0.mk ((by rw [hg]; exact (below_size (by repeat (first | (with_reducible first | exact HB.out | apply below_alloc | apply pw_below_drewN | apply below_drew1) | exact HB.out))) : w.heap.size ≤ gb433)); have n3_ := Aside0.mk ((by rw [hg]; exact (below_size (by repeat (first | (with_reducible first | exact HB.out | apply below_alloc | apply pw_below_drewN | apply below_drew1) | exact HB.out))) : w.heap.size ≤ gb433)); clear HB; have HB := n0_; have BK433 := n1_; have GW433 := n2_; have GE433 := n3_; clear n0_ n1_ n2_ n3_; clear hb hbox hg; have hcz54_0 : w53.cell? ⟨gb433, 0, none⟩ = some (.int .i64 0) := (blk_cell BK433.out 0).trans rfl; have hcz54_1 : w53.cell? ⟨gb433, 1, none⟩ = some (.int .i64 0) := (blk_cell BK433.out 1).trans rfl; have hcz54_2 : w53.cell? ⟨gb433, 2, none⟩ = some (.int .i64 0) := (blk_cell BK433.out 2).trans rfl; have hfz54_0 := blk_frozen BK433.out 0; have hfz54_1 := blk_frozen BK433.out 1; have hfz54_2 := blk_frozen BK433.out 2) | (go_at_call 29; (with_reducible refine (signatoryref35_Secret.calls a0 false _ A28.out).mono ?_); rintro e w' ⟨rfl, ⟨nd, rfl⟩⟩))
              go_ret
              exact ⟨by first | rfl | (simp [errW_none, errW_some] <;> rfl) | (simp [*, errW_none, errW_some] <;> rfl), by repeat (first | (with_reducible first | exact HB.out | apply below_alloc | apply pw_below_drewN | apply below_drew1 | refine below_set ?_ GE433.out) | exact HB.out)⟩
          · rw [if_neg c27] at H
            have c27b0 : (t429 == 0 && (t430 == 0 && (t431 == 0))) = false := by simpa using c27
            (try (have c27b1 : decide (t429 = 0 && (t430 == 0 && (t431 == 0))) = false := by simpa using c27))
            (try (have c27b2 : (t429 == 0 && (t430 == 0 && (t431 == 0))) = false := by simpa using c27))
            (try (have c27b3 : ¬ (t429 = 0 && (t430 == 0 && (t431 == 0))) := by simpa using c27))
            clear c27
            exact absurd (H.trans (congrArg some HT.out)) (by simp)
      · rw [if_neg c12] at H
        have c12b0 : (t428 == 0) = false := beq_eq_false_iff_ne.mpr c12
        have c12b1 : (t428 != 0) = true := bne_iff_ne.mpr c12
        exact absurd (H.trans (congrArg some HT.out)) (by simp)
    · replace c9 := Bool.eq_false_iff.mpr c9
      subst c9
      have H1 : ((parcels_Open.f a1 0 0 4 0).bind fun bt425 => (some (bt425.2 == 110))) = some r := by rw [if_neg (show ¬ (false = true) by decide)] at H; exact H
      clear H
      have H := H1
      clear H1
      replace H := Option.bind_eq_some_iff.mp H
      obtain ⟨⟨t425, t426⟩, A550, H⟩ := H
      replace H : (some (t426 == 110)) = some r := H
      have A55 := Aside0.mk A550
      clear A550
      obtain rfl := Option.some.inj H
      go_enter Tryd.func9, Tryd.ntmps9
      go_wp2_with (first | ((with_reducible refine gate_callee (f := 26) rfl ?_); refine goesL_ (some 19) rfl rfl Tryd.func26 (by kernel_rfl) rfl #[] rfl (by (try simp only [List.map_toArray, List.map_cons, List.map_nil]); first | done | rfl | (simp only [List.length_drop, List.length_take]; rfl)) ?_; (with_reducible refine (signatorylaw35_sane.calls  true _ A6.out).mono ?_); rintro e w56 ⟨rfl, hb⟩; refine ⟨_, rfl, ?_⟩; have n0_ := Aside0.mk (below_step (by repeat (first | (with_reducible first | exact HB.out | apply below_alloc | apply pw_below_drewN | apply below_drew1) | exact HB.out)) hb); clear HB; have HB := n0_; clear n0_; (try clear hb); (try clear hb2); (try clear hk); (try clear hi)) | ((with_reducible refine gate_callee (f := 29) rfl ?_); refine goesL_ (some 22) rfl rfl Tryd.func29 (by kernel_rfl) rfl #[.int .i64 a1] rfl (by (try simp only [List.map_toArray, List.map_cons, List.map_nil]); first | done | rfl | (simp only [List.length_drop, List.length_take]; rfl)) ?_; (with_reducible refine (signatoryref35_Secret.calls a1 false _ A8.out).mono ?_); rintro e w' ⟨rfl, ⟨nd, rfl⟩⟩; refine ⟨_, rfl, ?_⟩) | ((with_reducible refine gate_callee (f := 30) rfl ?_); refine goesL_ (some 27) rfl rfl Tryd.func30 (by kernel_rfl) rfl #[.int .i64 a1, .int .i64 0, .agg #[.int .i64 0, .int .i64 4, .int .i64 0]] rfl (by (try simp only [List.map_toArray, List.map_cons, List.map_nil]); first | done | rfl | (simp only [List.length_drop, List.length_take]; rfl)) ?_; (with_reducible refine (parcels_Open.calls a1 0 0 4 0 t425 t426 _ A55.out).mono ?_); rintro e w57 ⟨rfl, hb⟩; refine ⟨_, rfl, ?_⟩; have n0_ := Aside0.mk (below_step (by repeat (first | (with_reducible first | exact HB.out | apply below_alloc | apply pw_below_drewN | apply below_drew1) | exact HB.out)) hb); clear HB; have HB := n0_; clear n0_; (try clear hb); (try clear hb2); (try clear hk); (try clear hi)))
      go_ret
      exact ⟨by first | rfl | (simp [errW_none, errW_some] <;> rfl) | (simp [*, errW_none, errW_some] <;> rfl), by repeat (first | (with_reducible first | exact HB.out | apply below_alloc | apply pw_below_drewN | apply below_drew1) | exact HB.out)⟩
  · replace c7 := Bool.eq_false_iff.mpr c7
    subst c7
    have H1 : (some false) = some r := by rw [if_neg (show ¬ (false = true) by decide)] at H; exact H
    clear H
    have H := H1
    clear H1
    exact absurd (H.trans (congrArg some HT.out)) (by simp)

/-- THE ONE PURE STATEMENT of signatorylaw35_ParcelsBack: yours. -/
def signatorylaw35_ParcelsBack.Pure : Prop := ∀ (a0 : Int) (a1 : Int) (a2 : Int) (a3 : Int) (a4 : Int), (Lit.int .i64 a0).wf = true → (Lit.int .i64 a1).wf = true → (Lit.int .i64 a2).wf = true → (Lit.int .i64 a3).wf = true → (Lit.int .i64 a4).wf = true → ∃ k, signatorylaw35_ParcelsBack.f k a0 a1 a2 a3 a4 = some true
theorem signatorylaw35_ParcelsBack.walk (P : signatorylaw35_ParcelsBack.Pure) (a0 : Int) (a1 : Int) (a2 : Int) (a3 : Int) (a4 : Int) (w : World) (hG : Glob w) (w0 : (Lit.int .i64 a0).wf = true) (w1 : (Lit.int .i64 a1).wf = true) (w2 : (Lit.int .i64 a2).wf = true) (w3 : (Lit.int .i64 a3).wf = true) (w4 : (Lit.int .i64 a4).wf = true) :
    Calls Tryd.prog 9 #[.int .i64 a0, .int .i64 a1, .int .i64 a2, .int .i64 a3, .int .i64 a4] w fun e w' => e = .returned (.bool true) ∧ Below w.heap.size w w' := by
  obtain ⟨k, h⟩ := P a0 a1 a2 a3 a4 w0 w1 w2 w3 w4
  refine (signatorylaw35_ParcelsBack.calls k a0 a1 a2 a3 a4 true w h).mono ?_
  rintro e w' ⟨rfl, hd⟩
  exact ⟨rfl, hd⟩

end Go.Proofs.YthladfegmedpnaaDoor.P

namespace Go.Proofs.YthladfegmedpnaaDoor.P
open Go.RowKit Go.Proofs.YthladfegmedpnaaDoorW.PrintWords Go.Proofs.YthladfegmedpnaaDoorW.PrintLast Go.Proofs.YthladfegmedpnaaDoorW.PrintMore Go.Proofs.YthladfegmedpnaaDoor
set_option linter.unusedVariables false
set_option linter.unusedSimpArgs false

theorem beq_zero3b : (((0 : Int) == 0) && (((0 : Int) == 0) && ((0 : Int) == 0))) = true := by decide
theorem sealE_some {u key dealer row value : Int} (hk : vld key = true) (h : sealE u key dealer row value ≠ 0) : isSecret u = false ∨ isPers dealer = false ∨ isPers row = false ∨ inQ value = false := by
  cases h1 : isSecret u
  · exact .inl rfl
  · cases h3 : isPers dealer
    · exact .inr (.inl rfl)
    · cases h4 : isPers row
      · exact .inr (.inr (.inl rfl))
      · cases h5 : inQ value
        · exact .inr (.inr (.inr rfl))
        · exact absurd (sealE_yes h1 hk h3 h4 h5) h

theorem ParcelsBack_f (u secret dealer row value : Int) : signatorylaw35_ParcelsBack.f 100 u secret dealer row value = some true := by
  unfold signatorylaw35_ParcelsBack.f
  rw [sane35, Option.bind_some, if_pos rfl, ref35_Secret_f, Option.bind_some]
  cases hs : isSecret secret
  · rw [if_neg (by decide), open_no (e := 110) (by unfold openE; rw [hs]; rfl) (by decide), Option.bind_some, beq_self_eq_true]
  · have q1 : group_Pow.f 4 secret = some (pwz 4 secret, 0) := by unfold group_Pow.f; rw [if_pos (secret35_i64 hs), if_pos vld_four]
    have hk := vld_pw vld_four secret
    rw [if_pos rfl, q1, Option.bind_some]
    by_cases hz : sealE u (pwz 4 secret) dealer row value = 0
    · obtain ⟨k1, k2, k3, k4, k5⟩ := sealE_zero hz
      have hpd := padz_lt (pwz (pwz 4 secret) u) dealer row
      have hr : rightP row (pwz 4 u) ((value + padz (pwz (pwz 4 secret) u) dealer row) % 1073741789) = true := by
        unfold rightP; rw [k4, vld_pw vld_four u, inQ_iff35.2 (by omega)]; rfl
      have q2 := open_yes hs k3 hr
      unfold opened at q2
      rw [pwz_swap u secret, unsealed hpd (inQ_iff35.1 k5)] at q2
      rw [seal_yes hz, Option.bind_some, if_pos rfl, if_pos rfl, q2, Option.bind_some, if_pos rfl, if_pos rfl, if_pos rfl, ref35_Right_f 100 (by decide), Option.bind_some, hr]
    · generalize he : sealE u (pwz 4 secret) dealer row value = e at hz
      rw [seal_no he hz, Option.bind_some, if_pos rfl, if_neg hz, if_pos beq_zero3b, ref35_Secret_f, Option.bind_some, ref35_Person_f, Option.bind_some, ref35_Row_f, Option.bind_some, ref35_Number_f, Option.bind_some]
      rcases sealE_some hk (by rw [he]; exact hz) with h | h | h | h
      · rw [h, if_neg (by decide)]
      · cases isSecret u
        · rw [if_neg (by decide)]
        · rw [h, if_pos rfl, if_neg (by decide)]
      · cases isSecret u
        · rw [if_neg (by decide)]
        · cases isPers dealer
          · rw [if_pos rfl, if_neg (by decide)]
          · rw [h, if_pos rfl, if_pos rfl, if_neg (by decide)]
      · cases isSecret u
        · rw [if_neg (by decide)]
        · cases isPers dealer
          · rw [if_pos rfl, if_neg (by decide)]
          · cases isPers row
            · rw [if_pos rfl, if_pos rfl, if_neg (by decide)]
            · rw [h, if_pos rfl, if_pos rfl, if_pos rfl]; rfl

end Go.Proofs.YthladfegmedpnaaDoor.P
