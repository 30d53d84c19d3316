import Derived.Test.YthladfegmedpnaaDoorC4
import Derived.Test.YthladfegmedpnaaDoorC16
import Derived.Test.YthladfegmedpnaaDoorC8
import Derived.Test.YthladfegmedpnaaDoorC15
set_option linter.unusedVariables false
set_option linter.unusedSimpArgs false
namespace Go.Proofs.YthladfegmedpnaaDoor.P
open Go.RowKit Go.Proofs.YthladfegmedpnaaDoorW.PrintWords Go.Proofs.YthladfegmedpnaaDoorW.PrintLast Go.Proofs.YthladfegmedpnaaDoorW.PrintMore
attribute [local go_sem] max2_int min2_int max_two min_two max_three min_three max_four min_four
set_option linter.unusedVariables false
set_option linter.unusedSimpArgs false

/-! ### signatorylaw12_EqualProduct: function 6 -/
mutual
def signatorylaw12_EqualProduct.j0 : Nat → Int → Int → Int → Int → Int → Bool → Int → Int → Int → Int → Option (Bool)
  | 0, _, _, _, _, _, _, _, _, _, _ => none
  | k + 1, x0, x1, x2, x7, x10, x43, x289000, x289001, x294000, x294001 => if x43 = true then (some true) else ((signatorylaw12_power.f k 4 x0).bind fun bt294 => ((group_Mul.f x1 x2).bind fun bt296 => ((group_Mul.f x7 x10).bind fun bt298 => (if bt294.2 = true then (if bt296.2 = 0 then (signatorylaw12_EqualProduct.j1 k x0 x1 x2 x7 x10 bt294.1 bt296.1 bt298.1 (bt298.2 != 0) x289000 x289001 x294000 x294001) else (signatorylaw12_EqualProduct.j1 k x0 x1 x2 x7 x10 bt294.1 bt296.1 bt298.1 true x289000 x289001 x294000 x294001)) else (signatorylaw12_EqualProduct.j1 k x0 x1 x2 x7 x10 bt294.1 bt296.1 bt298.1 true x289000 x289001 x294000 x294001)))))
def signatorylaw12_EqualProduct.j1 : Nat → Int → Int → Int → Int → Int → Int → Int → Int → Bool → Int → Int → Int → Int → Option (Bool)
  | 0, _, _, _, _, _, _, _, _, _, _, _, _, _ => none
  | k + 1, x0, x1, x2, x7, x10, x13, x15, x17, x70, x289000, x289001, x294000, x294001 => if x70 = true then (some false) else ((equal_Prove.f k x0 x15).bind fun bt300 => (if bt300.2.2.2 = 0 then (if bt300.1 = x17 then ((equal_Check.f x13 x1 x7 x289000 x289001).bind fun t305 => (if t305 = true then ((equal_Check.f x13 x2 x10 x294000 x294001).bind fun t306 => (if t306 = true then ((equal_Check.f x13 x15 x17 bt300.2.1 bt300.2.2.1).bind fun t307 => (some t307)) else (some false))) else (some false))) else (some false)) else (some false)))
end
def signatorylaw12_EqualProduct.f (k : Nat) (a0 : Int) (a1 : Int) (a2 : Int) : Option (Bool) := (signatorylaw12_sane.f k).bind fun t283 => (if t283 = true then ((equal_Prove.f k a0 a1).bind fun bt284 => ((equal_Prove.f k a0 a2).bind fun bt289 => (if bt284.2.2.2 = 0 then (signatorylaw12_EqualProduct.j0 k a0 a1 a2 bt284.1 bt289.1 (bt289.2.2.2 != 0) bt284.2.1 bt284.2.2.1 bt289.2.1 bt289.2.2.1) else (signatorylaw12_EqualProduct.j0 k a0 a1 a2 bt284.1 bt289.1 true bt284.2.1 bt284.2.2.1 bt289.2.1 bt289.2.2.1)))) else (some false))
theorem signatorylaw12_EqualProduct.mono_l : ∀ k, (∀ y0 y1 y2 y3 y4 y5 y6 y7 y8 y9, LeO (signatorylaw12_EqualProduct.j0 k y0 y1 y2 y3 y4 y5 y6 y7 y8 y9) (signatorylaw12_EqualProduct.j0 (k + 1) y0 y1 y2 y3 y4 y5 y6 y7 y8 y9)) ∧ (∀ y0 y1 y2 y3 y4 y5 y6 y7 y8 y9 y10 y11 y12, LeO (signatorylaw12_EqualProduct.j1 k y0 y1 y2 y3 y4 y5 y6 y7 y8 y9 y10 y11 y12) (signatorylaw12_EqualProduct.j1 (k + 1) y0 y1 y2 y3 y4 y5 y6 y7 y8 y9 y10 y11 y12))
  | 0 => ⟨fun _ _ _ _ _ _ _ _ _ _ r h => by simp [signatorylaw12_EqualProduct.j0] at h, fun _ _ _ _ _ _ _ _ _ _ _ _ _ r h => by simp [signatorylaw12_EqualProduct.j1] at h⟩
  | k + 1 => by
    obtain ⟨ih0, ih1⟩ := signatorylaw12_EqualProduct.mono_l k
    refine ⟨?_, ?_⟩
    · intro y0 y1 y2 y3 y4 y5 y6 y7 y8 y9
      unfold signatorylaw12_EqualProduct.j0
      repeat' first
      | (with_reducible exact ih0 _ _ _ _ _ _ _ _ _ _)
      | (with_reducible exact ih1 _ _ _ _ _ _ _ _ _ _ _ _ _)
      | (with_reducible exact equal_Prove.mono _ _ _)
      | (with_reducible exact signatorylaw12_power.mono _ _ _)
      | (with_reducible exact signatorylaw12_sane.mono _)
      | (with_reducible exact LeO.refl _)
      | (with_reducible exact LeO.none _)
      | (with_reducible refine LeO.ite ?_ ?_)
      | (with_reducible refine LeO.bind ?_ (fun _ => ?_))
      | exact ih0 _ _ _ _ _ _ _ _ _ _
      | exact ih1 _ _ _ _ _ _ _ _ _ _ _ _ _
      | exact equal_Prove.mono _ _ _
      | exact signatorylaw12_power.mono _ _ _
      | exact signatorylaw12_sane.mono _
      | exact LeO.none _
      | refine LeO.ite ?_ ?_
      | refine LeO.bind ?_ (fun _ => ?_)
    · intro y0 y1 y2 y3 y4 y5 y6 y7 y8 y9 y10 y11 y12
      unfold signatorylaw12_EqualProduct.j1
      repeat' first
      | (with_reducible exact ih0 _ _ _ _ _ _ _ _ _ _)
      | (with_reducible exact ih1 _ _ _ _ _ _ _ _ _ _ _ _ _)
      | (with_reducible exact equal_Prove.mono _ _ _)
      | (with_reducible exact signatorylaw12_power.mono _ _ _)
      | (with_reducible exact signatorylaw12_sane.mono _)
      | (with_reducible exact LeO.refl _)
      | (with_reducible exact LeO.none _)
      | (with_reducible refine LeO.ite ?_ ?_)
      | (with_reducible refine LeO.bind ?_ (fun _ => ?_))
      | exact ih0 _ _ _ _ _ _ _ _ _ _
      | exact ih1 _ _ _ _ _ _ _ _ _ _ _ _ _
      | exact equal_Prove.mono _ _ _
      | exact signatorylaw12_power.mono _ _ _
      | exact signatorylaw12_sane.mono _
      | exact LeO.none _
      | refine LeO.ite ?_ ?_
      | refine LeO.bind ?_ (fun _ => ?_)
theorem signatorylaw12_EqualProduct.mono : ∀ a0 a1 a2 k, LeO (signatorylaw12_EqualProduct.f k a0 a1 a2) (signatorylaw12_EqualProduct.f (k + 1) a0 a1 a2) := by
  intro a0 a1 a2 k
  obtain ⟨ih0, ih1⟩ := signatorylaw12_EqualProduct.mono_l k
  unfold signatorylaw12_EqualProduct.f
  repeat' first
      | (with_reducible exact ih0 _ _ _ _ _ _ _ _ _ _)
      | (with_reducible exact ih1 _ _ _ _ _ _ _ _ _ _ _ _ _)
      | (with_reducible exact equal_Prove.mono _ _ _)
      | (with_reducible exact signatorylaw12_power.mono _ _ _)
      | (with_reducible exact signatorylaw12_sane.mono _)
      | (with_reducible exact LeO.refl _)
      | (with_reducible exact LeO.none _)
      | (with_reducible refine LeO.ite ?_ ?_)
      | (with_reducible refine LeO.bind ?_ (fun _ => ?_))
      | exact ih0 _ _ _ _ _ _ _ _ _ _
      | exact ih1 _ _ _ _ _ _ _ _ _ _ _ _ _
      | exact equal_Prove.mono _ _ _
      | exact signatorylaw12_power.mono _ _ _
      | exact signatorylaw12_sane.mono _
      | exact LeO.none _
      | refine LeO.ite ?_ ?_
      | refine LeO.bind ?_ (fun _ => ?_)
set_option maxHeartbeats 8000000 in
set_option maxRecDepth 100000 in
theorem signatorylaw12_EqualProduct.calls (k : Nat) (a0 : Int) (a1 : Int) (a2 : Int) (r : Bool) (w : World) (h : signatorylaw12_EqualProduct.f k a0 a1 a2 = some r) (hT : r = true := by rfl) (hG : Glob w := by first | exact hG | exact Glob.below hG HB.out | exact Glob.below hG (by repeat (first | (with_reducible first | exact HB.out | apply below_alloc | apply pw_below_drewN | apply below_drew1 | refine below_set ?_ (Aside0.out (by assumption))) | exact HB.out))) :
    Calls Tryd.prog 6 #[.int .i64 a0, .int .i64 a1, .int .i64 a2] w fun e w' => e = .returned (.bool r) ∧ Below w.heap.size w w' := by
  have HT := Aside0.mk hT
  clear hT
  have hu23 := Tryd.underlying23
  have HB := Aside0.mk (Below.refl w.heap.size w)
  have H : ((signatorylaw12_sane.f k).bind fun t283 => (if t283 = true then ((equal_Prove.f k a0 a1).bind fun bt284 => ((equal_Prove.f k a0 a2).bind fun bt289 => (if bt284.2.2.2 = 0 then (signatorylaw12_EqualProduct.j0 k a0 a1 a2 bt284.1 bt289.1 (bt289.2.2.2 != 0) bt284.2.1 bt284.2.2.1 bt289.2.1 bt289.2.2.1) else (signatorylaw12_EqualProduct.j0 k a0 a1 a2 bt284.1 bt289.1 true bt284.2.1 bt284.2.2.1 bt289.2.1 bt289.2.2.1)))) else (some false))) = some r := h
  clear h
  replace H := Option.bind_eq_some_iff.mp H
  obtain ⟨t283, A40, H⟩ := H
  replace H : (if t283 = true then ((equal_Prove.f k a0 a1).bind fun bt284 => ((equal_Prove.f k a0 a2).bind fun bt289 => (if bt284.2.2.2 = 0 then (signatorylaw12_EqualProduct.j0 k a0 a1 a2 bt284.1 bt289.1 (bt289.2.2.2 != 0) bt284.2.1 bt284.2.2.1 bt289.2.1 bt289.2.2.1) else (signatorylaw12_EqualProduct.j0 k a0 a1 a2 bt284.1 bt289.1 true bt284.2.1 bt284.2.2.1 bt289.2.1 bt289.2.2.1)))) else (some false)) = some r := H
  have A4 := Aside0.mk A40
  clear A40
  by_cases c5 : t283 = true
  · subst c5
    have H1 : ((equal_Prove.f k a0 a1).bind fun bt284 => ((equal_Prove.f k a0 a2).bind fun bt289 => (if bt284.2.2.2 = 0 then (signatorylaw12_EqualProduct.j0 k a0 a1 a2 bt284.1 bt289.1 (bt289.2.2.2 != 0) bt284.2.1 bt284.2.2.1 bt289.2.1 bt289.2.2.1) else (signatorylaw12_EqualProduct.j0 k a0 a1 a2 bt284.1 bt289.1 true bt284.2.1 bt284.2.2.1 bt289.2.1 bt289.2.2.1)))) = some r := by rw [if_pos rfl] at H; exact H
    clear H
    have H := H1
    clear H1
    replace H := Option.bind_eq_some_iff.mp H
    obtain ⟨⟨t284, t285, t286, t287⟩, A60, H⟩ := H
    replace H : ((equal_Prove.f k a0 a2).bind fun bt289 => (if t287 = 0 then (signatorylaw12_EqualProduct.j0 k a0 a1 a2 t284 bt289.1 (bt289.2.2.2 != 0) t285 t286 bt289.2.1 bt289.2.2.1) else (signatorylaw12_EqualProduct.j0 k a0 a1 a2 t284 bt289.1 true t285 t286 bt289.2.1 bt289.2.2.1))) = some r := H
    have A6 := Aside0.mk A60
    clear A60
    replace H := Option.bind_eq_some_iff.mp H
    obtain ⟨⟨t289, t290, t291, t292⟩, A70, H⟩ := H
    replace H : (if t287 = 0 then (signatorylaw12_EqualProduct.j0 k a0 a1 a2 t284 t289 (t292 != 0) t285 t286 t290 t291) else (signatorylaw12_EqualProduct.j0 k a0 a1 a2 t284 t289 true t285 t286 t290 t291)) = some r := H
    have A7 := Aside0.mk A70
    clear A70
    have HC8 := Aside0.mk H
    clear H
    go_enter Tryd.func6, Tryd.ntmps6
    go_upto_region 5 with (first | ((with_reducible refine gate_callee (f := 14) rfl ?_); refine goesL_ (some 22) rfl rfl Tryd.func14 (by kernel_rfl) rfl #[] rfl (by (try simp only [List.map_toArray, List.map_cons, List.map_nil]); first | done | rfl | (simp only [List.length_drop, List.length_take]; rfl)) ?_; (with_reducible refine (signatorylaw12_sane.calls k  true _ A4.out).mono ?_); rintro e w9 ⟨rfl, hb⟩; refine ⟨_, rfl, ?_⟩; have n0_ := Aside0.mk (below_step (by repeat (first | (with_reducible first | exact HB.out | apply below_alloc | apply pw_below_drewN | apply below_drew1) | exact HB.out)) hb); clear HB; have HB := n0_; clear n0_; (try clear hb); (try clear hb2); (try clear hk); (try clear hi)) | ((with_reducible refine gate_callee (f := 15) rfl ?_); refine goesL_ (some 27) rfl rfl Tryd.func15 (by kernel_rfl) rfl #[.int .i64 a0, .int .i64 a1] rfl (by (try simp only [List.map_toArray, List.map_cons, List.map_nil]); first | done | rfl | (simp only [List.length_drop, List.length_take]; rfl)) ?_; (with_reducible refine (equal_Prove.calls k a0 a1 t284 t285 t286 t287 _ A6.out).mono ?_); rintro e w10 ⟨rfl, hb⟩; refine ⟨_, rfl, ?_⟩; have n0_ := Aside0.mk (below_step (by repeat (first | (with_reducible first | exact HB.out | apply below_alloc | apply pw_below_drewN | apply below_drew1) | exact HB.out)) hb); clear HB; have HB := n0_; clear n0_; (try clear hb); (try clear hb2); (try clear hk); (try clear hi)) | ((with_reducible refine gate_dst (N := 8) rfl ?_); refine box_event ?hg (N := 8) ?hd (cs := #[.int .i64 0, .int .i64 0]) (t := 23) ?hr ?_; (case hd => rfl); (case hg => rfl); (case hr => first | (go_simp; done) | (go_simp; rfl)); intro gb288 hg w11 hbox hb; have n0_ := Aside0.mk (below_step (by repeat (first | (with_reducible first | exact HB.out | apply below_alloc | apply pw_below_drewN | apply below_drew1) | exact HB.out)) hb); have n1_ := Aside0.mk (hbox); have n2_ := Aside0.mk ((by rw [hg]; exact (below_size (by repeat (first | (with_reducible first | exact HB.out | apply below_alloc | apply pw_below_drewN | apply below_drew1) | exact HB.out))) : w.heap.size ≤ gb288)); have n3_ := Aside0.mk ((by rw [hg]; exact (below_size (by repeat (first | (with_reducible first | exact HB.out | apply below_alloc | apply pw_below_drewN | apply below_drew1) | exact HB.out))) : w.heap.size ≤ gb288)); clear HB; have HB := n0_; have BK288 := n1_; have GW288 := n2_; have GE288 := n3_; clear n0_ n1_ n2_ n3_; clear hb hbox hg; have hcz12_0 : w11.cell? ⟨gb288, 0, none⟩ = some (.int .i64 0) := (blk_cell BK288.out 0).trans rfl; have hcz12_1 : w11.cell? ⟨gb288, 1, none⟩ = some (.int .i64 0) := (blk_cell BK288.out 1).trans rfl; have hfz12_0 := blk_frozen BK288.out 0; have hfz12_1 := blk_frozen BK288.out 1) | ((with_reducible refine gate_callee (f := 15) rfl ?_); refine goesL_ (some 34) rfl rfl Tryd.func15 (by kernel_rfl) rfl #[.int .i64 a0, .int .i64 a2] rfl (by (try simp only [List.map_toArray, List.map_cons, List.map_nil]); first | done | rfl | (simp only [List.length_drop, List.length_take]; rfl)) ?_; (with_reducible refine (equal_Prove.calls k a0 a2 t289 t290 t291 t292 _ A7.out).mono ?_); rintro e w13 ⟨rfl, hb⟩; refine ⟨_, rfl, ?_⟩; have n0_ := Aside0.mk (blk_below (g := gb288) (o := .cells #[.int .i64 t285, .int .i64 t286] 23 (0, 0)) (by (with_reducible repeat (first | refine blk_drewN ?_ _ | refine blk_drew ?_ | refine blk_alloc ?_ _)); refine blk_put (cs := #[.int .i64 t285, .int .i64 0]) ?_ 1 _ rfl; (with_reducible repeat (first | refine blk_drewN ?_ _ | refine blk_drew ?_ | refine blk_alloc ?_ _)); refine blk_put (cs := #[.int .i64 0, .int .i64 0]) ?_ 0 _ rfl; (with_reducible repeat (first | refine blk_drewN ?_ _ | refine blk_drew ?_ | refine blk_alloc ?_ _)); exact BK288.out) hb); have n1_ := Aside0.mk (below_step (by repeat (first | (with_reducible first | exact HB.out | apply below_alloc | apply pw_below_drewN | apply below_drew1 | refine below_set ?_ GE288.out) | exact HB.out)) hb); clear BK288; clear HB; have BK288 := n0_; have HB := n1_; clear n0_ n1_; (try clear hb); (try clear hb2); (try clear hk); (try clear hi)) | ((with_reducible refine gate_dst (N := 11) rfl ?_); refine box_event ?hg (N := 11) ?hd (cs := #[.int .i64 0, .int .i64 0]) (t := 23) ?hr ?_; (case hd => rfl); (case hg => rfl); (case hr => first | (go_simp; done) | (go_simp; rfl)); intro gb293 hg w14 hbox hb; have n0_ := Aside0.mk (blk_below (g := gb288) (o := .cells #[.int .i64 t285, .int .i64 t286] 23 (0, 0)) (by (with_reducible repeat (first | refine blk_drewN ?_ _ | refine blk_drew ?_ | refine blk_alloc ?_ _)); exact BK288.out) hb); have n1_ := Aside0.mk (below_step (by repeat (first | (with_reducible first | exact HB.out | apply below_alloc | apply pw_below_drewN | apply below_drew1 | refine below_set ?_ GE288.out) | exact HB.out)) hb); have n2_ := Aside0.mk (hbox); have n3_ := Aside0.mk ((by rw [hg]; exact (below_size (by repeat (first | (with_reducible first | exact HB.out | apply below_alloc | apply pw_below_drewN | apply below_drew1 | refine below_set ?_ GE288.out) | exact HB.out))) : w.heap.size ≤ gb293)); have n4_ := Aside0.mk ((by rw [hg]; exact (below_size (by repeat (first | (with_reducible first | exact HB.out | apply below_alloc | apply pw_below_drewN | apply below_drew1 | refine below_set ?_ GE288.out) | exact HB.out))) : w.heap.size ≤ gb293)); have n5_ := Aside0.mk ((by rw [hg]; exact Nat.ne_of_lt (blk_lt (g := gb288) (o := .cells #[.int .i64 t285, .int .i64 t286] 23 (0, 0)) (by (with_reducible repeat (first | refine blk_drewN ?_ _ | refine blk_drew ?_ | refine blk_alloc ?_ _)); exact BK288.out)) : gb288 ≠ gb293)); have n6_ := Aside0.mk ((by rw [hg]; exact Nat.ne_of_gt (blk_lt (g := gb288) (o := .cells #[.int .i64 t285, .int .i64 t286] 23 (0, 0)) (by (with_reducible repeat (first | refine blk_drewN ?_ _ | refine blk_drew ?_ | refine blk_alloc ?_ _)); exact BK288.out)) : gb293 ≠ gb288)); clear BK288; clear HB; have BK288 := n0_; have HB := n1_; have BK293 := n2_; have GW293 := n3_; have GE293 := n4_; have NB288_293 := n5_; have NB293_288 := n6_; clear n0_ n1_ n2_ n3_ n4_ n5_ n6_; clear hb hbox hg; have hnb15 := NB293_288.out; have hnc15 := NB288_293.out; have hcz16_0 : w14.cell? ⟨gb293, 0, none⟩ = some (.int .i64 0) := (blk_cell BK293.out 0).trans rfl; have hcz16_1 : w14.cell? ⟨gb293, 1, none⟩ = some (.int .i64 0) := (blk_cell BK293.out 1).trans rfl; have hfz16_0 := blk_frozen BK293.out 0; have hfz16_1 := blk_frozen BK293.out 1))
    (try simp only [Act.put, List.setIfInBounds_toArray, List.set_cons_zero, List.set_cons_succ])
    go_cut [43] (fun v43 wc => ∃ (kq : Nat) (x43_7 : Bool), v43 = .bool x43_7 ∧ Aside0 (signatorylaw12_EqualProduct.j0 kq a0 a1 a2 t284 t289 x43_7 t285 t286 t290 t291 = some r) ∧ Aside0 (kq ≤ k) ∧ Aside0 (wc.heap[gb288]? = some (.cells #[.int .i64 t285, .int .i64 t286] 23 (0, 0))) ∧ Aside0 (wc.heap[gb293]? = some (.cells #[.int .i64 t290, .int .i64 t291] 23 (0, 0))) ∧ Aside0 (Below w.heap.size w wc))
    case first =>
      have H := HC8.out
      clear HC8
      by_cases c17 : t287 = 0
      · rw [if_pos c17] at H
        have c17b0 : (t287 == 0) = true := beq_iff_eq.mpr c17
        have c17b1 : (t287 != 0) = false := bne_eq_false_iff_eq.mpr c17
        clear c17
        (first | rw [c17b0] | (simp only [i64_w, i32_w]; rw [c17b0]) | skip)
        have H' := Aside0.mk H
        clear H
        go_wp2
        go_meet
        case rel => exact ⟨_, ((t292 != 0)), (by first | rfl | (simp; done) | (simp [*]; done)), H', ⟨by first | omega | exact Nat.le_refl _⟩, ⟨by (with_reducible repeat (first | refine blk_drewN ?_ _ | refine blk_drew ?_ | refine blk_alloc ?_ _)); refine blk_far ?_ NB288_293.out _; (with_reducible repeat (first | refine blk_drewN ?_ _ | refine blk_drew ?_ | refine blk_alloc ?_ _)); refine blk_far ?_ NB288_293.out _; (with_reducible repeat (first | refine blk_drewN ?_ _ | refine blk_drew ?_ | refine blk_alloc ?_ _)); exact BK288.out⟩, ⟨by (with_reducible repeat (first | refine blk_drewN ?_ _ | refine blk_drew ?_ | refine blk_alloc ?_ _)); refine blk_put (cs := #[.int .i64 t290, .int .i64 0]) ?_ 1 _ rfl; (with_reducible repeat (first | refine blk_drewN ?_ _ | refine blk_drew ?_ | refine blk_alloc ?_ _)); refine blk_put (cs := #[.int .i64 0, .int .i64 0]) ?_ 0 _ rfl; (with_reducible repeat (first | refine blk_drewN ?_ _ | refine blk_drew ?_ | refine blk_alloc ?_ _)); exact BK293.out⟩, ⟨by repeat (first | (with_reducible first | exact HB.out | apply below_alloc | apply pw_below_drewN | apply below_drew1 | refine below_set ?_ GE288.out | refine below_set ?_ GE293.out) | exact HB.out)⟩⟩
      · rw [if_neg c17] at H
        have c17b0 : (t287 == 0) = false := beq_eq_false_iff_ne.mpr c17
        have c17b1 : (t287 != 0) = true := bne_iff_ne.mpr c17
        (first | rw [c17b0] | (simp only [i64_w, i32_w]; rw [c17b0]) | skip)
        have H' := Aside0.mk H
        clear H
        go_wp2
        go_meet
        case rel => exact ⟨_, (true), (by first | rfl | (simp; done) | (simp [*]; done)), H', ⟨by first | omega | exact Nat.le_refl _⟩, ⟨by (with_reducible repeat (first | refine blk_drewN ?_ _ | refine blk_drew ?_ | refine blk_alloc ?_ _)); refine blk_far ?_ NB288_293.out _; (with_reducible repeat (first | refine blk_drewN ?_ _ | refine blk_drew ?_ | refine blk_alloc ?_ _)); refine blk_far ?_ NB288_293.out _; (with_reducible repeat (first | refine blk_drewN ?_ _ | refine blk_drew ?_ | refine blk_alloc ?_ _)); exact BK288.out⟩, ⟨by (with_reducible repeat (first | refine blk_drewN ?_ _ | refine blk_drew ?_ | refine blk_alloc ?_ _)); refine blk_put (cs := #[.int .i64 t290, .int .i64 0]) ?_ 1 _ rfl; (with_reducible repeat (first | refine blk_drewN ?_ _ | refine blk_drew ?_ | refine blk_alloc ?_ _)); refine blk_put (cs := #[.int .i64 0, .int .i64 0]) ?_ 0 _ rfl; (with_reducible repeat (first | refine blk_drewN ?_ _ | refine blk_drew ?_ | refine blk_alloc ?_ _)); exact BK293.out⟩, ⟨by repeat (first | (with_reducible first | exact HB.out | apply below_alloc | apply pw_below_drewN | apply below_drew1 | refine below_set ?_ GE288.out | refine below_set ?_ GE293.out) | exact HB.out)⟩⟩
    case rest =>
      clear HC8
      try clear c1
      try clear p2
      try clear c5
      try clear c6
      try clear c14
      try clear c15
      try clear c17
      try clear c17b0
      try clear c17b1
      try clear hcz12_0
      try clear hcz12_1
      try clear hcz16_0
      try clear hcz16_1
      try clear hfz12_0
      try clear hfz12_1
      try clear hfz16_0
      try clear hfz16_1
      obtain ⟨kq, x43_7, rfl, HA, HJ7, BK288, BK293, HB⟩ := hcut
      cases kq with
      | zero => exact absurd HA.out (by simp [signatorylaw12_EqualProduct.j0])
      | succ kj7 =>
        have H := HA.out
        clear HA
        simp only [signatorylaw12_EqualProduct.j0] at H
        by_cases c18 : x43_7 = true
        · subst c18
          have H1 : (some true) = some r := by rw [if_pos rfl] at H; exact H
          clear H
          have H := H1
          clear H1
          obtain rfl := Option.some.inj H
          go_wp2
          go_ret
          exact ⟨by first | rfl | (simp [errW_none, errW_some] <;> rfl) | (simp [*, errW_none, errW_some] <;> rfl), by repeat (first | (with_reducible first | exact HB.out | apply below_alloc | apply pw_below_drewN | apply below_drew1 | refine below_set ?_ GE288.out | refine below_set ?_ GE293.out) | exact HB.out)⟩
        · replace c18 := Bool.eq_false_iff.mpr c18
          subst c18
          have H1 : ((signatorylaw12_power.f kj7 4 a0).bind fun bt294 => ((group_Mul.f a1 a2).bind fun bt296 => ((group_Mul.f t284 t289).bind fun bt298 => (if bt294.2 = true then (if bt296.2 = 0 then (signatorylaw12_EqualProduct.j1 kj7 a0 a1 a2 t284 t289 bt294.1 bt296.1 bt298.1 (bt298.2 != 0) t285 t286 t290 t291) else (signatorylaw12_EqualProduct.j1 kj7 a0 a1 a2 t284 t289 bt294.1 bt296.1 bt298.1 true t285 t286 t290 t291)) else (signatorylaw12_EqualProduct.j1 kj7 a0 a1 a2 t284 t289 bt294.1 bt296.1 bt298.1 true t285 t286 t290 t291))))) = some r := by rw [if_neg (show ¬ (false = true) by decide)] at H; exact H
          clear H
          have H := H1
          clear H1
          replace H := Option.bind_eq_some_iff.mp H
          obtain ⟨⟨t294, t295⟩, A190, H⟩ := H
          replace H : ((group_Mul.f a1 a2).bind fun bt296 => ((group_Mul.f t284 t289).bind fun bt298 => (if t295 = true then (if bt296.2 = 0 then (signatorylaw12_EqualProduct.j1 kj7 a0 a1 a2 t284 t289 t294 bt296.1 bt298.1 (bt298.2 != 0) t285 t286 t290 t291) else (signatorylaw12_EqualProduct.j1 kj7 a0 a1 a2 t284 t289 t294 bt296.1 bt298.1 true t285 t286 t290 t291)) else (signatorylaw12_EqualProduct.j1 kj7 a0 a1 a2 t284 t289 t294 bt296.1 bt298.1 true t285 t286 t290 t291)))) = some r := H
          have A19 := Aside0.mk A190
          clear A190
          replace H := Option.bind_eq_some_iff.mp H
          obtain ⟨⟨t296, t297⟩, A200, H⟩ := H
          replace H : ((group_Mul.f t284 t289).bind fun bt298 => (if t295 = true then (if t297 = 0 then (signatorylaw12_EqualProduct.j1 kj7 a0 a1 a2 t284 t289 t294 t296 bt298.1 (bt298.2 != 0) t285 t286 t290 t291) else (signatorylaw12_EqualProduct.j1 kj7 a0 a1 a2 t284 t289 t294 t296 bt298.1 true t285 t286 t290 t291)) else (signatorylaw12_EqualProduct.j1 kj7 a0 a1 a2 t284 t289 t294 t296 bt298.1 true t285 t286 t290 t291))) = some r := H
          have A20 := Aside0.mk A200
          clear A200
          replace H := Option.bind_eq_some_iff.mp H
          obtain ⟨⟨t298, t299⟩, A210, H⟩ := H
          replace H : (if t295 = true then (if t297 = 0 then (signatorylaw12_EqualProduct.j1 kj7 a0 a1 a2 t284 t289 t294 t296 t298 (t299 != 0) t285 t286 t290 t291) else (signatorylaw12_EqualProduct.j1 kj7 a0 a1 a2 t284 t289 t294 t296 t298 true t285 t286 t290 t291)) else (signatorylaw12_EqualProduct.j1 kj7 a0 a1 a2 t284 t289 t294 t296 t298 true t285 t286 t290 t291)) = some r := H
          have A21 := Aside0.mk A210
          clear A210
          have HC22 := Aside0.mk H
          clear H
          go_upto_region 10 with (first | ((with_reducible refine gate_callee (f := 21) rfl ?_); refine goesL_ (some 46) rfl rfl Tryd.func21 (by kernel_rfl) rfl #[.int .i64 4, .int .i64 a0] rfl (by (try simp only [List.map_toArray, List.map_cons, List.map_nil]); first | done | rfl | (simp only [List.length_drop, List.length_take]; rfl)) ?_; (with_reducible refine (signatorylaw12_power.calls kj7 4 a0 t294 t295 _ A19.out).mono ?_); rintro e w23 ⟨rfl, hb⟩; refine ⟨_, rfl, ?_⟩; have n0_ := Aside0.mk (blk_below (g := gb288) (o := .cells #[.int .i64 t285, .int .i64 t286] 23 (0, 0)) (by (with_reducible repeat (first | refine blk_drewN ?_ _ | refine blk_drew ?_ | refine blk_alloc ?_ _)); exact BK288.out) hb); have n1_ := Aside0.mk (blk_below (g := gb293) (o := .cells #[.int .i64 t290, .int .i64 t291] 23 (0, 0)) (by (with_reducible repeat (first | refine blk_drewN ?_ _ | refine blk_drew ?_ | refine blk_alloc ?_ _)); exact BK293.out) hb); have n2_ := Aside0.mk (below_step (by repeat (first | (with_reducible first | exact HB.out | apply below_alloc | apply pw_below_drewN | apply below_drew1 | refine below_set ?_ GE288.out | refine below_set ?_ GE293.out) | exact HB.out)) hb); clear BK288; clear BK293; clear HB; have BK288 := n0_; have BK293 := n1_; have HB := n2_; clear n0_ n1_ n2_; (try clear hb); (try clear hb2); (try clear hk); (try clear hi)) | ((with_reducible refine gate_callee (f := 23) rfl ?_); refine goesL_ (some 52) rfl rfl Tryd.func23 (by kernel_rfl) rfl #[.int .i64 a1, .int .i64 a2] rfl (by (try simp only [List.map_toArray, List.map_cons, List.map_nil]); first | done | rfl | (simp only [List.length_drop, List.length_take]; rfl)) ?_; (with_reducible refine (group_Mul.calls a1 a2 t296 t297 _ A20.out).mono ?_); rintro e w' ⟨rfl, ⟨nd, rfl⟩⟩; refine ⟨_, rfl, ?_⟩) | ((with_reducible refine gate_callee (f := 23) rfl ?_); refine goesL_ (some 58) rfl rfl Tryd.func23 (by kernel_rfl) rfl #[.int .i64 t284, .int .i64 t289] rfl (by (try simp only [List.map_toArray, List.map_cons, List.map_nil]); first | done | rfl | (simp only [List.length_drop, List.length_take]; rfl)) ?_; (with_reducible refine (group_Mul.calls t284 t289 t298 t299 _ A21.out).mono ?_); rintro e w' ⟨rfl, ⟨nd, rfl⟩⟩; refine ⟨_, rfl, ?_⟩))
          (try simp only [Act.put, List.setIfInBounds_toArray, List.set_cons_zero, List.set_cons_succ])
          go_cut [70] (fun v70 wc => ∃ (kq : Nat) (x70_21 : Bool), v70 = .bool x70_21 ∧ Aside0 (signatorylaw12_EqualProduct.j1 kq a0 a1 a2 t284 t289 t294 t296 t298 x70_21 t285 t286 t290 t291 = some r) ∧ Aside0 (kq ≤ kj7) ∧ Aside0 (wc.heap[gb288]? = some (.cells #[.int .i64 t285, .int .i64 t286] 23 (0, 0))) ∧ Aside0 (wc.heap[gb293]? = some (.cells #[.int .i64 t290, .int .i64 t291] 23 (0, 0))) ∧ Aside0 (Below w.heap.size w wc))
          case first =>
            have H := HC22.out
            clear HC22
            by_cases c24 : t295 = true
            · subst c24
              have H1 : (if t297 = 0 then (signatorylaw12_EqualProduct.j1 kj7 a0 a1 a2 t284 t289 t294 t296 t298 (t299 != 0) t285 t286 t290 t291) else (signatorylaw12_EqualProduct.j1 kj7 a0 a1 a2 t284 t289 t294 t296 t298 true t285 t286 t290 t291)) = some r := by rw [if_pos rfl] at H; exact H
              clear H
              have H := H1
              clear H1
              by_cases c25 : t297 = 0
              · rw [if_pos c25] at H
                have c25b0 : (t297 == 0) = true := beq_iff_eq.mpr c25
                have c25b1 : (t297 != 0) = false := bne_eq_false_iff_eq.mpr c25
                clear c25
                (first | rw [c25b0] | (simp only [i64_w, i32_w]; rw [c25b0]) | skip)
                have H' := Aside0.mk H
                clear H
                go_wp2
                go_meet
                case rel => exact ⟨_, ((t299 != 0)), (by first | rfl | (simp; done) | (simp [*]; done)), H', ⟨by have := HJ7.out; first | omega | exact Nat.le_refl _⟩, ⟨by (with_reducible repeat (first | refine blk_drewN ?_ _ | refine blk_drew ?_ | refine blk_alloc ?_ _)); exact BK288.out⟩, ⟨by (with_reducible repeat (first | refine blk_drewN ?_ _ | refine blk_drew ?_ | refine blk_alloc ?_ _)); exact BK293.out⟩, ⟨by repeat (first | (with_reducible first | exact HB.out | apply below_alloc | apply pw_below_drewN | apply below_drew1 | refine below_set ?_ GE288.out | refine below_set ?_ GE293.out) | exact HB.out)⟩⟩
              · rw [if_neg c25] at H
                have c25b0 : (t297 == 0) = false := beq_eq_false_iff_ne.mpr c25
                have c25b1 : (t297 != 0) = true := bne_iff_ne.mpr c25
                (first | rw [c25b0] | (simp only [i64_w, i32_w]; rw [c25b0]) | skip)
                have H' := Aside0.mk H
                clear H
                go_wp2
                go_meet
                case rel => exact ⟨_, (true), (by first | rfl | (simp; done) | (simp [*]; done)), H', ⟨by have := HJ7.out; first | omega | exact Nat.le_refl _⟩, ⟨by (with_reducible repeat (first | refine blk_drewN ?_ _ | refine blk_drew ?_ | refine blk_alloc ?_ _)); exact BK288.out⟩, ⟨by (with_reducible repeat (first | refine blk_drewN ?_ _ | refine blk_drew ?_ | refine blk_alloc ?_ _)); exact BK293.out⟩, ⟨by repeat (first | (with_reducible first | exact HB.out | apply below_alloc | apply pw_below_drewN | apply below_drew1 | refine below_set ?_ GE288.out | refine below_set ?_ GE293.out) | exact HB.out)⟩⟩
            · replace c24 := Bool.eq_false_iff.mpr c24
              subst c24
              have H1 : (signatorylaw12_EqualProduct.j1 kj7 a0 a1 a2 t284 t289 t294 t296 t298 true t285 t286 t290 t291) = some r := by rw [if_neg (show ¬ (false = true) by decide)] at H; exact H
              clear H
              have H := H1
              clear H1
              have H' := Aside0.mk H
              clear H
              go_wp2
              go_meet
              case rel => exact ⟨_, (true), (by first | rfl | (simp; done) | (simp [*]; done)), H', ⟨by have := HJ7.out; first | omega | exact Nat.le_refl _⟩, ⟨by (with_reducible repeat (first | refine blk_drewN ?_ _ | refine blk_drew ?_ | refine blk_alloc ?_ _)); exact BK288.out⟩, ⟨by (with_reducible repeat (first | refine blk_drewN ?_ _ | refine blk_drew ?_ | refine blk_alloc ?_ _)); exact BK293.out⟩, ⟨by repeat (first | (with_reducible first | exact HB.out | apply below_alloc | apply pw_below_drewN | apply below_drew1 | refine below_set ?_ GE288.out | refine below_set ?_ GE293.out) | exact HB.out)⟩⟩
          case rest =>
            clear HC22
            try clear c1
            try clear c2
            try clear p2
            try clear c5
            try clear c6
            try clear c14
            try clear c15
            try clear c17
            try clear c17b0
            try clear c17b1
            try clear c18
            try clear c21
            try clear c23
            try clear c24
            try clear c25
            try clear c25b0
            try clear c25b1
            try clear hcz12_0
            try clear hcz12_1
            try clear hcz16_0
            try clear hcz16_1
            try clear hfz12_0
            try clear hfz12_1
            try clear hfz16_0
            try clear hfz16_1
            try clear p2
            obtain ⟨kq, x70_21, rfl, HA, HJ21, BK288, BK293, HB⟩ := hcut
            cases kq with
            | zero => exact absurd HA.out (by simp [signatorylaw12_EqualProduct.j1])
            | succ kj21 =>
              have H := HA.out
              clear HA
              simp only [signatorylaw12_EqualProduct.j1] at H
              by_cases c26 : x70_21 = true
              · subst c26
                have H1 : (some false) = some r := by rw [if_pos rfl] at H; exact H
                clear H
                have H := H1
                clear H1
                exact absurd (H.trans (congrArg some HT.out)) (by simp)
              · replace c26 := Bool.eq_false_iff.mpr c26
                subst c26
                have H1 : ((equal_Prove.f kj21 a0 t296).bind fun bt300 => (if bt300.2.2.2 = 0 then (if bt300.1 = t298 then ((equal_Check.f t294 a1 t284 t285 t286).bind fun t305 => (if t305 = true then ((equal_Check.f t294 a2 t289 t290 t291).bind fun t306 => (if t306 = true then ((equal_Check.f t294 t296 t298 bt300.2.1 bt300.2.2.1).bind fun t307 => (some t307)) else (some false))) else (some false))) else (some false)) else (some false))) = some r := by rw [if_neg (show ¬ (false = true) by decide)] at H; exact H
                clear H
                have H := H1
                clear H1
                replace H := Option.bind_eq_some_iff.mp H
                obtain ⟨⟨t300, t301, t302, t303⟩, A270, H⟩ := H
                replace H : (if t303 = 0 then (if t300 = t298 then ((equal_Check.f t294 a1 t284 t285 t286).bind fun t305 => (if t305 = true then ((equal_Check.f t294 a2 t289 t290 t291).bind fun t306 => (if t306 = true then ((equal_Check.f t294 t296 t298 t301 t302).bind fun t307 => (some t307)) else (some false))) else (some false))) else (some false)) else (some false)) = some r := H
                have A27 := Aside0.mk A270
                clear A270
                by_cases c28 : t303 = 0
                · rw [if_pos c28] at H
                  have c28b0 : (t303 == 0) = true := beq_iff_eq.mpr c28
                  have c28b1 : (t303 != 0) = false := bne_eq_false_iff_eq.mpr c28
                  clear c28
                  by_cases c29 : t300 = t298
                  · rw [if_pos c29] at H
                    have c29b0 : (t300 == t298) = true := beq_iff_eq.mpr c29
                    have c29b1 : (t300 != t298) = false := bne_eq_false_iff_eq.mpr c29
                    clear c29
                    replace H := Option.bind_eq_some_iff.mp H
                    obtain ⟨t305, A300, H⟩ := H
                    replace H : (if t305 = true then ((equal_Check.f t294 a2 t289 t290 t291).bind fun t306 => (if t306 = true then ((equal_Check.f t294 t296 t298 t301 t302).bind fun t307 => (some t307)) else (some false))) else (some false)) = some r := H
                    have A30 := Aside0.mk A300
                    clear A300
                    by_cases c31 : t305 = true
                    · subst c31
                      have H1 : ((equal_Check.f t294 a2 t289 t290 t291).bind fun t306 => (if t306 = true then ((equal_Check.f t294 t296 t298 t301 t302).bind fun t307 => (some t307)) else (some false))) = some r := by rw [if_pos rfl] at H; exact H
                      clear H
                      have H := H1
                      clear H1
                      replace H := Option.bind_eq_some_iff.mp H
                      obtain ⟨t306, A320, H⟩ := H
                      replace H : (if t306 = true then ((equal_Check.f t294 t296 t298 t301 t302).bind fun t307 => (some t307)) else (some false)) = some r := H
                      have A32 := Aside0.mk A320
                      clear A320
                      by_cases c33 : t306 = true
                      · subst c33
                        have H1 : ((equal_Check.f t294 t296 t298 t301 t302).bind fun t307 => (some t307)) = some r := by rw [if_pos rfl] at H; exact H
                        clear H
                        have H := H1
                        clear H1
                        replace H := Option.bind_eq_some_iff.mp H
                        obtain ⟨t307, A340, H⟩ := H
                        replace H : (some t307) = some r := H
                        have A34 := Aside0.mk A340
                        clear A340
                        obtain rfl := Option.some.inj H
                        go_wp2_with (first | ((with_reducible refine gate_callee (f := 15) rfl ?_); refine goesL_ (some 74) rfl rfl Tryd.func15 (by kernel_rfl) rfl #[.int .i64 a0, .int .i64 t296] rfl (by (try simp only [List.map_toArray, List.map_cons, List.map_nil]); first | done | rfl | (simp only [List.length_drop, List.length_take]; rfl)) ?_; (with_reducible refine (equal_Prove.calls kj21 a0 t296 t300 t301 t302 t303 _ A27.out).mono ?_); rintro e w35 ⟨rfl, hb⟩; refine ⟨_, rfl, ?_⟩; have n0_ := Aside0.mk (blk_below (g := gb288) (o := .cells #[.int .i64 t285, .int .i64 t286] 23 (0, 0)) (by (with_reducible repeat (first | refine blk_drewN ?_ _ | refine blk_drew ?_ | refine blk_alloc ?_ _)); exact BK288.out) hb); have n1_ := Aside0.mk (blk_below (g := gb293) (o := .cells #[.int .i64 t290, .int .i64 t291] 23 (0, 0)) (by (with_reducible repeat (first | refine blk_drewN ?_ _ | refine blk_drew ?_ | refine blk_alloc ?_ _)); exact BK293.out) hb); have n2_ := Aside0.mk (below_step (by repeat (first | (with_reducible first | exact HB.out | apply below_alloc | apply pw_below_drewN | apply below_drew1 | refine below_set ?_ GE288.out | refine below_set ?_ GE293.out) | exact HB.out)) hb); clear BK288; clear BK293; clear HB; have BK288 := n0_; have BK293 := n1_; have HB := n2_; clear n0_ n1_ n2_; (try clear hb); (try clear hb2); (try clear hk); (try clear hi)) | ((with_reducible refine gate_dst (N := 20) rfl ?_); refine box_event ?hg (N := 20) ?hd (cs := #[.int .i64 0, .int .i64 0]) (t := 23) ?hr ?_; (case hd => rfl); (case hg => rfl); (case hr => first | (go_simp; done) | (go_simp; rfl)); intro gb304 hg w36 hbox hb; have n0_ := Aside0.mk (blk_below (g := gb288) (o := .cells #[.int .i64 t285, .int .i64 t286] 23 (0, 0)) (by (with_reducible repeat (first | refine blk_drewN ?_ _ | refine blk_drew ?_ | refine blk_alloc ?_ _)); exact BK288.out) hb); have n1_ := Aside0.mk (blk_below (g := gb293) (o := .cells #[.int .i64 t290, .int .i64 t291] 23 (0, 0)) (by (with_reducible repeat (first | refine blk_drewN ?_ _ | refine blk_drew ?_ | refine blk_alloc ?_ _)); exact BK293.out) hb); have n2_ := Aside0.mk (below_step (by repeat (first | (with_reducible first | exact HB.out | apply below_alloc | apply pw_below_drewN | apply below_drew1 | refine below_set ?_ GE288.out | refine below_set ?_ GE293.out) | exact HB.out)) hb); have n3_ := Aside0.mk (hbox); have n4_ := Aside0.mk ((by rw [hg]; exact (below_size (by repeat (first | (with_reducible first | exact HB.out | apply below_alloc | apply pw_below_drewN | apply below_drew1 | refine below_set ?_ GE288.out | refine below_set ?_ GE293.out) | exact HB.out))) : w.heap.size ≤ gb304)); have n5_ := Aside0.mk ((by rw [hg]; exact (below_size (by repeat (first | (with_reducible first | exact HB.out | apply below_alloc | apply pw_below_drewN | apply below_drew1 | refine below_set ?_ GE288.out | refine below_set ?_ GE293.out) | exact HB.out))) : w.heap.size ≤ gb304)); have n6_ := Aside0.mk ((by rw [hg]; exact Nat.ne_of_lt (blk_lt (g := gb288) (o := .cells #[.int .i64 t285, .int .i64 t286] 23 (0, 0)) (by (with_reducible repeat (first | refine blk_drewN ?_ _ | refine blk_drew ?_ | refine blk_alloc ?_ _)); exact BK288.out)) : gb288 ≠ gb304)); have n7_ := Aside0.mk ((by rw [hg]; exact Nat.ne_of_gt (blk_lt (g := gb288) (o := .cells #[.int .i64 t285, .int .i64 t286] 23 (0, 0)) (by (with_reducible repeat (first | refine blk_drewN ?_ _ | refine blk_drew ?_ | refine blk_alloc ?_ _)); exact BK288.out)) : gb304 ≠ gb288)); have n8_ := Aside0.mk ((by rw [hg]; exact Nat.ne_of_lt (blk_lt (g := gb293) (o := .cells #[.int .i64 t290, .int .i64 t291] 23 (0, 0)) (by (with_reducible repeat (first | refine blk_drewN ?_ _ | refine blk_drew ?_ | refine blk_alloc ?_ _)); exact BK293.out)) : gb293 ≠ gb304)); have n9_ := Aside0.mk ((by rw [hg]; exact Nat.ne_of_gt (blk_lt (g := gb293) (o := .cells #[.int .i64 t290, .int .i64 t291] 23 (0, 0)) (by (with_reducible repeat (first | refine blk_drewN ?_ _ | refine blk_drew ?_ | refine blk_alloc ?_ _)); exact BK293.out)) : gb304 ≠ gb293)); clear BK288; clear BK293; clear HB; have BK288 := n0_; have BK293 := n1_; have HB := n2_; have BK304 := n3_; have GW304 := n4_; have GE304 := n5_; have NB288_304 := n6_; have NB304_288 := n7_; have NB293_304 := n8_; have NB304_293 := n9_; clear n0_ n1_ n2_ n3_ n4_ n5_ n6_ n7_ n8_ n9_; clear hb hbox hg; have hnb37 := NB304_288.out; have hnc37 := NB288_304.out; have hnb38 := NB304_293.out; have hnc38 := NB293_304.out; have hcz39_0 : w36.cell? ⟨gb304, 0, none⟩ = some (.int .i64 0) := (blk_cell BK304.out 0).trans rfl; have hcz39_1 : w36.cell? ⟨gb304, 1, none⟩ = some (.int .i64 0) := (blk_cell BK304.out 1).trans rfl; have hfz39_0 := blk_frozen BK304.out 0; have hfz39_1 := blk_frozen BK304.out 1; have hnb40 := NB288_293.out; have hnc40 := NB293_288.out; have hcz41_0 : w36.cell? ⟨gb288, 0, none⟩ = some (.int .i64 t285) := (blk_cell BK288.out 0).trans rfl; have hcz41_1 : w36.cell? ⟨gb288, 1, none⟩ = some (.int .i64 t286) := (blk_cell BK288.out 1).trans rfl; have hfz41_0 := blk_frozen BK288.out 0; have hfz41_1 := blk_frozen BK288.out 1) | (go_at_call 17; (with_reducible refine (equal_Check.calls t294 a1 t284 t285 t286 true _ A30.out).mono ?_); rintro e w42 ⟨rfl, hb⟩; have n0_ := Aside0.mk (blk_below (g := gb288) (o := .cells #[.int .i64 t285, .int .i64 t286] 23 (0, 0)) (by (with_reducible repeat (first | refine blk_drewN ?_ _ | refine blk_drew ?_ | refine blk_alloc ?_ _)); refine blk_far ?_ NB288_304.out _; (with_reducible repeat (first | refine blk_drewN ?_ _ | refine blk_drew ?_ | refine blk_alloc ?_ _)); refine blk_far ?_ NB288_304.out _; (with_reducible repeat (first | refine blk_drewN ?_ _ | refine blk_drew ?_ | refine blk_alloc ?_ _)); exact BK288.out) hb); have n1_ := Aside0.mk (blk_below (g := gb293) (o := .cells #[.int .i64 t290, .int .i64 t291] 23 (0, 0)) (by (with_reducible repeat (first | refine blk_drewN ?_ _ | refine blk_drew ?_ | refine blk_alloc ?_ _)); refine blk_far ?_ NB293_304.out _; (with_reducible repeat (first | refine blk_drewN ?_ _ | refine blk_drew ?_ | refine blk_alloc ?_ _)); refine blk_far ?_ NB293_304.out _; (with_reducible repeat (first | refine blk_drewN ?_ _ | refine blk_drew ?_ | refine blk_alloc ?_ _)); exact BK293.out) hb); have n2_ := Aside0.mk (blk_below (g := gb304) (o := .cells #[.int .i64 t301, .int .i64 t302] 23 (0, 0)) (by (with_reducible repeat (first | refine blk_drewN ?_ _ | refine blk_drew ?_ | refine blk_alloc ?_ _)); refine blk_put (cs := #[.int .i64 t301, .int .i64 0]) ?_ 1 _ rfl; (with_reducible repeat (first | refine blk_drewN ?_ _ | refine blk_drew ?_ | refine blk_alloc ?_ _)); refine blk_put (cs := #[.int .i64 0, .int .i64 0]) ?_ 0 _ rfl; (with_reducible repeat (first | refine blk_drewN ?_ _ | refine blk_drew ?_ | refine blk_alloc ?_ _)); exact BK304.out) hb); have n3_ := Aside0.mk (below_step (by repeat (first | (with_reducible first | exact HB.out | apply below_alloc | apply pw_below_drewN | apply below_drew1 | refine below_set ?_ GE288.out | refine below_set ?_ GE293.out | refine below_set ?_ GE304.out) | exact HB.out)) hb); clear BK288; clear BK293; clear BK304; clear HB; have BK288 := n0_; have BK293 := n1_; have BK304 := n2_; have HB := n3_; clear n0_ n1_ n2_ n3_; (try clear hb); (try clear hb2); (try clear hk); (try clear hi); have hcz43_0 : w42.cell? ⟨gb293, 0, none⟩ = some (.int .i64 t290) := (blk_cell BK293.out 0).trans rfl; have hcz43_1 : w42.cell? ⟨gb293, 1, none⟩ = some (.int .i64 t291) := (blk_cell BK293.out 1).trans rfl; have hfz43_0 := blk_frozen BK293.out 0; have hfz43_1 := blk_frozen BK293.out 1) | (go_at_call 17; (with_reducible refine (equal_Check.calls t294 a2 t289 t290 t291 true _ A32.out).mono ?_); rintro e w44 ⟨rfl, hb⟩; have n0_ := Aside0.mk (blk_below (g := gb288) (o := .cells #[.int .i64 t285, .int .i64 t286] 23 (0, 0)) (by (with_reducible repeat (first | refine blk_drewN ?_ _ | refine blk_drew ?_ | refine blk_alloc ?_ _)); exact BK288.out) hb); have n1_ := Aside0.mk (blk_below (g := gb293) (o := .cells #[.int .i64 t290, .int .i64 t291] 23 (0, 0)) (by (with_reducible repeat (first | refine blk_drewN ?_ _ | refine blk_drew ?_ | refine blk_alloc ?_ _)); exact BK293.out) hb); have n2_ := Aside0.mk (blk_below (g := gb304) (o := .cells #[.int .i64 t301, .int .i64 t302] 23 (0, 0)) (by (with_reducible repeat (first | refine blk_drewN ?_ _ | refine blk_drew ?_ | refine blk_alloc ?_ _)); exact BK304.out) hb); have n3_ := Aside0.mk (below_step (by repeat (first | (with_reducible first | exact HB.out | apply below_alloc | apply pw_below_drewN | apply below_drew1 | refine below_set ?_ GE288.out | refine below_set ?_ GE293.out | refine below_set ?_ GE304.out) | exact HB.out)) hb); clear BK288; clear BK293; clear BK304; clear HB; have BK288 := n0_; have BK293 := n1_; have BK304 := n2_; have HB := n3_; clear n0_ n1_ n2_ n3_; (try clear hb); (try clear hb2); (try clear hk); (try clear hi); have hcz45_0 : w44.cell? ⟨gb304, 0, none⟩ = some (.int .i64 t301) := (blk_cell BK304.out 0).trans rfl; have hcz45_1 : w44.cell? ⟨gb304, 1, none⟩ = some (.int .i64 t302) := (blk_cell BK304.out 1).trans rfl; have hfz45_0 := blk_frozen BK304.out 0; have hfz45_1 := blk_frozen BK304.out 1) | (go_at_call 17; (with_reducible refine (equal_Check.calls t294 t296 t298 t301 t302 t307 _ A34.out).mono ?_); rintro e w46 ⟨rfl, hb⟩; have n0_ := Aside0.mk (blk_below (g := gb288) (o := .cells #[.int .i64 t285, .int .i64 t286] 23 (0, 0)) (by (with_reducible repeat (first | refine blk_drewN ?_ _ | refine blk_drew ?_ | refine blk_alloc ?_ _)); exact BK288.out) hb); have n1_ := Aside0.mk (blk_below (g := gb293) (o := .cells #[.int .i64 t290, .int .i64 t291] 23 (0, 0)) (by (with_reducible repeat (first | refine blk_drewN ?_ _ | refine blk_drew ?_ | refine blk_alloc ?_ _)); exact BK293.out) hb); have n2_ := Aside0.mk (blk_below (g := gb304) (o := .cells #[.int .i64 t301, .int .i64 t302] 23 (0, 0)) (by (with_reducible repeat (first | refine blk_drewN ?_ _ | refine blk_drew ?_ | refine blk_alloc ?_ _)); exact BK304.out) hb); have n3_ := Aside0.mk (below_step (by repeat (first | (with_reducible first | exact HB.out | apply below_alloc | apply pw_below_drewN | apply below_drew1 | refine below_set ?_ GE288.out | refine below_set ?_ GE293.out | refine below_set ?_ GE304.out) | exact HB.out)) hb); clear BK288; clear BK293; clear BK304; clear HB; have BK288 := n0_; have BK293 := n1_; have BK304 := n2_; have HB := n3_; clear n0_ n1_ n2_ n3_; (try clear hb); (try clear hb2); (try clear hk); (try clear hi)))
                        go_ret
                        exact ⟨by first | rfl | (simp [errW_none, errW_some] <;> rfl) | (simp [*, errW_none, errW_some] <;> rfl), by repeat (first | (with_reducible first | exact HB.out | apply below_alloc | apply pw_below_drewN | apply below_drew1 | refine below_set ?_ GE288.out | refine below_set ?_ GE293.out | refine below_set ?_ GE304.out) | exact HB.out)⟩
                      · replace c33 := Bool.eq_false_iff.mpr c33
                        subst c33
                        have H1 : (some false) = some r := by rw [if_neg (show ¬ (false = true) by decide)] at H; exact H
                        clear H
                        have H := H1
                        clear H1
                        exact absurd (H.trans (congrArg some HT.out)) (by simp)
                    · replace c31 := Bool.eq_false_iff.mpr c31
                      subst c31
                      have H1 : (some false) = some r := by rw [if_neg (show ¬ (false = true) by decide)] at H; exact H
                      clear H
                      have H := H1
                      clear H1
                      exact absurd (H.trans (congrArg some HT.out)) (by simp)
                  · rw [if_neg c29] at H
                    have c29b0 : (t300 == t298) = false := beq_eq_false_iff_ne.mpr c29
                    have c29b1 : (t300 != t298) = true := bne_iff_ne.mpr c29
                    exact absurd (H.trans (congrArg some HT.out)) (by simp)
                · rw [if_neg c28] at H
                  have c28b0 : (t303 == 0) = false := beq_eq_false_iff_ne.mpr c28
                  have c28b1 : (t303 != 0) = true := bne_iff_ne.mpr c28
                  exact absurd (H.trans (congrArg some HT.out)) (by simp)
  · replace c5 := Bool.eq_false_iff.mpr c5
    subst c5
    have H1 : (some false) = some r := by rw [if_neg (show ¬ (false = true) by decide)] at H; exact H
    clear H
    have H := H1
    clear H1
    exact absurd (H.trans (congrArg some HT.out)) (by simp)

/-- THE ONE PURE STATEMENT of signatorylaw12_EqualProduct: yours. -/
def signatorylaw12_EqualProduct.Pure : Prop := ∀ (a0 : Int) (a1 : Int) (a2 : Int), (Lit.int .i64 a0).wf = true → (Lit.int .i64 a1).wf = true → (Lit.int .i64 a2).wf = true → ∃ k, signatorylaw12_EqualProduct.f k a0 a1 a2 = some true
theorem signatorylaw12_EqualProduct.walk (P : signatorylaw12_EqualProduct.Pure) (a0 : Int) (a1 : Int) (a2 : Int) (w : World) (hG : Glob w) (w0 : (Lit.int .i64 a0).wf = true) (w1 : (Lit.int .i64 a1).wf = true) (w2 : (Lit.int .i64 a2).wf = true) :
    Calls Tryd.prog 6 #[.int .i64 a0, .int .i64 a1, .int .i64 a2] w fun e w' => e = .returned (.bool true) ∧ Below w.heap.size w w' := by
  obtain ⟨k, h⟩ := P a0 a1 a2 w0 w1 w2
  refine (signatorylaw12_EqualProduct.calls k a0 a1 a2 true w h).mono ?_
  rintro e w' ⟨rfl, hd⟩
  exact ⟨rfl, hd⟩

end Go.Proofs.YthladfegmedpnaaDoor.P

namespace Go.Proofs.YthladfegmedpnaaDoor.P
open Go.RowKit Go.Proofs.YthladfegmedpnaaDoorW.PrintWords Go.Proofs.YthladfegmedpnaaDoorW.PrintLast Go.Proofs.YthladfegmedpnaaDoorW.PrintMore Go.Proofs.YthladfegmedpnaaDoor

theorem prv_ok (s a : Int) : (prv s a).2.2.2 = 0 ↔ isSecret s = true ∧ vld a = true := by
  unfold prv
  cases isSecret s <;> cases vld a <;> simp

theorem EqualProduct_f (secret a b : Int) (ha : i64 a) (hb : i64 b) : signatorylaw12_EqualProduct.f 100 secret a b = some true := by
  unfold signatorylaw12_EqualProduct.f
  rw [sane12 100 (by decide), Option.bind_some, if_pos rfl, equal_Prove_f 100 (by decide) secret a ha, equal_Prove_f 100 (by decide) secret b hb]
  simp only [Option.bind_some]
  by_cases h1 : (prv secret a).2.2.2 = 0
  · rw [if_pos h1]
    by_cases h2 : (prv secret b).2.2.2 = 0
    · obtain ⟨hs, hva⟩ := (prv_ok _ _).1 h1
      obtain ⟨_, hvb⟩ := (prv_ok _ _).1 h2
      have hsi := secret_i64 hs
      have hab := vld_mul hva hvb
      have hpa := vld_pw hva secret
      have hpb := vld_pw hvb secret
      rw [show ((prv secret b).2.2.2 != 0) = false by rw [h2]; rfl, prv_secret hs hva, prv_secret hs hvb]
      simp only
      rw [signatorylaw12_EqualProduct.j0, if_neg (by decide), power12_f _ (by decide) 4 secret vld_four hsi, group_Mul_f, group_Mul_f, if_pos ⟨hva, hvb⟩, if_pos ⟨hpa, hpb⟩]
      simp only [Option.bind_some]
      rw [if_pos trivial, if_pos trivial, show ((0 : Int) != 0) = false from rfl, signatorylaw12_EqualProduct.j1, if_neg (by decide), equal_Prove_f _ (by decide) secret (mulz a b) (i64_vld hab), prv_secret hs hab]
      simp only [Option.bind_some]
      unfold equal_Check.f
      rw [if_pos trivial, if_pos (pwz_prod hva hvb secret)]
      simp only [Option.bind_some]
      rw [prv_chk hs hva, prv_chk hs hvb, if_pos rfl, if_pos rfl]
      have := prv_chk hs hab
      rw [pwz_prod hva hvb] at this
      rw [this]
    · rw [show ((prv secret b).2.2.2 != 0) = true by rw [bne_iff_ne]; exact h2, signatorylaw12_EqualProduct.j0, if_pos rfl]
  · rw [if_neg h1, signatorylaw12_EqualProduct.j0, if_pos rfl]

end Go.Proofs.YthladfegmedpnaaDoor.P
