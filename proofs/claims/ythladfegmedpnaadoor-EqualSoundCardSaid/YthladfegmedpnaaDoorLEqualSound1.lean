import Derived.Test.YthladfegmedpnaaDoorC4
import Derived.Test.YthladfegmedpnaaDoorC15
import Derived.Test.YthladfegmedpnaaDoorC16
set_option linter.unusedVariables false
set_option linter.unusedSimpArgs false
namespace Go.Proofs.YthladfegmedpnaaDoor.P
open Go.RowKit Go.Proofs.YthladfegmedpnaaDoorW.PrintWords Go.Proofs.YthladfegmedpnaaDoorW.PrintLast Go.Proofs.YthladfegmedpnaaDoorW.PrintMore
attribute [local go_sem] max2_int min2_int max_two min_two max_three min_three max_four min_four
set_option linter.unusedVariables false
set_option linter.unusedSimpArgs false

/-! ### signatorylaw12_EqualSound: function 4 -/
mutual
def signatorylaw12_EqualSound.j0 : Nat → Int → Int → Int → Bool → Int → Int → Int → Int → Option (Bool)
  | 0, _, _, _, _, _, _, _, _ => none
  | k + 1, x0, x1, x2, x46, x251000, x251001, x252000, x252001 => if x46 = true then (some true) else ((signatoryref12_Commits.f k x0 x1 x2 x251000 x251001).bind fun bt255 => ((signatoryref12_Commits.f k x0 x1 x2 x252000 x252001).bind fun bt257 => (if bt255.1 = bt257.1 then (signatorylaw12_EqualSound.j1 k x0 x1 x2 (bt255.2 != bt257.2) x251000 x251001 x252000 x252001) else (signatorylaw12_EqualSound.j1 k x0 x1 x2 true x251000 x251001 x252000 x252001))))
def signatorylaw12_EqualSound.j1 : Nat → Int → Int → Int → Bool → Int → Int → Int → Int → Option (Bool)
  | 0, _, _, _, _, _, _, _, _ => none
  | k + 1, x0, x1, x2, x70, x251000, x251001, x252000, x252001 => if x70 = true then (some true) else (signatorylaw12_EqualSound.l0 k x0 x1 x2 1 1073741787 (Int.tmod (wrap64 ((wrap64 (x251000 - x252000)) + 1073741789)) 1073741789) x251000 x251001 x252000 x252001)
def signatorylaw12_EqualSound.l0 : Nat → Int → Int → Int → Int → Int → Int → Int → Int → Int → Int → Option (Bool)
  | 0, _, _, _, _, _, _, _, _, _, _ => none
  | k + 1, x0, x1, x2, x16, x17, x18, x251000, x251001, x252000, x252001 => if x17 > 0 then (if (Int.tmod x17 2) = 1 then (signatorylaw12_EqualSound.l0 k x0 x1 x2 (Int.tmod (wrap64 (x16 * x18)) 1073741789) (wrap64 (Int.tdiv x17 2)) (Int.tmod (wrap64 (x18 * x18)) 1073741789) x251000 x251001 x252000 x252001) else (signatorylaw12_EqualSound.l0 k x0 x1 x2 x16 (wrap64 (Int.tdiv x17 2)) (Int.tmod (wrap64 (x18 * x18)) 1073741789) x251000 x251001 x252000 x252001)) else ((signatorylaw12_power.f k 4 (Int.tmod (wrap64 ((Int.tmod (wrap64 ((wrap64 (x251001 - x252001)) + 1073741789)) 1073741789) * x16)) 1073741789)).bind fun bt259 => ((signatorylaw12_power.f k x1 (Int.tmod (wrap64 ((Int.tmod (wrap64 ((wrap64 (x251001 - x252001)) + 1073741789)) 1073741789) * x16)) 1073741789)).bind fun bt261 => (if bt259.2 = true then (if bt261.2 = true then (if bt259.1 = x0 then (some (bt261.1 == x2)) else (some false)) else (some false)) else (some false))))
end
def signatorylaw12_EqualSound.f (k : Nat) (a0 : Int) (a1 : Int) (a2 : Int) (a3_0 : Int) (a3_1 : Int) (a4_0 : Int) (a4_1 : Int) : Option (Bool) := (signatorylaw12_sane.f k).bind fun t252 => (if t252 = true then ((signatoryref12_Formed.f k a0 a1 a2 a3_0 a3_1).bind fun t253 => (if t253 = true then ((signatoryref12_Formed.f k a0 a1 a2 a4_0 a4_1).bind fun t254 => (if t254 = true then (signatorylaw12_EqualSound.j0 k a0 a1 a2 (a3_0 == a4_0) a3_0 a3_1 a4_0 a4_1) else (signatorylaw12_EqualSound.j0 k a0 a1 a2 true a3_0 a3_1 a4_0 a4_1))) else (signatorylaw12_EqualSound.j0 k a0 a1 a2 true a3_0 a3_1 a4_0 a4_1))) else (some false))
theorem signatorylaw12_EqualSound.mono_l : ∀ k, (∀ y0 y1 y2 y3 y4 y5 y6 y7, LeO (signatorylaw12_EqualSound.j0 k y0 y1 y2 y3 y4 y5 y6 y7) (signatorylaw12_EqualSound.j0 (k + 1) y0 y1 y2 y3 y4 y5 y6 y7)) ∧ (∀ y0 y1 y2 y3 y4 y5 y6 y7, LeO (signatorylaw12_EqualSound.j1 k y0 y1 y2 y3 y4 y5 y6 y7) (signatorylaw12_EqualSound.j1 (k + 1) y0 y1 y2 y3 y4 y5 y6 y7)) ∧ (∀ y0 y1 y2 y3 y4 y5 y6 y7 y8 y9, LeO (signatorylaw12_EqualSound.l0 k y0 y1 y2 y3 y4 y5 y6 y7 y8 y9) (signatorylaw12_EqualSound.l0 (k + 1) y0 y1 y2 y3 y4 y5 y6 y7 y8 y9))
  | 0 => ⟨fun _ _ _ _ _ _ _ _ r h => by simp [signatorylaw12_EqualSound.j0] at h, fun _ _ _ _ _ _ _ _ r h => by simp [signatorylaw12_EqualSound.j1] at h, fun _ _ _ _ _ _ _ _ _ _ r h => by simp [signatorylaw12_EqualSound.l0] at h⟩
  | k + 1 => by
    obtain ⟨ih0, ih1, ih2⟩ := signatorylaw12_EqualSound.mono_l k
    refine ⟨?_, ?_, ?_⟩
    · intro y0 y1 y2 y3 y4 y5 y6 y7
      unfold signatorylaw12_EqualSound.j0
      repeat' first
      | (with_reducible exact ih0 _ _ _ _ _ _ _ _)
      | (with_reducible exact ih1 _ _ _ _ _ _ _ _)
      | (with_reducible exact ih2 _ _ _ _ _ _ _ _ _ _)
      | (with_reducible exact signatorylaw12_power.mono _ _ _)
      | (with_reducible exact signatorylaw12_sane.mono _)
      | (with_reducible exact signatoryref12_Commits.mono _ _ _ _ _ _)
      | (with_reducible exact signatoryref12_Formed.mono _ _ _ _ _ _)
      | (with_reducible exact LeO.refl _)
      | (with_reducible exact LeO.none _)
      | (with_reducible refine LeO.ite ?_ ?_)
      | (with_reducible refine LeO.bind ?_ (fun _ => ?_))
      | exact ih0 _ _ _ _ _ _ _ _
      | exact ih1 _ _ _ _ _ _ _ _
      | exact ih2 _ _ _ _ _ _ _ _ _ _
      | exact signatorylaw12_power.mono _ _ _
      | exact signatorylaw12_sane.mono _
      | exact signatoryref12_Commits.mono _ _ _ _ _ _
      | exact signatoryref12_Formed.mono _ _ _ _ _ _
      | exact LeO.none _
      | refine LeO.ite ?_ ?_
      | refine LeO.bind ?_ (fun _ => ?_)
    · intro y0 y1 y2 y3 y4 y5 y6 y7
      unfold signatorylaw12_EqualSound.j1
      repeat' first
      | (with_reducible exact ih0 _ _ _ _ _ _ _ _)
      | (with_reducible exact ih1 _ _ _ _ _ _ _ _)
      | (with_reducible exact ih2 _ _ _ _ _ _ _ _ _ _)
      | (with_reducible exact signatorylaw12_power.mono _ _ _)
      | (with_reducible exact signatorylaw12_sane.mono _)
      | (with_reducible exact signatoryref12_Commits.mono _ _ _ _ _ _)
      | (with_reducible exact signatoryref12_Formed.mono _ _ _ _ _ _)
      | (with_reducible exact LeO.refl _)
      | (with_reducible exact LeO.none _)
      | (with_reducible refine LeO.ite ?_ ?_)
      | (with_reducible refine LeO.bind ?_ (fun _ => ?_))
      | exact ih0 _ _ _ _ _ _ _ _
      | exact ih1 _ _ _ _ _ _ _ _
      | exact ih2 _ _ _ _ _ _ _ _ _ _
      | exact signatorylaw12_power.mono _ _ _
      | exact signatorylaw12_sane.mono _
      | exact signatoryref12_Commits.mono _ _ _ _ _ _
      | exact signatoryref12_Formed.mono _ _ _ _ _ _
      | exact LeO.none _
      | refine LeO.ite ?_ ?_
      | refine LeO.bind ?_ (fun _ => ?_)
    · intro y0 y1 y2 y3 y4 y5 y6 y7 y8 y9
      unfold signatorylaw12_EqualSound.l0
      repeat' first
      | (with_reducible exact ih0 _ _ _ _ _ _ _ _)
      | (with_reducible exact ih1 _ _ _ _ _ _ _ _)
      | (with_reducible exact ih2 _ _ _ _ _ _ _ _ _ _)
      | (with_reducible exact signatorylaw12_power.mono _ _ _)
      | (with_reducible exact signatorylaw12_sane.mono _)
      | (with_reducible exact signatoryref12_Commits.mono _ _ _ _ _ _)
      | (with_reducible exact signatoryref12_Formed.mono _ _ _ _ _ _)
      | (with_reducible exact LeO.refl _)
      | (with_reducible exact LeO.none _)
      | (with_reducible refine LeO.ite ?_ ?_)
      | (with_reducible refine LeO.bind ?_ (fun _ => ?_))
      | exact ih0 _ _ _ _ _ _ _ _
      | exact ih1 _ _ _ _ _ _ _ _
      | exact ih2 _ _ _ _ _ _ _ _ _ _
      | exact signatorylaw12_power.mono _ _ _
      | exact signatorylaw12_sane.mono _
      | exact signatoryref12_Commits.mono _ _ _ _ _ _
      | exact signatoryref12_Formed.mono _ _ _ _ _ _
      | exact LeO.none _
      | refine LeO.ite ?_ ?_
      | refine LeO.bind ?_ (fun _ => ?_)
theorem signatorylaw12_EqualSound.mono : ∀ a0 a1 a2 a3 a4 a5 a6 k, LeO (signatorylaw12_EqualSound.f k a0 a1 a2 a3 a4 a5 a6) (signatorylaw12_EqualSound.f (k + 1) a0 a1 a2 a3 a4 a5 a6) := by
  intro a0 a1 a2 a3 a4 a5 a6 k
  obtain ⟨ih0, ih1, ih2⟩ := signatorylaw12_EqualSound.mono_l k
  unfold signatorylaw12_EqualSound.f
  repeat' first
      | (with_reducible exact ih0 _ _ _ _ _ _ _ _)
      | (with_reducible exact ih1 _ _ _ _ _ _ _ _)
      | (with_reducible exact ih2 _ _ _ _ _ _ _ _ _ _)
      | (with_reducible exact signatorylaw12_power.mono _ _ _)
      | (with_reducible exact signatorylaw12_sane.mono _)
      | (with_reducible exact signatoryref12_Commits.mono _ _ _ _ _ _)
      | (with_reducible exact signatoryref12_Formed.mono _ _ _ _ _ _)
      | (with_reducible exact LeO.refl _)
      | (with_reducible exact LeO.none _)
      | (with_reducible refine LeO.ite ?_ ?_)
      | (with_reducible refine LeO.bind ?_ (fun _ => ?_))
      | exact ih0 _ _ _ _ _ _ _ _
      | exact ih1 _ _ _ _ _ _ _ _
      | exact ih2 _ _ _ _ _ _ _ _ _ _
      | exact signatorylaw12_power.mono _ _ _
      | exact signatorylaw12_sane.mono _
      | exact signatoryref12_Commits.mono _ _ _ _ _ _
      | exact signatoryref12_Formed.mono _ _ _ _ _ _
      | exact LeO.none _
      | refine LeO.ite ?_ ?_
      | refine LeO.bind ?_ (fun _ => ?_)
set_option maxHeartbeats 8000000 in
set_option maxRecDepth 100000 in
theorem signatorylaw12_EqualSound.calls (k : Nat) (a0 : Int) (a1 : Int) (a2 : Int) (a3_0 : Int) (a3_1 : Int) (a4_0 : Int) (a4_1 : Int) (r : Bool) (w : World) (h : signatorylaw12_EqualSound.f k a0 a1 a2 a3_0 a3_1 a4_0 a4_1 = some r) (hT : r = true := by rfl) (hG : Glob w := by first | exact hG | exact Glob.below hG HB.out | exact Glob.below hG (by repeat (first | (with_reducible first | exact HB.out | apply below_alloc | apply pw_below_drewN | apply below_drew1 | refine below_set ?_ (Aside0.out (by assumption))) | exact HB.out))) :
    Calls Tryd.prog 4 #[.int .i64 a0, .int .i64 a1, .int .i64 a2, .agg #[.int .i64 a3_0, .int .i64 a3_1], .agg #[.int .i64 a4_0, .int .i64 a4_1]] w fun e w' => e = .returned (.bool r) ∧ Below w.heap.size w w' := by
  have HT := Aside0.mk hT
  clear hT
  have hu23 := Tryd.underlying23
  have HB := Aside0.mk (Below.refl w.heap.size w)
  have H : ((signatorylaw12_sane.f k).bind fun t252 => (if t252 = true then ((signatoryref12_Formed.f k a0 a1 a2 a3_0 a3_1).bind fun t253 => (if t253 = true then ((signatoryref12_Formed.f k a0 a1 a2 a4_0 a4_1).bind fun t254 => (if t254 = true then (signatorylaw12_EqualSound.j0 k a0 a1 a2 (a3_0 == a4_0) a3_0 a3_1 a4_0 a4_1) else (signatorylaw12_EqualSound.j0 k a0 a1 a2 true a3_0 a3_1 a4_0 a4_1))) else (signatorylaw12_EqualSound.j0 k a0 a1 a2 true a3_0 a3_1 a4_0 a4_1))) else (some false))) = some r := h
  clear h
  replace H := Option.bind_eq_some_iff.mp H
  obtain ⟨t252, A60, H⟩ := H
  replace H : (if t252 = true then ((signatoryref12_Formed.f k a0 a1 a2 a3_0 a3_1).bind fun t253 => (if t253 = true then ((signatoryref12_Formed.f k a0 a1 a2 a4_0 a4_1).bind fun t254 => (if t254 = true then (signatorylaw12_EqualSound.j0 k a0 a1 a2 (a3_0 == a4_0) a3_0 a3_1 a4_0 a4_1) else (signatorylaw12_EqualSound.j0 k a0 a1 a2 true a3_0 a3_1 a4_0 a4_1))) else (signatorylaw12_EqualSound.j0 k a0 a1 a2 true a3_0 a3_1 a4_0 a4_1))) else (some false)) = some r := H
  have A6 := Aside0.mk A60
  clear A60
  by_cases c7 : t252 = true
  · subst c7
    have H1 : ((signatoryref12_Formed.f k a0 a1 a2 a3_0 a3_1).bind fun t253 => (if t253 = true then ((signatoryref12_Formed.f k a0 a1 a2 a4_0 a4_1).bind fun t254 => (if t254 = true then (signatorylaw12_EqualSound.j0 k a0 a1 a2 (a3_0 == a4_0) a3_0 a3_1 a4_0 a4_1) else (signatorylaw12_EqualSound.j0 k a0 a1 a2 true a3_0 a3_1 a4_0 a4_1))) else (signatorylaw12_EqualSound.j0 k a0 a1 a2 true a3_0 a3_1 a4_0 a4_1))) = some r := by rw [if_pos rfl] at H; exact H
    clear H
    have H := H1
    clear H1
    have HC8 := Aside0.mk H
    clear H
    go_enter Tryd.func4, Tryd.ntmps4
    go_upto_region 3 with (first | ((with_reducible refine gate_dst (N := 8) rfl ?_); refine box_event ?hg (N := 8) ?hd (cs := #[.int .i64 a3_0, .int .i64 a3_1]) (t := 23) ?hr ?_; (case hd => rfl); (case hg => rfl); (case hr => first | (go_simp; done) | (go_simp; rfl)); intro gb250 hg w9 hbox hb; have n0_ := Aside0.mk (below_step (by repeat (first | (with_reducible first | exact HB.out | apply below_alloc | apply pw_below_drewN | apply below_drew1) | exact HB.out)) hb); have n1_ := Aside0.mk (hbox); have n2_ := Aside0.mk ((by rw [hg]; exact (below_size (by repeat (first | (with_reducible first | exact HB.out | apply below_alloc | apply pw_below_drewN | apply below_drew1) | exact HB.out))) : w.heap.size ≤ gb250)); have n3_ := Aside0.mk ((by rw [hg]; exact (below_size (by repeat (first | (with_reducible first | exact HB.out | apply below_alloc | apply pw_below_drewN | apply below_drew1) | exact HB.out))) : w.heap.size ≤ gb250)); clear HB; have HB := n0_; have BK250 := n1_; have GW250 := n2_; have GE250 := n3_; clear n0_ n1_ n2_ n3_; clear hb hbox hg) | ((with_reducible refine gate_dst (N := 9) rfl ?_); refine box_event ?hg (N := 9) ?hd (cs := #[.int .i64 a4_0, .int .i64 a4_1]) (t := 23) ?hr ?_; (case hd => rfl); (case hg => rfl); (case hr => first | (go_simp; done) | (go_simp; rfl)); intro gb251 hg w10 hbox hb; have n0_ := Aside0.mk (blk_below (g := gb250) (o := .cells #[.int .i64 a3_0, .int .i64 a3_1] 23 (0, 0)) (by (with_reducible repeat (first | refine blk_drewN ?_ _ | refine blk_drew ?_ | refine blk_alloc ?_ _)); exact BK250.out) hb); have n1_ := Aside0.mk (below_step (by repeat (first | (with_reducible first | exact HB.out | apply below_alloc | apply pw_below_drewN | apply below_drew1 | refine below_set ?_ GE250.out) | exact HB.out)) hb); have n2_ := Aside0.mk (hbox); have n3_ := Aside0.mk ((by rw [hg]; exact (below_size (by repeat (first | (with_reducible first | exact HB.out | apply below_alloc | apply pw_below_drewN | apply below_drew1 | refine below_set ?_ GE250.out) | exact HB.out))) : w.heap.size ≤ gb251)); have n4_ := Aside0.mk ((by rw [hg]; exact (below_size (by repeat (first | (with_reducible first | exact HB.out | apply below_alloc | apply pw_below_drewN | apply below_drew1 | refine below_set ?_ GE250.out) | exact HB.out))) : w.heap.size ≤ gb251)); have n5_ := Aside0.mk ((by rw [hg]; exact Nat.ne_of_lt (blk_lt (g := gb250) (o := .cells #[.int .i64 a3_0, .int .i64 a3_1] 23 (0, 0)) (by (with_reducible repeat (first | refine blk_drewN ?_ _ | refine blk_drew ?_ | refine blk_alloc ?_ _)); exact BK250.out)) : gb250 ≠ gb251)); have n6_ := Aside0.mk ((by rw [hg]; exact Nat.ne_of_gt (blk_lt (g := gb250) (o := .cells #[.int .i64 a3_0, .int .i64 a3_1] 23 (0, 0)) (by (with_reducible repeat (first | refine blk_drewN ?_ _ | refine blk_drew ?_ | refine blk_alloc ?_ _)); exact BK250.out)) : gb251 ≠ gb250)); clear BK250; clear HB; have BK250 := n0_; have HB := n1_; have BK251 := n2_; have GW251 := n3_; have GE251 := n4_; have NB250_251 := n5_; have NB251_250 := n6_; clear n0_ n1_ n2_ n3_ n4_ n5_ n6_; clear hb hbox hg) | ((with_reducible refine gate_callee (f := 14) rfl ?_); refine goesL_ (some 24) rfl rfl Tryd.func14 (by kernel_rfl) rfl #[] rfl (by (try simp only [List.map_toArray, List.map_cons, List.map_nil]); first | done | rfl | (simp only [List.length_drop, List.length_take]; rfl)) ?_; (with_reducible refine (signatorylaw12_sane.calls k  true _ A6.out).mono ?_); rintro e w11 ⟨rfl, hb⟩; refine ⟨_, rfl, ?_⟩; have n0_ := Aside0.mk (blk_below (g := gb250) (o := .cells #[.int .i64 a3_0, .int .i64 a3_1] 23 (0, 0)) (by (with_reducible repeat (first | refine blk_drewN ?_ _ | refine blk_drew ?_ | refine blk_alloc ?_ _)); exact BK250.out) hb); have n1_ := Aside0.mk (blk_below (g := gb251) (o := .cells #[.int .i64 a4_0, .int .i64 a4_1] 23 (0, 0)) (by (with_reducible repeat (first | refine blk_drewN ?_ _ | refine blk_drew ?_ | refine blk_alloc ?_ _)); exact BK251.out) hb); have n2_ := Aside0.mk (below_step (by repeat (first | (with_reducible first | exact HB.out | apply below_alloc | apply pw_below_drewN | apply below_drew1 | refine below_set ?_ GE250.out | refine below_set ?_ GE251.out) | exact HB.out)) hb); clear BK250; clear BK251; clear HB; have BK250 := n0_; have BK251 := n1_; have HB := n2_; clear n0_ n1_ n2_; (try clear hb); (try clear hb2); (try clear hk); (try clear hi)))
    (try simp only [Act.put, List.setIfInBounds_toArray, List.set_cons_zero, List.set_cons_succ])
    go_cut [46] (fun v46 wc => ∃ (kq : Nat) (x46_7 : Bool), v46 = .bool x46_7 ∧ Aside0 (signatorylaw12_EqualSound.j0 kq a0 a1 a2 x46_7 a3_0 a3_1 a4_0 a4_1 = some r) ∧ Aside0 (kq ≤ k) ∧ Aside0 (wc.heap[gb250]? = some (.cells #[.int .i64 a3_0, .int .i64 a3_1] 23 (0, 0))) ∧ Aside0 (wc.heap[gb251]? = some (.cells #[.int .i64 a4_0, .int .i64 a4_1] 23 (0, 0))) ∧ Aside0 (Below w.heap.size w wc))
    case first =>
      have H := HC8.out
      clear HC8
      replace H := Option.bind_eq_some_iff.mp H
      obtain ⟨t253, A120, H⟩ := H
      replace H : (if t253 = true then ((signatoryref12_Formed.f k a0 a1 a2 a4_0 a4_1).bind fun t254 => (if t254 = true then (signatorylaw12_EqualSound.j0 k a0 a1 a2 (a3_0 == a4_0) a3_0 a3_1 a4_0 a4_1) else (signatorylaw12_EqualSound.j0 k a0 a1 a2 true a3_0 a3_1 a4_0 a4_1))) else (signatorylaw12_EqualSound.j0 k a0 a1 a2 true a3_0 a3_1 a4_0 a4_1)) = some r := H
      have A12 := Aside0.mk A120
      clear A120
      by_cases c13 : t253 = true
      · subst c13
        have H1 : ((signatoryref12_Formed.f k a0 a1 a2 a4_0 a4_1).bind fun t254 => (if t254 = true then (signatorylaw12_EqualSound.j0 k a0 a1 a2 (a3_0 == a4_0) a3_0 a3_1 a4_0 a4_1) else (signatorylaw12_EqualSound.j0 k a0 a1 a2 true a3_0 a3_1 a4_0 a4_1))) = some r := by rw [if_pos rfl] at H; exact H
        clear H
        have H := H1
        clear H1
        replace H := Option.bind_eq_some_iff.mp H
        obtain ⟨t254, A140, H⟩ := H
        replace H : (if t254 = true then (signatorylaw12_EqualSound.j0 k a0 a1 a2 (a3_0 == a4_0) a3_0 a3_1 a4_0 a4_1) else (signatorylaw12_EqualSound.j0 k a0 a1 a2 true a3_0 a3_1 a4_0 a4_1)) = some r := H
        have A14 := Aside0.mk A140
        clear A140
        by_cases c15 : t254 = true
        · subst c15
          have H1 : (signatorylaw12_EqualSound.j0 k a0 a1 a2 (a3_0 == a4_0) a3_0 a3_1 a4_0 a4_1) = some r := by rw [if_pos rfl] at H; exact H
          clear H
          have H := H1
          clear H1
          have H' := Aside0.mk H
          clear H
          have hnb16 := NB250_251.out
          have hnc16 := NB251_250.out
          have hcz17_0 : w11.cell? ⟨gb250, 0, none⟩ = some (.int .i64 a3_0) := (blk_cell BK250.out 0).trans rfl
          have hcz17_1 : w11.cell? ⟨gb250, 1, none⟩ = some (.int .i64 a3_1) := (blk_cell BK250.out 1).trans rfl
          have hfz17_0 := blk_frozen BK250.out 0
          have hfz17_1 := blk_frozen BK250.out 1
          go_wp2_with (first | ((with_reducible refine gate_callee (f := 19) rfl ?_); refine goesL_ (some 30) rfl rfl Tryd.func19 (by kernel_rfl) rfl #[.int .i64 a0, .int .i64 a1, .int .i64 a2, .agg #[.int .i64 a3_0, .int .i64 a3_1]] rfl (by (try simp only [List.map_toArray, List.map_cons, List.map_nil]); first | done | rfl | (simp only [List.length_drop, List.length_take]; rfl)) ?_; (with_reducible refine (signatoryref12_Formed.calls k a0 a1 a2 a3_0 a3_1 true _ A12.out).mono ?_); rintro e w18 ⟨rfl, hb⟩; refine ⟨_, rfl, ?_⟩; have n0_ := Aside0.mk (blk_below (g := gb250) (o := .cells #[.int .i64 a3_0, .int .i64 a3_1] 23 (0, 0)) (by (with_reducible repeat (first | refine blk_drewN ?_ _ | refine blk_drew ?_ | refine blk_alloc ?_ _)); exact BK250.out) hb); have n1_ := Aside0.mk (blk_below (g := gb251) (o := .cells #[.int .i64 a4_0, .int .i64 a4_1] 23 (0, 0)) (by (with_reducible repeat (first | refine blk_drewN ?_ _ | refine blk_drew ?_ | refine blk_alloc ?_ _)); exact BK251.out) hb); have n2_ := Aside0.mk (below_step (by repeat (first | (with_reducible first | exact HB.out | apply below_alloc | apply pw_below_drewN | apply below_drew1 | refine below_set ?_ GE250.out | refine below_set ?_ GE251.out) | exact HB.out)) hb); clear BK250; clear BK251; clear HB; have BK250 := n0_; have BK251 := n1_; have HB := n2_; clear n0_ n1_ n2_; (try clear hb); (try clear hb2); (try clear hk); (try clear hi); have hcz19_0 : w18.cell? ⟨gb251, 0, none⟩ = some (.int .i64 a4_0) := (blk_cell BK251.out 0).trans rfl; have hcz19_1 : w18.cell? ⟨gb251, 1, none⟩ = some (.int .i64 a4_1) := (blk_cell BK251.out 1).trans rfl; have hfz19_0 := blk_frozen BK251.out 0; have hfz19_1 := blk_frozen BK251.out 1) | (go_at_call 19; (with_reducible refine (signatoryref12_Formed.calls k a0 a1 a2 a4_0 a4_1 true _ A14.out).mono ?_); rintro e w20 ⟨rfl, hb⟩; have n0_ := Aside0.mk (blk_below (g := gb250) (o := .cells #[.int .i64 a3_0, .int .i64 a3_1] 23 (0, 0)) (by (with_reducible repeat (first | refine blk_drewN ?_ _ | refine blk_drew ?_ | refine blk_alloc ?_ _)); exact BK250.out) hb); have n1_ := Aside0.mk (blk_below (g := gb251) (o := .cells #[.int .i64 a4_0, .int .i64 a4_1] 23 (0, 0)) (by (with_reducible repeat (first | refine blk_drewN ?_ _ | refine blk_drew ?_ | refine blk_alloc ?_ _)); exact BK251.out) hb); have n2_ := Aside0.mk (below_step (by repeat (first | (with_reducible first | exact HB.out | apply below_alloc | apply pw_below_drewN | apply below_drew1 | refine below_set ?_ GE250.out | refine below_set ?_ GE251.out) | exact HB.out)) hb); clear BK250; clear BK251; clear HB; have BK250 := n0_; have BK251 := n1_; have HB := n2_; clear n0_ n1_ n2_; (try clear hb); (try clear hb2); (try clear hk); (try clear hi); have hcz21_0 : w20.cell? ⟨gb250, 0, none⟩ = some (.int .i64 a3_0) := (blk_cell BK250.out 0).trans rfl; have hcz21_1 : w20.cell? ⟨gb250, 1, none⟩ = some (.int .i64 a3_1) := (blk_cell BK250.out 1).trans rfl; have hfz21_0 := blk_frozen BK250.out 0; have hfz21_1 := blk_frozen BK250.out 1; have hcz22_0 : w20.cell? ⟨gb251, 0, none⟩ = some (.int .i64 a4_0) := (blk_cell BK251.out 0).trans rfl; have hcz22_1 : w20.cell? ⟨gb251, 1, none⟩ = some (.int .i64 a4_1) := (blk_cell BK251.out 1).trans rfl; have hfz22_0 := blk_frozen BK251.out 0; have hfz22_1 := blk_frozen BK251.out 1))
          go_meet
          case rel => exact ⟨_, ((a3_0 == a4_0)), (by first | rfl | (simp; done) | (simp [*]; done)), H', ⟨by first | omega | exact Nat.le_refl _⟩, ⟨by (with_reducible repeat (first | refine blk_drewN ?_ _ | refine blk_drew ?_ | refine blk_alloc ?_ _)); exact BK250.out⟩, ⟨by (with_reducible repeat (first | refine blk_drewN ?_ _ | refine blk_drew ?_ | refine blk_alloc ?_ _)); exact BK251.out⟩, ⟨by repeat (first | (with_reducible first | exact HB.out | apply below_alloc | apply pw_below_drewN | apply below_drew1 | refine below_set ?_ GE250.out | refine below_set ?_ GE251.out) | exact HB.out)⟩⟩
        · replace c15 := Bool.eq_false_iff.mpr c15
          subst c15
          have H1 : (signatorylaw12_EqualSound.j0 k a0 a1 a2 true a3_0 a3_1 a4_0 a4_1) = some r := by rw [if_neg (show ¬ (false = true) by decide)] at H; exact H
          clear H
          have H := H1
          clear H1
          have H' := Aside0.mk H
          clear H
          have hnb23 := NB250_251.out
          have hnc23 := NB251_250.out
          have hcz24_0 : w11.cell? ⟨gb250, 0, none⟩ = some (.int .i64 a3_0) := (blk_cell BK250.out 0).trans rfl
          have hcz24_1 : w11.cell? ⟨gb250, 1, none⟩ = some (.int .i64 a3_1) := (blk_cell BK250.out 1).trans rfl
          have hfz24_0 := blk_frozen BK250.out 0
          have hfz24_1 := blk_frozen BK250.out 1
          go_wp2_with (first | ((with_reducible refine gate_callee (f := 19) rfl ?_); refine goesL_ (some 30) rfl rfl Tryd.func19 (by kernel_rfl) rfl #[.int .i64 a0, .int .i64 a1, .int .i64 a2, .agg #[.int .i64 a3_0, .int .i64 a3_1]] rfl (by (try simp only [List.map_toArray, List.map_cons, List.map_nil]); first | done | rfl | (simp only [List.length_drop, List.length_take]; rfl)) ?_; (with_reducible refine (signatoryref12_Formed.calls k a0 a1 a2 a3_0 a3_1 true _ A12.out).mono ?_); rintro e w25 ⟨rfl, hb⟩; refine ⟨_, rfl, ?_⟩; have n0_ := Aside0.mk (blk_below (g := gb250) (o := .cells #[.int .i64 a3_0, .int .i64 a3_1] 23 (0, 0)) (by (with_reducible repeat (first | refine blk_drewN ?_ _ | refine blk_drew ?_ | refine blk_alloc ?_ _)); exact BK250.out) hb); have n1_ := Aside0.mk (blk_below (g := gb251) (o := .cells #[.int .i64 a4_0, .int .i64 a4_1] 23 (0, 0)) (by (with_reducible repeat (first | refine blk_drewN ?_ _ | refine blk_drew ?_ | refine blk_alloc ?_ _)); exact BK251.out) hb); have n2_ := Aside0.mk (below_step (by repeat (first | (with_reducible first | exact HB.out | apply below_alloc | apply pw_below_drewN | apply below_drew1 | refine below_set ?_ GE250.out | refine below_set ?_ GE251.out) | exact HB.out)) hb); clear BK250; clear BK251; clear HB; have BK250 := n0_; have BK251 := n1_; have HB := n2_; clear n0_ n1_ n2_; (try clear hb); (try clear hb2); (try clear hk); (try clear hi); have hcz26_0 : w25.cell? ⟨gb251, 0, none⟩ = some (.int .i64 a4_0) := (blk_cell BK251.out 0).trans rfl; have hcz26_1 : w25.cell? ⟨gb251, 1, none⟩ = some (.int .i64 a4_1) := (blk_cell BK251.out 1).trans rfl; have hfz26_0 := blk_frozen BK251.out 0; have hfz26_1 := blk_frozen BK251.out 1) | (go_at_call 19; (with_reducible refine (signatoryref12_Formed.calls k a0 a1 a2 a4_0 a4_1 false _ A14.out).mono ?_); rintro e w27 ⟨rfl, hb⟩; have n0_ := Aside0.mk (blk_below (g := gb250) (o := .cells #[.int .i64 a3_0, .int .i64 a3_1] 23 (0, 0)) (by (with_reducible repeat (first | refine blk_drewN ?_ _ | refine blk_drew ?_ | refine blk_alloc ?_ _)); exact BK250.out) hb); have n1_ := Aside0.mk (blk_below (g := gb251) (o := .cells #[.int .i64 a4_0, .int .i64 a4_1] 23 (0, 0)) (by (with_reducible repeat (first | refine blk_drewN ?_ _ | refine blk_drew ?_ | refine blk_alloc ?_ _)); exact BK251.out) hb); have n2_ := Aside0.mk (below_step (by repeat (first | (with_reducible first | exact HB.out | apply below_alloc | apply pw_below_drewN | apply below_drew1 | refine below_set ?_ GE250.out | refine below_set ?_ GE251.out) | exact HB.out)) hb); clear BK250; clear BK251; clear HB; have BK250 := n0_; have BK251 := n1_; have HB := n2_; clear n0_ n1_ n2_; (try clear hb); (try clear hb2); (try clear hk); (try clear hi)))
          go_meet
          case rel => exact ⟨_, (true), (by first | rfl | (simp; done) | (simp [*]; done)), H', ⟨by first | omega | exact Nat.le_refl _⟩, ⟨by (with_reducible repeat (first | refine blk_drewN ?_ _ | refine blk_drew ?_ | refine blk_alloc ?_ _)); exact BK250.out⟩, ⟨by (with_reducible repeat (first | refine blk_drewN ?_ _ | refine blk_drew ?_ | refine blk_alloc ?_ _)); exact BK251.out⟩, ⟨by repeat (first | (with_reducible first | exact HB.out | apply below_alloc | apply pw_below_drewN | apply below_drew1 | refine below_set ?_ GE250.out | refine below_set ?_ GE251.out) | exact HB.out)⟩⟩
      · replace c13 := Bool.eq_false_iff.mpr c13
        subst c13
        have H1 : (signatorylaw12_EqualSound.j0 k a0 a1 a2 true a3_0 a3_1 a4_0 a4_1) = some r := by rw [if_neg (show ¬ (false = true) by decide)] at H; exact H
        clear H
        have H := H1
        clear H1
        have H' := Aside0.mk H
        clear H
        have hnb28 := NB250_251.out
        have hnc28 := NB251_250.out
        have hcz29_0 : w11.cell? ⟨gb250, 0, none⟩ = some (.int .i64 a3_0) := (blk_cell BK250.out 0).trans rfl
        have hcz29_1 : w11.cell? ⟨gb250, 1, none⟩ = some (.int .i64 a3_1) := (blk_cell BK250.out 1).trans rfl
        have hfz29_0 := blk_frozen BK250.out 0
        have hfz29_1 := blk_frozen BK250.out 1
        go_wp2_with (first | ((with_reducible refine gate_callee (f := 19) rfl ?_); refine goesL_ (some 30) rfl rfl Tryd.func19 (by kernel_rfl) rfl #[.int .i64 a0, .int .i64 a1, .int .i64 a2, .agg #[.int .i64 a3_0, .int .i64 a3_1]] rfl (by (try simp only [List.map_toArray, List.map_cons, List.map_nil]); first | done | rfl | (simp only [List.length_drop, List.length_take]; rfl)) ?_; (with_reducible refine (signatoryref12_Formed.calls k a0 a1 a2 a3_0 a3_1 false _ A12.out).mono ?_); rintro e w30 ⟨rfl, hb⟩; refine ⟨_, rfl, ?_⟩; have n0_ := Aside0.mk (blk_below (g := gb250) (o := .cells #[.int .i64 a3_0, .int .i64 a3_1] 23 (0, 0)) (by (with_reducible repeat (first | refine blk_drewN ?_ _ | refine blk_drew ?_ | refine blk_alloc ?_ _)); exact BK250.out) hb); have n1_ := Aside0.mk (blk_below (g := gb251) (o := .cells #[.int .i64 a4_0, .int .i64 a4_1] 23 (0, 0)) (by (with_reducible repeat (first | refine blk_drewN ?_ _ | refine blk_drew ?_ | refine blk_alloc ?_ _)); exact BK251.out) hb); have n2_ := Aside0.mk (below_step (by repeat (first | (with_reducible first | exact HB.out | apply below_alloc | apply pw_below_drewN | apply below_drew1 | refine below_set ?_ GE250.out | refine below_set ?_ GE251.out) | exact HB.out)) hb); clear BK250; clear BK251; clear HB; have BK250 := n0_; have BK251 := n1_; have HB := n2_; clear n0_ n1_ n2_; (try clear hb); (try clear hb2); (try clear hk); (try clear hi)))
        go_meet
        case rel => exact ⟨_, (true), (by first | rfl | (simp; done) | (simp [*]; done)), H', ⟨by first | omega | exact Nat.le_refl _⟩, ⟨by (with_reducible repeat (first | refine blk_drewN ?_ _ | refine blk_drew ?_ | refine blk_alloc ?_ _)); exact BK250.out⟩, ⟨by (with_reducible repeat (first | refine blk_drewN ?_ _ | refine blk_drew ?_ | refine blk_alloc ?_ _)); exact BK251.out⟩, ⟨by repeat (first | (with_reducible first | exact HB.out | apply below_alloc | apply pw_below_drewN | apply below_drew1 | refine below_set ?_ GE250.out | refine below_set ?_ GE251.out) | exact HB.out)⟩⟩
    case rest =>
      clear HC8
      try clear c1
      try clear c2
      try clear p2
      try clear c4
      try clear c7
      try clear c13
      try clear c14
      try clear c15
      try clear c16
      try clear c19
      try clear c23
      try clear c28
      try clear hcz17_0
      try clear hcz17_1
      try clear hcz19_0
      try clear hcz19_1
      try clear hcz21_0
      try clear hcz21_1
      try clear hcz22_0
      try clear hcz22_1
      try clear hcz24_0
      try clear hcz24_1
      try clear hcz26_0
      try clear hcz26_1
      try clear hcz29_0
      try clear hcz29_1
      try clear hfz17_0
      try clear hfz17_1
      try clear hfz19_0
      try clear hfz19_1
      try clear hfz21_0
      try clear hfz21_1
      try clear hfz22_0
      try clear hfz22_1
      try clear hfz24_0
      try clear hfz24_1
      try clear hfz26_0
      try clear hfz26_1
      try clear hfz29_0
      try clear hfz29_1
      obtain ⟨kq, x46_7, rfl, HA, HJ7, BK250, BK251, HB⟩ := hcut
      cases kq with
      | zero => exact absurd HA.out (by simp [signatorylaw12_EqualSound.j0])
      | succ kj7 =>
        have H := HA.out
        clear HA
        simp only [signatorylaw12_EqualSound.j0] at H
        by_cases c31 : x46_7 = true
        · subst c31
          have H1 : (some true) = some r := by rw [if_pos rfl] at H; exact H
          clear H
          have H := H1
          clear H1
          obtain rfl := Option.some.inj H
          go_wp2
          go_ret
          exact ⟨by first | rfl | (simp [errW_none, errW_some] <;> rfl) | (simp [*, errW_none, errW_some] <;> rfl), by repeat (first | (with_reducible first | exact HB.out | apply below_alloc | apply pw_below_drewN | apply below_drew1 | refine below_set ?_ GE250.out | refine below_set ?_ GE251.out) | exact HB.out)⟩
        · replace c31 := Bool.eq_false_iff.mpr c31
          subst c31
          have H1 : ((signatoryref12_Commits.f kj7 a0 a1 a2 a3_0 a3_1).bind fun bt255 => ((signatoryref12_Commits.f kj7 a0 a1 a2 a4_0 a4_1).bind fun bt257 => (if bt255.1 = bt257.1 then (signatorylaw12_EqualSound.j1 kj7 a0 a1 a2 (bt255.2 != bt257.2) a3_0 a3_1 a4_0 a4_1) else (signatorylaw12_EqualSound.j1 kj7 a0 a1 a2 true a3_0 a3_1 a4_0 a4_1)))) = some r := by rw [if_neg (show ¬ (false = true) by decide)] at H; exact H
          clear H
          have H := H1
          clear H1
          replace H := Option.bind_eq_some_iff.mp H
          obtain ⟨⟨t255, t256⟩, A320, H⟩ := H
          replace H : ((signatoryref12_Commits.f kj7 a0 a1 a2 a4_0 a4_1).bind fun bt257 => (if t255 = bt257.1 then (signatorylaw12_EqualSound.j1 kj7 a0 a1 a2 (t256 != bt257.2) a3_0 a3_1 a4_0 a4_1) else (signatorylaw12_EqualSound.j1 kj7 a0 a1 a2 true a3_0 a3_1 a4_0 a4_1))) = some r := H
          have A32 := Aside0.mk A320
          clear A320
          replace H := Option.bind_eq_some_iff.mp H
          obtain ⟨⟨t257, t258⟩, A330, H⟩ := H
          replace H : (if t255 = t257 then (signatorylaw12_EqualSound.j1 kj7 a0 a1 a2 (t256 != t258) a3_0 a3_1 a4_0 a4_1) else (signatorylaw12_EqualSound.j1 kj7 a0 a1 a2 true a3_0 a3_1 a4_0 a4_1)) = some r := H
          have A33 := Aside0.mk A330
          clear A330
          have HC34 := Aside0.mk H
          clear H
          have hnb35 := NB250_251.out
          have hnc35 := NB251_250.out
          have hcz36_0 : wc.cell? ⟨gb250, 0, none⟩ = some (.int .i64 a3_0) := (blk_cell BK250.out 0).trans rfl
          have hcz36_1 : wc.cell? ⟨gb250, 1, none⟩ = some (.int .i64 a3_1) := (blk_cell BK250.out 1).trans rfl
          have hfz36_0 := blk_frozen BK250.out 0
          have hfz36_1 := blk_frozen BK250.out 1
          go_upto_region 7 with (first | ((with_reducible refine gate_callee (f := 20) rfl ?_); refine goesL_ (some 52) rfl rfl Tryd.func20 (by kernel_rfl) rfl #[.int .i64 a0, .int .i64 a1, .int .i64 a2, .agg #[.int .i64 a3_0, .int .i64 a3_1]] rfl (by (try simp only [List.map_toArray, List.map_cons, List.map_nil]); first | done | rfl | (simp only [List.length_drop, List.length_take]; rfl)) ?_; (with_reducible refine (signatoryref12_Commits.calls kj7 a0 a1 a2 a3_0 a3_1 t255 t256 _ A32.out).mono ?_); rintro e w37 ⟨rfl, hb⟩; refine ⟨_, rfl, ?_⟩; have n0_ := Aside0.mk (blk_below (g := gb250) (o := .cells #[.int .i64 a3_0, .int .i64 a3_1] 23 (0, 0)) (by (with_reducible repeat (first | refine blk_drewN ?_ _ | refine blk_drew ?_ | refine blk_alloc ?_ _)); exact BK250.out) hb); have n1_ := Aside0.mk (blk_below (g := gb251) (o := .cells #[.int .i64 a4_0, .int .i64 a4_1] 23 (0, 0)) (by (with_reducible repeat (first | refine blk_drewN ?_ _ | refine blk_drew ?_ | refine blk_alloc ?_ _)); exact BK251.out) hb); have n2_ := Aside0.mk (below_step (by repeat (first | (with_reducible first | exact HB.out | apply below_alloc | apply pw_below_drewN | apply below_drew1 | refine below_set ?_ GE250.out | refine below_set ?_ GE251.out) | exact HB.out)) hb); clear BK250; clear BK251; clear HB; have BK250 := n0_; have BK251 := n1_; have HB := n2_; clear n0_ n1_ n2_; (try clear hb); (try clear hb2); (try clear hk); (try clear hi); have hcz38_0 : w37.cell? ⟨gb251, 0, none⟩ = some (.int .i64 a4_0) := (blk_cell BK251.out 0).trans rfl; have hcz38_1 : w37.cell? ⟨gb251, 1, none⟩ = some (.int .i64 a4_1) := (blk_cell BK251.out 1).trans rfl; have hfz38_0 := blk_frozen BK251.out 0; have hfz38_1 := blk_frozen BK251.out 1) | ((with_reducible refine gate_callee (f := 20) rfl ?_); refine goesL_ (some 60) rfl rfl Tryd.func20 (by kernel_rfl) rfl #[.int .i64 a0, .int .i64 a1, .int .i64 a2, .agg #[.int .i64 a4_0, .int .i64 a4_1]] rfl (by (try simp only [List.map_toArray, List.map_cons, List.map_nil]); first | done | rfl | (simp only [List.length_drop, List.length_take]; rfl)) ?_; (with_reducible refine (signatoryref12_Commits.calls kj7 a0 a1 a2 a4_0 a4_1 t257 t258 _ A33.out).mono ?_); rintro e w39 ⟨rfl, hb⟩; refine ⟨_, rfl, ?_⟩; have n0_ := Aside0.mk (blk_below (g := gb250) (o := .cells #[.int .i64 a3_0, .int .i64 a3_1] 23 (0, 0)) (by (with_reducible repeat (first | refine blk_drewN ?_ _ | refine blk_drew ?_ | refine blk_alloc ?_ _)); exact BK250.out) hb); have n1_ := Aside0.mk (blk_below (g := gb251) (o := .cells #[.int .i64 a4_0, .int .i64 a4_1] 23 (0, 0)) (by (with_reducible repeat (first | refine blk_drewN ?_ _ | refine blk_drew ?_ | refine blk_alloc ?_ _)); exact BK251.out) hb); have n2_ := Aside0.mk (below_step (by repeat (first | (with_reducible first | exact HB.out | apply below_alloc | apply pw_below_drewN | apply below_drew1 | refine below_set ?_ GE250.out | refine below_set ?_ GE251.out) | exact HB.out)) hb); clear BK250; clear BK251; clear HB; have BK250 := n0_; have BK251 := n1_; have HB := n2_; clear n0_ n1_ n2_; (try clear hb); (try clear hb2); (try clear hk); (try clear hi)))
          (try simp only [Act.put, List.setIfInBounds_toArray, List.set_cons_zero, List.set_cons_succ])
          go_cut [70] (fun v70 wc => ∃ (kq : Nat) (x70_33 : Bool), v70 = .bool x70_33 ∧ Aside0 (signatorylaw12_EqualSound.j1 kq a0 a1 a2 x70_33 a3_0 a3_1 a4_0 a4_1 = some r) ∧ Aside0 (kq ≤ kj7) ∧ Aside0 (wc.heap[gb250]? = some (.cells #[.int .i64 a3_0, .int .i64 a3_1] 23 (0, 0))) ∧ Aside0 (wc.heap[gb251]? = some (.cells #[.int .i64 a4_0, .int .i64 a4_1] 23 (0, 0))) ∧ Aside0 (Below w.heap.size w wc))
          case first =>
            have H := HC34.out
            clear HC34
            by_cases c40 : t255 = t257
            · rw [if_pos c40] at H
              have c40b0 : (t255 == t257) = true := beq_iff_eq.mpr c40
              have c40b1 : (t255 != t257) = false := bne_eq_false_iff_eq.mpr c40
              clear c40
              (first | rw [c40b0] | (simp only [i64_w, i32_w]; rw [c40b0]) | skip)
              have H' := Aside0.mk H
              clear H
              go_wp2
              go_meet
              case rel => exact ⟨_, ((t256 != t258)), (by first | rfl | (simp; done) | (simp [*]; done)), H', ⟨by have := HJ7.out; first | omega | exact Nat.le_refl _⟩, ⟨by (with_reducible repeat (first | refine blk_drewN ?_ _ | refine blk_drew ?_ | refine blk_alloc ?_ _)); exact BK250.out⟩, ⟨by (with_reducible repeat (first | refine blk_drewN ?_ _ | refine blk_drew ?_ | refine blk_alloc ?_ _)); exact BK251.out⟩, ⟨by repeat (first | (with_reducible first | exact HB.out | apply below_alloc | apply pw_below_drewN | apply below_drew1 | refine below_set ?_ GE250.out | refine below_set ?_ GE251.out) | exact HB.out)⟩⟩
            · rw [if_neg c40] at H
              have c40b0 : (t255 == t257) = false := beq_eq_false_iff_ne.mpr c40
              have c40b1 : (t255 != t257) = true := bne_iff_ne.mpr c40
              (first | rw [c40b0] | (simp only [i64_w, i32_w]; rw [c40b0]) | skip)
              have H' := Aside0.mk H
              clear H
              go_wp2
              go_meet
              case rel => exact ⟨_, (true), (by first | rfl | (simp; done) | (simp [*]; done)), H', ⟨by have := HJ7.out; first | omega | exact Nat.le_refl _⟩, ⟨by (with_reducible repeat (first | refine blk_drewN ?_ _ | refine blk_drew ?_ | refine blk_alloc ?_ _)); exact BK250.out⟩, ⟨by (with_reducible repeat (first | refine blk_drewN ?_ _ | refine blk_drew ?_ | refine blk_alloc ?_ _)); exact BK251.out⟩, ⟨by repeat (first | (with_reducible first | exact HB.out | apply below_alloc | apply pw_below_drewN | apply below_drew1 | refine below_set ?_ GE250.out | refine below_set ?_ GE251.out) | exact HB.out)⟩⟩
          case rest =>
            clear HC34
            try clear c1
            try clear c2
            try clear p2
            try clear c3
            try clear c4
            try clear c7
            try clear c13
            try clear c14
            try clear c15
            try clear c16
            try clear c19
            try clear c20
            try clear c23
            try clear c28
            try clear c31
            try clear c35
            try clear c40
            try clear c40b0
            try clear c40b1
            try clear hcz17_0
            try clear hcz17_1
            try clear hcz19_0
            try clear hcz19_1
            try clear hcz21_0
            try clear hcz21_1
            try clear hcz22_0
            try clear hcz22_1
            try clear hcz24_0
            try clear hcz24_1
            try clear hcz26_0
            try clear hcz26_1
            try clear hcz29_0
            try clear hcz29_1
            try clear hcz36_0
            try clear hcz36_1
            try clear hcz38_0
            try clear hcz38_1
            try clear hfz17_0
            try clear hfz17_1
            try clear hfz19_0
            try clear hfz19_1
            try clear hfz21_0
            try clear hfz21_1
            try clear hfz22_0
            try clear hfz22_1
            try clear hfz24_0
            try clear hfz24_1
            try clear hfz26_0
            try clear hfz26_1
            try clear hfz29_0
            try clear hfz29_1
            try clear hfz36_0
            try clear hfz36_1
            try clear hfz38_0
            try clear hfz38_1
            try clear p2
            obtain ⟨kq, x70_33, rfl, HA, HJ33, BK250, BK251, HB⟩ := hcut
            cases kq with
            | zero => exact absurd HA.out (by simp [signatorylaw12_EqualSound.j1])
            | succ kj33 =>
              have H := HA.out
              clear HA
              simp only [signatorylaw12_EqualSound.j1] at H
              by_cases c41 : x70_33 = true
              · subst c41
                have H1 : (some true) = some r := by rw [if_pos rfl] at H; exact H
                clear H
                have H := H1
                clear H1
                obtain rfl := Option.some.inj H
                go_wp2
                go_ret
                exact ⟨by first | rfl | (simp [errW_none, errW_some] <;> rfl) | (simp [*, errW_none, errW_some] <;> rfl), by repeat (first | (with_reducible first | exact HB.out | apply below_alloc | apply pw_below_drewN | apply below_drew1 | refine below_set ?_ GE250.out | refine below_set ?_ GE251.out) | exact HB.out)⟩
              · replace c41 := Bool.eq_false_iff.mpr c41
                subst c41
                have H1 : (signatorylaw12_EqualSound.l0 kj33 a0 a1 a2 1 1073741787 (Int.tmod (wrap64 ((wrap64 (a3_0 - a4_0)) + 1073741789)) 1073741789) a3_0 a3_1 a4_0 a4_1) = some r := by rw [if_neg (show ¬ (false = true) by decide)] at H; exact H
                clear H
                have H := H1
                clear H1
                have H' := Aside0.mk H
                clear H
                have hnb42 := NB250_251.out
                have hnc42 := NB251_250.out
                have hcz43_0 : wc.cell? ⟨gb250, 0, none⟩ = some (.int .i64 a3_0) := (blk_cell BK250.out 0).trans rfl
                have hcz43_1 : wc.cell? ⟨gb250, 1, none⟩ = some (.int .i64 a3_1) := (blk_cell BK250.out 1).trans rfl
                have hfz43_0 := blk_frozen BK250.out 0
                have hfz43_1 := blk_frozen BK250.out 1
                have hcz44_0 : wc.cell? ⟨gb251, 0, none⟩ = some (.int .i64 a4_0) := (blk_cell BK251.out 0).trans rfl
                have hcz44_1 : wc.cell? ⟨gb251, 1, none⟩ = some (.int .i64 a4_1) := (blk_cell BK251.out 1).trans rfl
                have hfz44_0 := blk_frozen BK251.out 0
                have hfz44_1 := blk_frozen BK251.out 1
                go_wp2
                go_loopg [16, 17, 18] kj33 (fun kq v16 v17 v18 w' => ∃ (x16_3 : Int) (x17_3 : Int) (x18_3 : Int), v16 = .int .i64 x16_3 ∧ v17 = .int .i64 x17_3 ∧ v18 = .int .i64 x18_3 ∧ Aside0 (signatorylaw12_EqualSound.l0 kq a0 a1 a2 x16_3 x17_3 x18_3 a3_0 a3_1 a4_0 a4_1 = some r) ∧ Aside0 (kq ≤ kj33) ∧ Aside0 (w'.heap[gb250]? = some (.cells #[.int .i64 a3_0, .int .i64 a3_1] 23 (0, 0))) ∧ Aside0 (w'.heap[gb251]? = some (.cells #[.int .i64 a4_0, .int .i64 a4_1] 23 (0, 0))) ∧ Aside0 (Below w.heap.size w w'))
                case atStart => exact ⟨(1), (1073741787), (Int.tmod (wrap64 ((wrap64 (a3_0 - a4_0)) + 1073741789)) 1073741789), (by first | rfl | (simp; done) | (simp [*]; done)), (by first | rfl | (simp; done) | (simp [*]; done)), (by first | rfl | (simp; done) | (simp [*]; done)), H', ⟨Nat.le_refl _⟩, ⟨by (with_reducible repeat (first | refine blk_drewN ?_ _ | refine blk_drew ?_ | refine blk_alloc ?_ _)); exact BK250.out⟩, ⟨by (with_reducible repeat (first | refine blk_drewN ?_ _ | refine blk_drew ?_ | refine blk_alloc ?_ _)); exact BK251.out⟩, ⟨by repeat (first | (with_reducible first | exact HB.out | apply below_alloc | apply pw_below_drewN | apply below_drew1 | refine below_set ?_ GE250.out | refine below_set ?_ GE251.out) | exact HB.out)⟩⟩
                case round =>
                  clear H'
                  try clear c1
                  try clear c2
                  try clear p2
                  try clear c3
                  try clear c4
                  try clear p6
                  try clear c7
                  try clear c13
                  try clear c14
                  try clear c15
                  try clear c16
                  try clear c19
                  try clear c20
                  try clear c23
                  try clear c28
                  try clear c31
                  try clear c35
                  try clear c40
                  try clear c40b0
                  try clear c40b1
                  try clear c41
                  try clear c42
                  try clear hcz17_0
                  try clear hcz17_1
                  try clear hcz19_0
                  try clear hcz19_1
                  try clear hcz21_0
                  try clear hcz21_1
                  try clear hcz22_0
                  try clear hcz22_1
                  try clear hcz24_0
                  try clear hcz24_1
                  try clear hcz26_0
                  try clear hcz26_1
                  try clear hcz29_0
                  try clear hcz29_1
                  try clear hcz36_0
                  try clear hcz36_1
                  try clear hcz38_0
                  try clear hcz38_1
                  try clear hcz43_0
                  try clear hcz43_1
                  try clear hcz44_0
                  try clear hcz44_1
                  try clear hfz17_0
                  try clear hfz17_1
                  try clear hfz19_0
                  try clear hfz19_1
                  try clear hfz21_0
                  try clear hfz21_1
                  try clear hfz22_0
                  try clear hfz22_1
                  try clear hfz24_0
                  try clear hfz24_1
                  try clear hfz26_0
                  try clear hfz26_1
                  try clear hfz29_0
                  try clear hfz29_1
                  try clear hfz36_0
                  try clear hfz36_1
                  try clear hfz38_0
                  try clear hfz38_1
                  try clear hfz43_0
                  try clear hfz43_1
                  try clear hfz44_0
                  try clear hfz44_1
                  try clear p2
                  obtain ⟨x16_3, x17_3, x18_3, rfl, rfl, rfl, HA, HK3, BK250, BK251, HB⟩ := hrel
                  cases gk with
                  | zero => exact absurd HA.out (by simp [signatorylaw12_EqualSound.l0])
                  | succ k3 =>
                    have H := HA.out
                    clear HA
                    simp only [signatorylaw12_EqualSound.l0] at H
                    by_cases c45 : x17_3 > 0
                    · rw [if_pos c45] at H
                      have c45b0 : decide (0 < x17_3) = true := decide_eq_true c45
                      clear c45
                      by_cases c46 : (Int.tmod x17_3 2) = 1
                      · rw [if_pos c46] at H
                        have c46b0 : ((Int.tmod x17_3 2) == 1) = true := beq_iff_eq.mpr c46
                        have c46b1 : ((Int.tmod x17_3 2) != 1) = false := bne_eq_false_iff_eq.mpr c46
                        clear c46
                        have H' := Aside0.mk H
                        clear H
                        go_wp2
                        go_roundg k3
                        case measure => have := HJ7.out; have := HJ33.out; have := HK3.out; omega
                        case rel => exact ⟨(Int.tmod (wrap64 (x16_3 * x18_3)) 1073741789), (wrap64 (Int.tdiv x17_3 2)), (Int.tmod (wrap64 (x18_3 * x18_3)) 1073741789), (by first | rfl | (simp; done) | (simp [*]; done)), (by first | rfl | (simp; done) | (simp [*]; done)), (by first | rfl | (simp; done) | (simp [*]; done)), H', ⟨by have := HJ7.out; have := HJ33.out; have := HK3.out; omega⟩, ⟨by (with_reducible repeat (first | refine blk_drewN ?_ _ | refine blk_drew ?_ | refine blk_alloc ?_ _)); exact BK250.out⟩, ⟨by (with_reducible repeat (first | refine blk_drewN ?_ _ | refine blk_drew ?_ | refine blk_alloc ?_ _)); exact BK251.out⟩, ⟨by repeat (first | (with_reducible first | exact HB.out | apply below_alloc | apply pw_below_drewN | apply below_drew1 | refine below_set ?_ GE250.out | refine below_set ?_ GE251.out) | exact HB.out)⟩⟩
                      · rw [if_neg c46] at H
                        have c46b0 : ((Int.tmod x17_3 2) == 1) = false := beq_eq_false_iff_ne.mpr c46
                        have c46b1 : ((Int.tmod x17_3 2) != 1) = true := bne_iff_ne.mpr c46
                        have H' := Aside0.mk H
                        clear H
                        go_wp2
                        go_roundg k3
                        case measure => have := HJ7.out; have := HJ33.out; have := HK3.out; omega
                        case rel => exact ⟨(x16_3), (wrap64 (Int.tdiv x17_3 2)), (Int.tmod (wrap64 (x18_3 * x18_3)) 1073741789), (by first | rfl | (simp; done) | (simp [*]; done)), (by first | rfl | (simp; done) | (simp [*]; done)), (by first | rfl | (simp; done) | (simp [*]; done)), H', ⟨by have := HJ7.out; have := HJ33.out; have := HK3.out; omega⟩, ⟨by (with_reducible repeat (first | refine blk_drewN ?_ _ | refine blk_drew ?_ | refine blk_alloc ?_ _)); exact BK250.out⟩, ⟨by (with_reducible repeat (first | refine blk_drewN ?_ _ | refine blk_drew ?_ | refine blk_alloc ?_ _)); exact BK251.out⟩, ⟨by repeat (first | (with_reducible first | exact HB.out | apply below_alloc | apply pw_below_drewN | apply below_drew1 | refine below_set ?_ GE250.out | refine below_set ?_ GE251.out) | exact HB.out)⟩⟩
                    · rw [if_neg c45] at H
                      have c45b0 : decide (0 < x17_3) = false := decide_eq_false c45
                      clear c45
                      replace H := Option.bind_eq_some_iff.mp H
                      obtain ⟨⟨t259, t260⟩, A470, H⟩ := H
                      replace H : ((signatorylaw12_power.f k3 a1 (Int.tmod (wrap64 ((Int.tmod (wrap64 ((wrap64 (a3_1 - a4_1)) + 1073741789)) 1073741789) * x16_3)) 1073741789)).bind fun bt261 => (if t260 = true then (if bt261.2 = true then (if t259 = a0 then (some (bt261.1 == a2)) else (some false)) else (some false)) else (some false))) = some r := H
                      have A47 := Aside0.mk A470
                      clear A470
                      replace H := Option.bind_eq_some_iff.mp H
                      obtain ⟨⟨t261, t262⟩, A480, H⟩ := H
                      replace H : (if t260 = true then (if t262 = true then (if t259 = a0 then (some (t261 == a2)) else (some false)) else (some false)) else (some false)) = some r := H
                      have A48 := Aside0.mk A480
                      clear A480
                      by_cases c49 : t260 = true
                      · subst c49
                        have H1 : (if t262 = true then (if t259 = a0 then (some (t261 == a2)) else (some false)) else (some false)) = some r := by rw [if_pos rfl] at H; exact H
                        clear H
                        have H := H1
                        clear H1
                        by_cases c50 : t262 = true
                        · subst c50
                          have H1 : (if t259 = a0 then (some (t261 == a2)) else (some false)) = some r := by rw [if_pos rfl] at H; exact H
                          clear H
                          have H := H1
                          clear H1
                          by_cases c51 : t259 = a0
                          · rw [if_pos c51] at H
                            have c51b0 : (t259 == a0) = true := beq_iff_eq.mpr c51
                            have c51b1 : (t259 != a0) = false := bne_eq_false_iff_eq.mpr c51
                            clear c51
                            obtain rfl := Option.some.inj H
                            have hnb52 := NB250_251.out
                            have hnc52 := NB251_250.out
                            have hcz53_0 : wr.cell? ⟨gb250, 0, none⟩ = some (.int .i64 a3_0) := (blk_cell BK250.out 0).trans rfl
                            have hcz53_1 : wr.cell? ⟨gb250, 1, none⟩ = some (.int .i64 a3_1) := (blk_cell BK250.out 1).trans rfl
                            have hfz53_0 := blk_frozen BK250.out 0
                            have hfz53_1 := blk_frozen BK250.out 1
                            have hcz54_0 : wr.cell? ⟨gb251, 0, none⟩ = some (.int .i64 a4_0) := (blk_cell BK251.out 0).trans rfl
                            have hcz54_1 : wr.cell? ⟨gb251, 1, none⟩ = some (.int .i64 a4_1) := (blk_cell BK251.out 1).trans rfl
                            have hfz54_0 := blk_frozen BK251.out 0
                            have hfz54_1 := blk_frozen BK251.out 1
                            go_wp2_with (first | ((with_reducible refine gate_callee (f := 21) rfl ?_); refine goesL_ (some 106) rfl rfl Tryd.func21 (by kernel_rfl) rfl #[.int .i64 4, .int .i64 (Int.tmod (wrap64 ((Int.tmod (wrap64 ((wrap64 (a3_1 - a4_1)) + 1073741789)) 1073741789) * x16_3)) 1073741789)] rfl (by (try simp only [List.map_toArray, List.map_cons, List.map_nil]); first | done | rfl | (simp only [List.length_drop, List.length_take]; rfl)) ?_; (with_reducible refine (signatorylaw12_power.calls k3 4 (Int.tmod (wrap64 ((Int.tmod (wrap64 ((wrap64 (a3_1 - a4_1)) + 1073741789)) 1073741789) * x16_3)) 1073741789) t259 true _ A47.out).mono ?_); rintro e w55 ⟨rfl, hb⟩; refine ⟨_, rfl, ?_⟩; have n0_ := Aside0.mk (blk_below (g := gb250) (o := .cells #[.int .i64 a3_0, .int .i64 a3_1] 23 (0, 0)) (by (with_reducible repeat (first | refine blk_drewN ?_ _ | refine blk_drew ?_ | refine blk_alloc ?_ _)); exact BK250.out) hb); have n1_ := Aside0.mk (blk_below (g := gb251) (o := .cells #[.int .i64 a4_0, .int .i64 a4_1] 23 (0, 0)) (by (with_reducible repeat (first | refine blk_drewN ?_ _ | refine blk_drew ?_ | refine blk_alloc ?_ _)); exact BK251.out) hb); have n2_ := Aside0.mk (below_step (by repeat (first | (with_reducible first | exact HB.out | apply below_alloc | apply pw_below_drewN | apply below_drew1 | refine below_set ?_ GE250.out | refine below_set ?_ GE251.out) | exact HB.out)) hb); clear BK250; clear BK251; clear HB; have BK250 := n0_; have BK251 := n1_; have HB := n2_; clear n0_ n1_ n2_; (try clear hb); (try clear hb2); (try clear hk); (try clear hi)) | ((with_reducible refine gate_callee (f := 21) rfl ?_); refine goesL_ (some 112) rfl rfl Tryd.func21 (by kernel_rfl) rfl #[.int .i64 a1, .int .i64 (Int.tmod (wrap64 ((Int.tmod (wrap64 ((wrap64 (a3_1 - a4_1)) + 1073741789)) 1073741789) * x16_3)) 1073741789)] rfl (by (try simp only [List.map_toArray, List.map_cons, List.map_nil]); first | done | rfl | (simp only [List.length_drop, List.length_take]; rfl)) ?_; (with_reducible refine (signatorylaw12_power.calls k3 a1 (Int.tmod (wrap64 ((Int.tmod (wrap64 ((wrap64 (a3_1 - a4_1)) + 1073741789)) 1073741789) * x16_3)) 1073741789) t261 true _ A48.out).mono ?_); rintro e w56 ⟨rfl, hb⟩; refine ⟨_, rfl, ?_⟩; have n0_ := Aside0.mk (blk_below (g := gb250) (o := .cells #[.int .i64 a3_0, .int .i64 a3_1] 23 (0, 0)) (by (with_reducible repeat (first | refine blk_drewN ?_ _ | refine blk_drew ?_ | refine blk_alloc ?_ _)); exact BK250.out) hb); have n1_ := Aside0.mk (blk_below (g := gb251) (o := .cells #[.int .i64 a4_0, .int .i64 a4_1] 23 (0, 0)) (by (with_reducible repeat (first | refine blk_drewN ?_ _ | refine blk_drew ?_ | refine blk_alloc ?_ _)); exact BK251.out) hb); have n2_ := Aside0.mk (below_step (by repeat (first | (with_reducible first | exact HB.out | apply below_alloc | apply pw_below_drewN | apply below_drew1 | refine below_set ?_ GE250.out | refine below_set ?_ GE251.out) | exact HB.out)) hb); clear BK250; clear BK251; clear HB; have BK250 := n0_; have BK251 := n1_; have HB := n2_; clear n0_ n1_ n2_; (try clear hb); (try clear hb2); (try clear hk); (try clear hi)))
                            go_ret
                            exact ⟨by first | rfl | (simp [errW_none, errW_some] <;> rfl) | (simp [*, errW_none, errW_some] <;> rfl), by repeat (first | (with_reducible first | exact HB.out | apply below_alloc | apply pw_below_drewN | apply below_drew1 | refine below_set ?_ GE250.out | refine below_set ?_ GE251.out) | exact HB.out)⟩
                          · rw [if_neg c51] at H
                            have c51b0 : (t259 == a0) = false := beq_eq_false_iff_ne.mpr c51
                            have c51b1 : (t259 != a0) = true := bne_iff_ne.mpr c51
                            exact absurd (H.trans (congrArg some HT.out)) (by simp)
                        · replace c50 := Bool.eq_false_iff.mpr c50
                          subst c50
                          have H1 : (some false) = some r := by rw [if_neg (show ¬ (false = true) by decide)] at H; exact H
                          clear H
                          have H := H1
                          clear H1
                          exact absurd (H.trans (congrArg some HT.out)) (by simp)
                      · replace c49 := Bool.eq_false_iff.mpr c49
                        subst c49
                        have H1 : (some false) = some r := by rw [if_neg (show ¬ (false = true) by decide)] at H; exact H
                        clear H
                        have H := H1
                        clear H1
                        exact absurd (H.trans (congrArg some HT.out)) (by simp)
  · replace c7 := Bool.eq_false_iff.mpr c7
    subst c7
    have H1 : (some false) = some r := by rw [if_neg (show ¬ (false = true) by decide)] at H; exact H
    clear H
    have H := H1
    clear H1
    exact absurd (H.trans (congrArg some HT.out)) (by simp)

end Go.Proofs.YthladfegmedpnaaDoor.P

namespace Go.Proofs.YthladfegmedpnaaDoor.P
open Go.RowKit Go.Proofs.YthladfegmedpnaaDoorW.PrintWords Go.Proofs.YthladfegmedpnaaDoorW.PrintLast Go.Proofs.YthladfegmedpnaaDoorW.PrintMore Go.Proofs.YthladfegmedpnaaDoor

/-- a product modulo Q, as Go reckons it. -/
theorem tm_Q (a b : Nat) (ha : a < Nt.Q) (hb : b < Nt.Q) : Int.tmod (wrap64 ((a : Int) * (b : Int))) 1073741789 = ((a * b % Nt.Q : Nat) : Int) := by
  rw [Q_lit] at ha hb
  have h := mul_lt_sq (show a < 2147483579 by omega) (show b < 2147483579 by omega)
  rw [← Int.natCast_mul]
  generalize a * b = m at h
  have e : wrap64 (m : Int) = (m : Int) := by unfold wrap64; omega
  rw [e, Int.tmod_eq_emod_of_nonneg (by omega), Q_lit]
  omega

/-- the end of the law, once the inverse is there. -/
def soundEnd (k : Nat) (key a d s s' : Int) (inv : Int) : Option Bool :=
  (signatorylaw12_power.f k 4 (Int.tmod (wrap64 ((Int.tmod (wrap64 ((wrap64 (s - s')) + 1073741789)) 1073741789) * inv)) 1073741789)).bind fun bt259 => ((signatorylaw12_power.f k a (Int.tmod (wrap64 ((Int.tmod (wrap64 ((wrap64 (s - s')) + 1073741789)) 1073741789) * inv)) 1073741789)).bind fun bt261 => (if bt259.2 = true then (if bt261.2 = true then (if bt259.1 = key then (some (bt261.1 == d)) else (some false)) else (some false)) else (some false)))

theorem sound_l0 (key a d e s e' s' : Int) (fin : ∀ k inv, 50 ≤ k → inv = 0 → True) : ∀ (m k b n c : Nat), n < 2 ^ m → m + 50 ≤ k → m ≤ 60 → b < Nt.Q → c < Nt.Q →
    (∀ j, 49 ≤ j → soundEnd j key a d s s' ((c * b ^ n % Nt.Q : Nat) : Int) = some true) → signatorylaw12_EqualSound.l0 k key a d (c : Int) (n : Int) (b : Int) e s e' s' = some true
  | 0, k, b, n, c, h, hk, hm, hb, hc, hE => by
    obtain ⟨k, rfl⟩ : ∃ j, k = j + 1 := ⟨k - 1, by omega⟩
    obtain rfl : n = 0 := by simp at h; exact h
    have := hE k (by omega)
    rw [Nat.pow_zero, Nat.mul_one, Nat.mod_eq_of_lt hc] at this
    rw [signatorylaw12_EqualSound.l0, if_neg (by omega)]
    exact this
  | m + 1, k, b, n, c, h, hk, hm, hb, hc, hE => by
    obtain ⟨k, rfl⟩ : ∃ j, k = j + 1 := ⟨k - 1, by omega⟩
    have h62 : n < 4611686018427387904 := Nat.lt_of_lt_of_le h (Nat.pow_le_pow_right (by omega) (by omega : m + 1 ≤ 62))
    rw [signatorylaw12_EqualSound.l0]
    by_cases h0 : n = 0
    · subst h0
      have := hE k (by omega)
      rw [Nat.pow_zero, Nat.mul_one, Nat.mod_eq_of_lt hc] at this
      rw [if_neg (by omega)]
      exact this
    · rw [if_pos (by omega), tmod2, tdiv2 n h62, tm_Q b b hb hb, tm_Q c b hc hb]
      have hlt : n / 2 < 2 ^ m := by rw [Nat.pow_succ] at h; omega
      have hp : ∀ c', c' * (b * b % Nt.Q) ^ (n / 2) % Nt.Q = c' * b ^ (2 * (n / 2)) % Nt.Q := fun c' => by
        rw [Nat.mul_mod, ← Nat.pow_mod, ← Nat.mul_mod, ← Nat.pow_two, ← Nat.pow_mul]
      have hb2 : b * b % Nt.Q < Nt.Q := Nat.mod_lt _ Nt.Q_pos
      by_cases ho : n % 2 = 1
      · rw [if_pos (by omega)]
        refine sound_l0 key a d e s e' s' fin m k _ _ _ hlt (by omega) (by omega) hb2 (Nat.mod_lt _ Nt.Q_pos) fun j hj => ?_
        have := hE j hj
        rw [hp, Nat.mod_mul_mod, Nat.mul_assoc, ← Nat.pow_succ', show (2 * (n / 2)).succ = n from by omega]
        exact this
      · rw [if_neg (by omega)]
        refine sound_l0 key a d e s e' s' fin m k _ _ _ hlt (by omega) (by omega) hb2 hc fun j hj => ?_
        have := hE j hj
        rw [hp, show 2 * (n / 2) = n from by omega]
        exact this

/-- a difference modulo Q, as Go reckons it. -/
theorem dif_Q {x y : Int} (hx : inQ x = true) (hy : inQ y = true) : Int.tmod (wrap64 ((wrap64 (x - y)) + 1073741789)) 1073741789 = (x - y) % 1073741789 := by
  have h1 := inQ_iff.1 hx
  have h2 := inQ_iff.1 hy
  have e1 : wrap64 (x - y) = x - y := by unfold wrap64; omega
  have e2 : wrap64 (x - y + 1073741789) = x - y + 1073741789 := by unfold wrap64; omega
  rw [e1, e2, Int.tmod_eq_emod_of_nonneg (by omega)]
  omega

/-- Two answers to one commitment: the base's power is the statement's. -/
theorem two_answers {g y : Int} (hg : vld g = true) (hy : vld y = true) {s e s' e' : Int} (h : mulz (pwz g s) (pwz y (-e)) = mulz (pwz g s') (pwz y (-e'))) : pwz g (s - s') = pwz y (e - e') := by
  have h1 : mulz (mulz (pwz g s) (pwz y (-e))) (mulz (pwz g (-s')) (pwz y e)) = pwz g (s - s') := by
    have e1 : mulz (mulz (pwz g s) (pwz y (-e))) (mulz (pwz g (-s')) (pwz y e)) = mulz (mulz (pwz g s) (pwz g (-s'))) (mulz (pwz y (-e)) (pwz y e)) := by
      rw [mulz_assoc, mulz_assoc, ← mulz_assoc (pwz y (-e)), mulz_comm (pwz y (-e)) (pwz g (-s')), mulz_assoc]
    rw [e1, ← pwz_add hg, ← pwz_add hy, Int.add_left_neg, pwz_zero, mulz_comm, mulz_one (vld_pw hg _), Int.sub_eq_add_neg]
  have h2 : mulz (mulz (pwz g s') (pwz y (-e'))) (mulz (pwz g (-s')) (pwz y e)) = pwz y (e - e') := by
    have e1 : mulz (mulz (pwz g s') (pwz y (-e'))) (mulz (pwz g (-s')) (pwz y e)) = mulz (mulz (pwz g s') (pwz g (-s'))) (mulz (pwz y (-e')) (pwz y e)) := by
      rw [mulz_assoc, mulz_assoc, ← mulz_assoc (pwz y (-e')), mulz_comm (pwz y (-e')) (pwz g (-s')), mulz_assoc]
    rw [e1, ← pwz_add hg, ← pwz_add hy, Int.add_right_neg, pwz_zero, mulz_one (vld_pw hy _)]
    exact pwz_congr y (by congr 1; omega)
  rw [← h1, ← h2, h]

theorem i64_emod (n : Int) : i64 (n % 1073741789) := ⟨by omega, by omega⟩

/-- What the quotient of the differences gives. -/
theorem quotient {g y : Int} (hg : vld g = true) (hy : vld y = true) {ds de : Int} (h : pwz g ds = pwz y de) (inv : Int) (hi : de * inv % 1073741789 = 1) : pwz g (ds * inv) = y := by
  rw [pwz_mul hg, h, ← pwz_mul hy, pwz_congr y (show de * inv % 1073741789 = 1 % 1073741789 from hi), pwz_one hy]

theorem EqualSound_f (key a d e s e' s' : Int) : signatorylaw12_EqualSound.f 200 key a d e s e' s' = some true := by
  have jt : ∀ k, 1 ≤ k → signatorylaw12_EqualSound.j0 k key a d true e s e' s' = some true := fun k hk => by
    obtain ⟨k, rfl⟩ : ∃ j, k = j + 1 := ⟨k - 1, by omega⟩
    rw [signatorylaw12_EqualSound.j0, if_pos rfl]
  unfold signatorylaw12_EqualSound.f
  rw [sane12 200 (by decide), Option.bind_some, if_pos rfl, ref12_Formed_f 200 (by decide), Option.bind_some]
  cases hf : frm key a d e s
  · rw [if_neg (by decide)]; exact jt 200 (by decide)
  · rw [if_pos rfl, ref12_Formed_f 200 (by decide), Option.bind_some]
    cases hf' : frm key a d e' s'
    · rw [if_neg (by decide)]; exact jt 200 (by decide)
    · rw [if_pos rfl]
      by_cases hne : e = e'
      · rw [show (e == e') = true from beq_iff_eq.2 hne]; exact jt 200 (by decide)
      · obtain ⟨h1, h2, h3, h4, h5⟩ := frm_iff.1 hf
        obtain ⟨_, _, _, h4', h5'⟩ := frm_iff.1 hf'
        rw [show (e == e') = false from beq_eq_false_iff_ne.2 hne, signatorylaw12_EqualSound.j0, if_neg (by decide), ref12_Commits_f _ (by decide) hf, Option.bind_some, ref12_Commits_f _ (by decide) hf', Option.bind_some]
        have j1t : ∀ k, 1 ≤ k → signatorylaw12_EqualSound.j1 k key a d true e s e' s' = some true := fun k hk => by
          obtain ⟨k, rfl⟩ : ∃ j, k = j + 1 := ⟨k - 1, by omega⟩
          rw [signatorylaw12_EqualSound.j1, if_pos rfl]
        by_cases hr : comR key e s = comR key e' s'
        · rw [if_pos hr]
          by_cases hs : comS a d e s = comS a d e' s'
          · rw [show (comS a d e s != comS a d e' s') = false by rw [hs]; exact bne_self_eq_false _, signatorylaw12_EqualSound.j1, if_neg (by decide), dif_Q h4 h4']
            have t1 := two_answers vld_four h1 hr
            have t2 := two_answers h2 h3 hs
            have q1 := inQ_iff.1 h4
            have q2 := inQ_iff.1 h4'
            obtain ⟨n, hn⟩ := Int.eq_ofNat_of_zero_le (Int.emod_nonneg (e - e') (show (1073741789 : Int) ≠ 0 by decide))
            have hlt := Int.emod_lt_of_pos (e - e') (show (0 : Int) < 1073741789 by decide)
            have hnq : n < Nt.Q := by rw [Q_lit]; omega
            have hi := Nt.inv_Q (n := n) (by omega) hnq
            rw [hn]
            refine sound_l0 key a d e s e' s' (fun _ _ _ _ => trivial) 31 _ n (Nt.Q - 2) 1 (by decide) (by decide) (by decide) hnq (by decide) fun j hj => ?_
            rw [Nat.one_mul]
            have hiq : n ^ (Nt.Q - 2) % Nt.Q < Nt.Q := Nat.mod_lt _ Nt.Q_pos
            generalize n ^ (Nt.Q - 2) % Nt.Q = i at hi hiq
            have hd : (e - e') * (i : Int) % 1073741789 = 1 := by
              rw [mod_mul_Q, hn, ← Int.natCast_mul]
              rw [Q_lit] at hi
              omega
            unfold soundEnd
            rw [dif_Q h5 h5']
            obtain ⟨m, hm⟩ := Int.eq_ofNat_of_zero_le (Int.emod_nonneg (s - s') (show (1073741789 : Int) ≠ 0 by decide))
            have hmlt := Int.emod_lt_of_pos (s - s') (show (0 : Int) < 1073741789 by decide)
            have hmq : m < Nt.Q := by rw [Q_lit]; omega
            rw [hm, tm_Q m i hmq hiq]
            have hx : ((m * i % Nt.Q : Nat) : Int) % 1073741789 = ((s - s') * (i : Int)) % 1073741789 := by
              rw [mod_mul_Q, hm, ← Int.natCast_mul, Q_lit]
              omega
            have hxi : i64 ((m * i % Nt.Q : Nat) : Int) := by
              have := Nat.mod_lt (m * i) Nt.Q_pos
              rw [Q_lit] at this ⊢
              exact ⟨by omega, by omega⟩
            rw [power12_f j (by omega) 4 _ vld_four hxi, Option.bind_some, power12_f j (by omega) a _ h2 hxi, Option.bind_some, if_pos rfl, if_pos rfl]
            rw [pwz_congr 4 hx, pwz_congr a hx, quotient vld_four h1 t1 _ hd, quotient h2 h3 t2 _ hd, if_pos rfl]
            rw [show (d == d) = true from beq_self_eq_true d]
          · rw [show (comS a d e s != comS a d e' s') = true from bne_iff_ne.2 hs]; exact j1t _ (by decide)
        · rw [if_neg hr]; exact j1t _ (by decide)

end Go.Proofs.YthladfegmedpnaaDoor.P
