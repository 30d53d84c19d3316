import Derived.Test.YthladfegmedpnaaDoorC4
import Derived.Test.YthladfegmedpnaaDoorC16
import Derived.Test.YthladfegmedpnaaDoorC15
set_option linter.unusedVariables false
set_option linter.unusedSimpArgs false
namespace Go.Proofs.YthladfegmedpnaaDoor.P
open Go.RowKit Go.Proofs.YthladfegmedpnaaDoorW.PrintWords Go.Proofs.YthladfegmedpnaaDoorW.PrintLast Go.Proofs.YthladfegmedpnaaDoorW.PrintMore
attribute [local go_sem] max2_int min2_int max_two min_two max_three min_three max_four min_four
set_option linter.unusedVariables false
set_option linter.unusedSimpArgs false

attribute [local go_sem high] eqA23
/-! ### signatorylaw12_EqualProves: function 5 -/
mutual
def signatorylaw12_EqualProves.j0 : Nat → Int → Int → Int → Int → Bool → Int → Int → Option (Bool)
  | 0, _, _, _, _, _, _, _ => none
  | k + 1, x1, x2, x7, x10, x86, x269000, x269001 => if x86 = true then (some false) else ((signatoryref10_Valid.f k x2).bind fun t276 => (if t276 = true then (if x2 = x7 then (signatorylaw12_EqualProves.j1 k x1 x2 x7 x10 true x269000 x269001) else (signatorylaw12_EqualProves.j1 k x1 x2 x7 x10 (x269000 == 0) x269000 x269001)) else (signatorylaw12_EqualProves.j1 k x1 x2 x7 x10 true x269000 x269001)))
def signatorylaw12_EqualProves.j1 : Nat → Int → Int → Int → Int → Bool → Int → Int → Option (Bool)
  | 0, _, _, _, _, _, _, _ => none
  | k + 1, x1, x2, x7, x10, x99, x269000, x269001 => if x99 = true then (some true) else ((signatoryref12_Commits.f k x10 x1 x7 x269000 x269001).bind fun bt277 => ((signatoryref12_Commits.f k x10 x1 x2 x269000 x269001).bind fun bt279 => (if bt277.1 = bt279.1 then (some (bt277.2 != bt279.2)) else (some false))))
end
def signatorylaw12_EqualProves.f (k : Nat) (a0 : Int) (a1 : Int) (a2 : Int) : Option (Bool) := (signatorylaw12_sane.f k).bind fun t263 => (if t263 = true then ((equal_Prove.f k a0 a1).bind fun bt264 => (if bt264.2.2.2 = 0 then ((signatorylaw12_power.f k 4 a0).bind fun bt270 => ((signatorylaw12_power.f k a1 a0).bind fun bt272 => (if bt270.2 = true then (if bt272.2 = true then (if bt272.1 = bt264.1 then ((signatoryref12_Formed.f k bt270.1 a1 bt264.1 bt264.2.1 bt264.2.2.1).bind fun t274 => (if t274 = true then ((equal_Check.f bt270.1 a1 bt264.1 bt264.2.1 bt264.2.2.1).bind fun t275 => (signatorylaw12_EqualProves.j0 k a1 a2 bt264.1 bt270.1 (!t275) bt264.2.1 bt264.2.2.1)) else (signatorylaw12_EqualProves.j0 k a1 a2 bt264.1 bt270.1 true bt264.2.1 bt264.2.2.1))) else (signatorylaw12_EqualProves.j0 k a1 a2 bt264.1 bt270.1 true bt264.2.1 bt264.2.2.1)) else (signatorylaw12_EqualProves.j0 k a1 a2 bt264.1 bt270.1 true bt264.2.1 bt264.2.2.1)) else (signatorylaw12_EqualProves.j0 k a1 a2 bt264.1 bt270.1 true bt264.2.1 bt264.2.2.1)))) else (if bt264.1 = 0 then (if (bt264.2.1 == 0 && (bt264.2.2.1 == 0)) = true then (if a0 < 1 then (some true) else (if a0 ≥ 1073741789 then (some true) else ((signatoryref10_Valid.f k a1).bind fun t269 => (some (!t269))))) else (some false)) else (some false)))) else (some false))
theorem signatorylaw12_EqualProves.mono_l : ∀ k, (∀ y0 y1 y2 y3 y4 y5 y6, LeO (signatorylaw12_EqualProves.j0 k y0 y1 y2 y3 y4 y5 y6) (signatorylaw12_EqualProves.j0 (k + 1) y0 y1 y2 y3 y4 y5 y6)) ∧ (∀ y0 y1 y2 y3 y4 y5 y6, LeO (signatorylaw12_EqualProves.j1 k y0 y1 y2 y3 y4 y5 y6) (signatorylaw12_EqualProves.j1 (k + 1) y0 y1 y2 y3 y4 y5 y6))
  | 0 => ⟨fun _ _ _ _ _ _ _ r h => by simp [signatorylaw12_EqualProves.j0] at h, fun _ _ _ _ _ _ _ r h => by simp [signatorylaw12_EqualProves.j1] at h⟩
  | k + 1 => by
    obtain ⟨ih0, ih1⟩ := signatorylaw12_EqualProves.mono_l k
    refine ⟨?_, ?_⟩
    · intro y0 y1 y2 y3 y4 y5 y6
      unfold signatorylaw12_EqualProves.j0
      repeat' first
      | (with_reducible exact ih0 _ _ _ _ _ _ _)
      | (with_reducible exact ih1 _ _ _ _ _ _ _)
      | (with_reducible exact equal_Prove.mono _ _ _)
      | (with_reducible exact signatorylaw12_power.mono _ _ _)
      | (with_reducible exact signatorylaw12_sane.mono _)
      | (with_reducible exact signatoryref10_Valid.mono _ _)
      | (with_reducible exact signatoryref12_Commits.mono _ _ _ _ _ _)
      | (with_reducible exact signatoryref12_Formed.mono _ _ _ _ _ _)
      | (with_reducible exact LeO.refl _)
      | (with_reducible exact LeO.none _)
      | (with_reducible refine LeO.ite ?_ ?_)
      | (with_reducible refine LeO.bind ?_ (fun _ => ?_))
      | exact ih0 _ _ _ _ _ _ _
      | exact ih1 _ _ _ _ _ _ _
      | exact equal_Prove.mono _ _ _
      | exact signatorylaw12_power.mono _ _ _
      | exact signatorylaw12_sane.mono _
      | exact signatoryref10_Valid.mono _ _
      | exact signatoryref12_Commits.mono _ _ _ _ _ _
      | exact signatoryref12_Formed.mono _ _ _ _ _ _
      | exact LeO.none _
      | refine LeO.ite ?_ ?_
      | refine LeO.bind ?_ (fun _ => ?_)
    · intro y0 y1 y2 y3 y4 y5 y6
      unfold signatorylaw12_EqualProves.j1
      repeat' first
      | (with_reducible exact ih0 _ _ _ _ _ _ _)
      | (with_reducible exact ih1 _ _ _ _ _ _ _)
      | (with_reducible exact equal_Prove.mono _ _ _)
      | (with_reducible exact signatorylaw12_power.mono _ _ _)
      | (with_reducible exact signatorylaw12_sane.mono _)
      | (with_reducible exact signatoryref10_Valid.mono _ _)
      | (with_reducible exact signatoryref12_Commits.mono _ _ _ _ _ _)
      | (with_reducible exact signatoryref12_Formed.mono _ _ _ _ _ _)
      | (with_reducible exact LeO.refl _)
      | (with_reducible exact LeO.none _)
      | (with_reducible refine LeO.ite ?_ ?_)
      | (with_reducible refine LeO.bind ?_ (fun _ => ?_))
      | exact ih0 _ _ _ _ _ _ _
      | exact ih1 _ _ _ _ _ _ _
      | exact equal_Prove.mono _ _ _
      | exact signatorylaw12_power.mono _ _ _
      | exact signatorylaw12_sane.mono _
      | exact signatoryref10_Valid.mono _ _
      | exact signatoryref12_Commits.mono _ _ _ _ _ _
      | exact signatoryref12_Formed.mono _ _ _ _ _ _
      | exact LeO.none _
      | refine LeO.ite ?_ ?_
      | refine LeO.bind ?_ (fun _ => ?_)
theorem signatorylaw12_EqualProves.mono : ∀ a0 a1 a2 k, LeO (signatorylaw12_EqualProves.f k a0 a1 a2) (signatorylaw12_EqualProves.f (k + 1) a0 a1 a2) := by
  intro a0 a1 a2 k
  obtain ⟨ih0, ih1⟩ := signatorylaw12_EqualProves.mono_l k
  unfold signatorylaw12_EqualProves.f
  repeat' first
      | (with_reducible exact ih0 _ _ _ _ _ _ _)
      | (with_reducible exact ih1 _ _ _ _ _ _ _)
      | (with_reducible exact equal_Prove.mono _ _ _)
      | (with_reducible exact signatorylaw12_power.mono _ _ _)
      | (with_reducible exact signatorylaw12_sane.mono _)
      | (with_reducible exact signatoryref10_Valid.mono _ _)
      | (with_reducible exact signatoryref12_Commits.mono _ _ _ _ _ _)
      | (with_reducible exact signatoryref12_Formed.mono _ _ _ _ _ _)
      | (with_reducible exact LeO.refl _)
      | (with_reducible exact LeO.none _)
      | (with_reducible refine LeO.ite ?_ ?_)
      | (with_reducible refine LeO.bind ?_ (fun _ => ?_))
      | exact ih0 _ _ _ _ _ _ _
      | exact ih1 _ _ _ _ _ _ _
      | exact equal_Prove.mono _ _ _
      | exact signatorylaw12_power.mono _ _ _
      | exact signatorylaw12_sane.mono _
      | exact signatoryref10_Valid.mono _ _
      | exact signatoryref12_Commits.mono _ _ _ _ _ _
      | exact signatoryref12_Formed.mono _ _ _ _ _ _
      | exact LeO.none _
      | refine LeO.ite ?_ ?_
      | refine LeO.bind ?_ (fun _ => ?_)
set_option maxHeartbeats 8000000 in
set_option maxRecDepth 100000 in
theorem signatorylaw12_EqualProves.calls (k : Nat) (a0 : Int) (a1 : Int) (a2 : Int) (r : Bool) (w : World) (h : signatorylaw12_EqualProves.f k a0 a1 a2 = some r) (hT : r = true := by rfl) (hG : Glob w := by first | exact hG | exact Glob.below hG HB.out | exact Glob.below hG (by repeat (first | (with_reducible first | exact HB.out | apply below_alloc | apply pw_below_drewN | apply below_drew1 | refine below_set ?_ (Aside0.out (by assumption))) | exact HB.out))) :
    Calls Tryd.prog 5 #[.int .i64 a0, .int .i64 a1, .int .i64 a2] w fun e w' => e = .returned (.bool r) ∧ Below w.heap.size w w' := by
  have HT := Aside0.mk hT
  clear hT
  have hu23 := Tryd.underlying23
  have HB := Aside0.mk (Below.refl w.heap.size w)
  have H : ((signatorylaw12_sane.f k).bind fun t263 => (if t263 = true then ((equal_Prove.f k a0 a1).bind fun bt264 => (if bt264.2.2.2 = 0 then ((signatorylaw12_power.f k 4 a0).bind fun bt270 => ((signatorylaw12_power.f k a1 a0).bind fun bt272 => (if bt270.2 = true then (if bt272.2 = true then (if bt272.1 = bt264.1 then ((signatoryref12_Formed.f k bt270.1 a1 bt264.1 bt264.2.1 bt264.2.2.1).bind fun t274 => (if t274 = true then ((equal_Check.f bt270.1 a1 bt264.1 bt264.2.1 bt264.2.2.1).bind fun t275 => (signatorylaw12_EqualProves.j0 k a1 a2 bt264.1 bt270.1 (!t275) bt264.2.1 bt264.2.2.1)) else (signatorylaw12_EqualProves.j0 k a1 a2 bt264.1 bt270.1 true bt264.2.1 bt264.2.2.1))) else (signatorylaw12_EqualProves.j0 k a1 a2 bt264.1 bt270.1 true bt264.2.1 bt264.2.2.1)) else (signatorylaw12_EqualProves.j0 k a1 a2 bt264.1 bt270.1 true bt264.2.1 bt264.2.2.1)) else (signatorylaw12_EqualProves.j0 k a1 a2 bt264.1 bt270.1 true bt264.2.1 bt264.2.2.1)))) else (if bt264.1 = 0 then (if (bt264.2.1 == 0 && (bt264.2.2.1 == 0)) = true then (if a0 < 1 then (some true) else (if a0 ≥ 1073741789 then (some true) else ((signatoryref10_Valid.f k a1).bind fun t269 => (some (!t269))))) else (some false)) else (some false)))) else (some false))) = some r := h
  clear h
  replace H := Option.bind_eq_some_iff.mp H
  obtain ⟨t263, A40, H⟩ := H
  replace H : (if t263 = true then ((equal_Prove.f k a0 a1).bind fun bt264 => (if bt264.2.2.2 = 0 then ((signatorylaw12_power.f k 4 a0).bind fun bt270 => ((signatorylaw12_power.f k a1 a0).bind fun bt272 => (if bt270.2 = true then (if bt272.2 = true then (if bt272.1 = bt264.1 then ((signatoryref12_Formed.f k bt270.1 a1 bt264.1 bt264.2.1 bt264.2.2.1).bind fun t274 => (if t274 = true then ((equal_Check.f bt270.1 a1 bt264.1 bt264.2.1 bt264.2.2.1).bind fun t275 => (signatorylaw12_EqualProves.j0 k a1 a2 bt264.1 bt270.1 (!t275) bt264.2.1 bt264.2.2.1)) else (signatorylaw12_EqualProves.j0 k a1 a2 bt264.1 bt270.1 true bt264.2.1 bt264.2.2.1))) else (signatorylaw12_EqualProves.j0 k a1 a2 bt264.1 bt270.1 true bt264.2.1 bt264.2.2.1)) else (signatorylaw12_EqualProves.j0 k a1 a2 bt264.1 bt270.1 true bt264.2.1 bt264.2.2.1)) else (signatorylaw12_EqualProves.j0 k a1 a2 bt264.1 bt270.1 true bt264.2.1 bt264.2.2.1)))) else (if bt264.1 = 0 then (if (bt264.2.1 == 0 && (bt264.2.2.1 == 0)) = true then (if a0 < 1 then (some true) else (if a0 ≥ 1073741789 then (some true) else ((signatoryref10_Valid.f k a1).bind fun t269 => (some (!t269))))) else (some false)) else (some false)))) else (some false)) = some r := H
  have A4 := Aside0.mk A40
  clear A40
  by_cases c5 : t263 = true
  · subst c5
    have H1 : ((equal_Prove.f k a0 a1).bind fun bt264 => (if bt264.2.2.2 = 0 then ((signatorylaw12_power.f k 4 a0).bind fun bt270 => ((signatorylaw12_power.f k a1 a0).bind fun bt272 => (if bt270.2 = true then (if bt272.2 = true then (if bt272.1 = bt264.1 then ((signatoryref12_Formed.f k bt270.1 a1 bt264.1 bt264.2.1 bt264.2.2.1).bind fun t274 => (if t274 = true then ((equal_Check.f bt270.1 a1 bt264.1 bt264.2.1 bt264.2.2.1).bind fun t275 => (signatorylaw12_EqualProves.j0 k a1 a2 bt264.1 bt270.1 (!t275) bt264.2.1 bt264.2.2.1)) else (signatorylaw12_EqualProves.j0 k a1 a2 bt264.1 bt270.1 true bt264.2.1 bt264.2.2.1))) else (signatorylaw12_EqualProves.j0 k a1 a2 bt264.1 bt270.1 true bt264.2.1 bt264.2.2.1)) else (signatorylaw12_EqualProves.j0 k a1 a2 bt264.1 bt270.1 true bt264.2.1 bt264.2.2.1)) else (signatorylaw12_EqualProves.j0 k a1 a2 bt264.1 bt270.1 true bt264.2.1 bt264.2.2.1)))) else (if bt264.1 = 0 then (if (bt264.2.1 == 0 && (bt264.2.2.1 == 0)) = true then (if a0 < 1 then (some true) else (if a0 ≥ 1073741789 then (some true) else ((signatoryref10_Valid.f k a1).bind fun t269 => (some (!t269))))) else (some false)) else (some false)))) = some r := by rw [if_pos rfl] at H; exact H
    clear H
    have H := H1
    clear H1
    replace H := Option.bind_eq_some_iff.mp H
    obtain ⟨⟨t264, t265, t266, t267⟩, A60, H⟩ := H
    replace H : (if t267 = 0 then ((signatorylaw12_power.f k 4 a0).bind fun bt270 => ((signatorylaw12_power.f k a1 a0).bind fun bt272 => (if bt270.2 = true then (if bt272.2 = true then (if bt272.1 = t264 then ((signatoryref12_Formed.f k bt270.1 a1 t264 t265 t266).bind fun t274 => (if t274 = true then ((equal_Check.f bt270.1 a1 t264 t265 t266).bind fun t275 => (signatorylaw12_EqualProves.j0 k a1 a2 t264 bt270.1 (!t275) t265 t266)) else (signatorylaw12_EqualProves.j0 k a1 a2 t264 bt270.1 true t265 t266))) else (signatorylaw12_EqualProves.j0 k a1 a2 t264 bt270.1 true t265 t266)) else (signatorylaw12_EqualProves.j0 k a1 a2 t264 bt270.1 true t265 t266)) else (signatorylaw12_EqualProves.j0 k a1 a2 t264 bt270.1 true t265 t266)))) else (if t264 = 0 then (if (t265 == 0 && (t266 == 0)) = true then (if a0 < 1 then (some true) else (if a0 ≥ 1073741789 then (some true) else ((signatoryref10_Valid.f k a1).bind fun t269 => (some (!t269))))) else (some false)) else (some false))) = some r := H
    have A6 := Aside0.mk A60
    clear A60
    by_cases c7 : t267 = 0
    · rw [if_pos c7] at H
      have c7b0 : (t267 == 0) = true := beq_iff_eq.mpr c7
      have c7b1 : (t267 != 0) = false := bne_eq_false_iff_eq.mpr c7
      clear c7
      replace H := Option.bind_eq_some_iff.mp H
      obtain ⟨⟨t270, t271⟩, A80, H⟩ := H
      replace H : ((signatorylaw12_power.f k a1 a0).bind fun bt272 => (if t271 = true then (if bt272.2 = true then (if bt272.1 = t264 then ((signatoryref12_Formed.f k t270 a1 t264 t265 t266).bind fun t274 => (if t274 = true then ((equal_Check.f t270 a1 t264 t265 t266).bind fun t275 => (signatorylaw12_EqualProves.j0 k a1 a2 t264 t270 (!t275) t265 t266)) else (signatorylaw12_EqualProves.j0 k a1 a2 t264 t270 true t265 t266))) else (signatorylaw12_EqualProves.j0 k a1 a2 t264 t270 true t265 t266)) else (signatorylaw12_EqualProves.j0 k a1 a2 t264 t270 true t265 t266)) else (signatorylaw12_EqualProves.j0 k a1 a2 t264 t270 true t265 t266))) = some r := H
      have A8 := Aside0.mk A80
      clear A80
      replace H := Option.bind_eq_some_iff.mp H
      obtain ⟨⟨t272, t273⟩, A90, H⟩ := H
      replace H : (if t271 = true then (if t273 = true then (if t272 = t264 then ((signatoryref12_Formed.f k t270 a1 t264 t265 t266).bind fun t274 => (if t274 = true then ((equal_Check.f t270 a1 t264 t265 t266).bind fun t275 => (signatorylaw12_EqualProves.j0 k a1 a2 t264 t270 (!t275) t265 t266)) else (signatorylaw12_EqualProves.j0 k a1 a2 t264 t270 true t265 t266))) else (signatorylaw12_EqualProves.j0 k a1 a2 t264 t270 true t265 t266)) else (signatorylaw12_EqualProves.j0 k a1 a2 t264 t270 true t265 t266)) else (signatorylaw12_EqualProves.j0 k a1 a2 t264 t270 true t265 t266)) = some r := H
      have A9 := Aside0.mk A90
      clear A90
      have HC10 := Aside0.mk H
      clear H
      go_enter Tryd.func5, Tryd.ntmps5
      go_upto_region 8 with (first | ((with_reducible refine gate_callee (f := 14) rfl ?_); refine goesL_ (some 18) rfl rfl Tryd.func14 (by kernel_rfl) rfl #[] rfl (by (try simp only [List.map_toArray, List.map_cons, List.map_nil]); first | done | rfl | (simp only [List.length_drop, List.length_take]; rfl)) ?_; (with_reducible refine (signatorylaw12_sane.calls k  true _ A4.out).mono ?_); rintro e w11 ⟨rfl, hb⟩; refine ⟨_, rfl, ?_⟩; have n0_ := Aside0.mk (below_step (by repeat (first | (with_reducible first | exact HB.out | apply below_alloc | apply pw_below_drewN | apply below_drew1) | exact HB.out)) hb); clear HB; have HB := n0_; clear n0_; (try clear hb); (try clear hb2); (try clear hk); (try clear hi)) | ((with_reducible refine gate_callee (f := 15) rfl ?_); refine goesL_ (some 23) rfl rfl Tryd.func15 (by kernel_rfl) rfl #[.int .i64 a0, .int .i64 a1] rfl (by (try simp only [List.map_toArray, List.map_cons, List.map_nil]); first | done | rfl | (simp only [List.length_drop, List.length_take]; rfl)) ?_; (with_reducible refine (equal_Prove.calls k a0 a1 t264 t265 t266 t267 _ A6.out).mono ?_); rintro e w12 ⟨rfl, hb⟩; refine ⟨_, rfl, ?_⟩; have n0_ := Aside0.mk (below_step (by repeat (first | (with_reducible first | exact HB.out | apply below_alloc | apply pw_below_drewN | apply below_drew1) | exact HB.out)) hb); clear HB; have HB := n0_; clear n0_; (try clear hb); (try clear hb2); (try clear hk); (try clear hi)) | ((with_reducible refine gate_dst (N := 8) rfl ?_); refine box_event ?hg (N := 8) ?hd (cs := #[.int .i64 0, .int .i64 0]) (t := 23) ?hr ?_; (case hd => rfl); (case hg => rfl); (case hr => first | (go_simp; done) | (go_simp; rfl)); intro gb268 hg w13 hbox hb; have n0_ := Aside0.mk (below_step (by repeat (first | (with_reducible first | exact HB.out | apply below_alloc | apply pw_below_drewN | apply below_drew1) | exact HB.out)) hb); have n1_ := Aside0.mk (hbox); have n2_ := Aside0.mk ((by rw [hg]; exact (below_size (by repeat (first | (with_reducible first | exact HB.out | apply below_alloc | apply pw_below_drewN | apply below_drew1) | exact HB.out))) : w.heap.size ≤ gb268)); have n3_ := Aside0.mk ((by rw [hg]; exact (below_size (by repeat (first | (with_reducible first | exact HB.out | apply below_alloc | apply pw_below_drewN | apply below_drew1) | exact HB.out))) : w.heap.size ≤ gb268)); clear HB; have HB := n0_; have BK268 := n1_; have GW268 := n2_; have GE268 := n3_; clear n0_ n1_ n2_ n3_; clear hb hbox hg; have hcz14_0 : w13.cell? ⟨gb268, 0, none⟩ = some (.int .i64 0) := (blk_cell BK268.out 0).trans rfl; have hcz14_1 : w13.cell? ⟨gb268, 1, none⟩ = some (.int .i64 0) := (blk_cell BK268.out 1).trans rfl; have hfz14_0 := blk_frozen BK268.out 0; have hfz14_1 := blk_frozen BK268.out 1) | ((with_reducible refine gate_callee (f := 21) rfl ?_); refine goesL_ (some 51) rfl rfl Tryd.func21 (by kernel_rfl) rfl #[.int .i64 4, .int .i64 a0] rfl (by (try simp only [List.map_toArray, List.map_cons, List.map_nil]); first | done | rfl | (simp only [List.length_drop, List.length_take]; rfl)) ?_; (with_reducible refine (signatorylaw12_power.calls k 4 a0 t270 t271 _ A8.out).mono ?_); rintro e w15 ⟨rfl, hb⟩; refine ⟨_, rfl, ?_⟩; have n0_ := Aside0.mk (blk_below (g := gb268) (o := .cells #[.int .i64 t265, .int .i64 t266] 23 (0, 0)) (by (with_reducible repeat (first | refine blk_drewN ?_ _ | refine blk_drew ?_ | refine blk_alloc ?_ _)); refine blk_put (cs := #[.int .i64 t265, .int .i64 0]) ?_ 1 _ rfl; (with_reducible repeat (first | refine blk_drewN ?_ _ | refine blk_drew ?_ | refine blk_alloc ?_ _)); refine blk_put (cs := #[.int .i64 0, .int .i64 0]) ?_ 0 _ rfl; (with_reducible repeat (first | refine blk_drewN ?_ _ | refine blk_drew ?_ | refine blk_alloc ?_ _)); exact BK268.out) hb); have n1_ := Aside0.mk (below_step (by repeat (first | (with_reducible first | exact HB.out | apply below_alloc | apply pw_below_drewN | apply below_drew1 | refine below_set ?_ GE268.out) | exact HB.out)) hb); clear BK268; clear HB; have BK268 := n0_; have HB := n1_; clear n0_ n1_; (try clear hb); (try clear hb2); (try clear hk); (try clear hi)) | ((with_reducible refine gate_callee (f := 21) rfl ?_); refine goesL_ (some 57) rfl rfl Tryd.func21 (by kernel_rfl) rfl #[.int .i64 a1, .int .i64 a0] rfl (by (try simp only [List.map_toArray, List.map_cons, List.map_nil]); first | done | rfl | (simp only [List.length_drop, List.length_take]; rfl)) ?_; (with_reducible refine (signatorylaw12_power.calls k a1 a0 t272 t273 _ A9.out).mono ?_); rintro e w16 ⟨rfl, hb⟩; refine ⟨_, rfl, ?_⟩; have n0_ := Aside0.mk (blk_below (g := gb268) (o := .cells #[.int .i64 t265, .int .i64 t266] 23 (0, 0)) (by (with_reducible repeat (first | refine blk_drewN ?_ _ | refine blk_drew ?_ | refine blk_alloc ?_ _)); exact BK268.out) hb); have n1_ := Aside0.mk (below_step (by repeat (first | (with_reducible first | exact HB.out | apply below_alloc | apply pw_below_drewN | apply below_drew1 | refine below_set ?_ GE268.out) | exact HB.out)) hb); clear BK268; clear HB; have BK268 := n0_; have HB := n1_; clear n0_ n1_; (try clear hb); (try clear hb2); (try clear hk); (try clear hi)))
      (try simp only [Act.put, List.setIfInBounds_toArray, List.set_cons_zero, List.set_cons_succ])
      go_cut [86] (fun v86 wc => ∃ (kq : Nat) (x86_9 : Bool), v86 = .bool x86_9 ∧ Aside0 (signatorylaw12_EqualProves.j0 kq a1 a2 t264 t270 x86_9 t265 t266 = some r) ∧ Aside0 (kq ≤ k) ∧ Aside0 (wc.heap[gb268]? = some (.cells #[.int .i64 t265, .int .i64 t266] 23 (0, 0))) ∧ Aside0 (Below w.heap.size w wc))
      case first =>
        have H := HC10.out
        clear HC10
        by_cases c17 : t271 = true
        · subst c17
          have H1 : (if t273 = true then (if t272 = t264 then ((signatoryref12_Formed.f k t270 a1 t264 t265 t266).bind fun t274 => (if t274 = true then ((equal_Check.f t270 a1 t264 t265 t266).bind fun t275 => (signatorylaw12_EqualProves.j0 k a1 a2 t264 t270 (!t275) t265 t266)) else (signatorylaw12_EqualProves.j0 k a1 a2 t264 t270 true t265 t266))) else (signatorylaw12_EqualProves.j0 k a1 a2 t264 t270 true t265 t266)) else (signatorylaw12_EqualProves.j0 k a1 a2 t264 t270 true t265 t266)) = some r := by rw [if_pos rfl] at H; exact H
          clear H
          have H := H1
          clear H1
          by_cases c18 : t273 = true
          · subst c18
            have H1 : (if t272 = t264 then ((signatoryref12_Formed.f k t270 a1 t264 t265 t266).bind fun t274 => (if t274 = true then ((equal_Check.f t270 a1 t264 t265 t266).bind fun t275 => (signatorylaw12_EqualProves.j0 k a1 a2 t264 t270 (!t275) t265 t266)) else (signatorylaw12_EqualProves.j0 k a1 a2 t264 t270 true t265 t266))) else (signatorylaw12_EqualProves.j0 k a1 a2 t264 t270 true t265 t266)) = some r := by rw [if_pos rfl] at H; exact H
            clear H
            have H := H1
            clear H1
            by_cases c19 : t272 = t264
            · rw [if_pos c19] at H
              have c19b0 : (t272 == t264) = true := beq_iff_eq.mpr c19
              have c19b1 : (t272 != t264) = false := bne_eq_false_iff_eq.mpr c19
              clear c19
              (first | rw [c19b0] | (simp only [i64_w, i32_w]; rw [c19b0]) | skip)
              replace H := Option.bind_eq_some_iff.mp H
              obtain ⟨t274, A200, H⟩ := H
              replace H : (if t274 = true then ((equal_Check.f t270 a1 t264 t265 t266).bind fun t275 => (signatorylaw12_EqualProves.j0 k a1 a2 t264 t270 (!t275) t265 t266)) else (signatorylaw12_EqualProves.j0 k a1 a2 t264 t270 true t265 t266)) = some r := H
              have A20 := Aside0.mk A200
              clear A200
              by_cases c21 : t274 = true
              · subst c21
                have H1 : ((equal_Check.f t270 a1 t264 t265 t266).bind fun t275 => (signatorylaw12_EqualProves.j0 k a1 a2 t264 t270 (!t275) t265 t266)) = some r := by rw [if_pos rfl] at H; exact H
                clear H
                have H := H1
                clear H1
                replace H := Option.bind_eq_some_iff.mp H
                obtain ⟨t275, A220, H⟩ := H
                replace H : (signatorylaw12_EqualProves.j0 k a1 a2 t264 t270 (!t275) t265 t266) = some r := H
                have A22 := Aside0.mk A220
                clear A220
                have H' := Aside0.mk H
                clear H
                have hcz23_0 : w16.cell? ⟨gb268, 0, none⟩ = some (.int .i64 t265) := (blk_cell BK268.out 0).trans rfl
                have hcz23_1 : w16.cell? ⟨gb268, 1, none⟩ = some (.int .i64 t266) := (blk_cell BK268.out 1).trans rfl
                have hfz23_0 := blk_frozen BK268.out 0
                have hfz23_1 := blk_frozen BK268.out 1
                go_wp2_with (first | (go_at_call 19; (with_reducible refine (signatoryref12_Formed.calls k t270 a1 t264 t265 t266 true _ A20.out).mono ?_); rintro e w24 ⟨rfl, hb⟩; have n0_ := Aside0.mk (blk_below (g := gb268) (o := .cells #[.int .i64 t265, .int .i64 t266] 23 (0, 0)) (by (with_reducible repeat (first | refine blk_drewN ?_ _ | refine blk_drew ?_ | refine blk_alloc ?_ _)); exact BK268.out) hb); have n1_ := Aside0.mk (below_step (by repeat (first | (with_reducible first | exact HB.out | apply below_alloc | apply pw_below_drewN | apply below_drew1 | refine below_set ?_ GE268.out) | exact HB.out)) hb); clear BK268; clear HB; have BK268 := n0_; have HB := n1_; clear n0_ n1_; (try clear hb); (try clear hb2); (try clear hk); (try clear hi); have hcz25_0 : w24.cell? ⟨gb268, 0, none⟩ = some (.int .i64 t265) := (blk_cell BK268.out 0).trans rfl; have hcz25_1 : w24.cell? ⟨gb268, 1, none⟩ = some (.int .i64 t266) := (blk_cell BK268.out 1).trans rfl; have hfz25_0 := blk_frozen BK268.out 0; have hfz25_1 := blk_frozen BK268.out 1) | (go_at_call 17; (with_reducible refine (equal_Check.calls t270 a1 t264 t265 t266 t275 _ A22.out).mono ?_); rintro e w26 ⟨rfl, hb⟩; have n0_ := Aside0.mk (blk_below (g := gb268) (o := .cells #[.int .i64 t265, .int .i64 t266] 23 (0, 0)) (by (with_reducible repeat (first | refine blk_drewN ?_ _ | refine blk_drew ?_ | refine blk_alloc ?_ _)); exact BK268.out) hb); have n1_ := Aside0.mk (below_step (by repeat (first | (with_reducible first | exact HB.out | apply below_alloc | apply pw_below_drewN | apply below_drew1 | refine below_set ?_ GE268.out) | exact HB.out)) hb); clear BK268; clear HB; have BK268 := n0_; have HB := n1_; clear n0_ n1_; (try clear hb); (try clear hb2); (try clear hk); (try clear hi)))
                go_meet
                case rel => exact ⟨_, (!t275), (by first | rfl | (simp; done) | (simp [*]; done)), H', ⟨by first | omega | exact Nat.le_refl _⟩, ⟨by (with_reducible repeat (first | refine blk_drewN ?_ _ | refine blk_drew ?_ | refine blk_alloc ?_ _)); exact BK268.out⟩, ⟨by repeat (first | (with_reducible first | exact HB.out | apply below_alloc | apply pw_below_drewN | apply below_drew1 | refine below_set ?_ GE268.out) | exact HB.out)⟩⟩
              · replace c21 := Bool.eq_false_iff.mpr c21
                subst c21
                have H1 : (signatorylaw12_EqualProves.j0 k a1 a2 t264 t270 true t265 t266) = some r := by rw [if_neg (show ¬ (false = true) by decide)] at H; exact H
                clear H
                have H := H1
                clear H1
                have H' := Aside0.mk H
                clear H
                have hcz27_0 : w16.cell? ⟨gb268, 0, none⟩ = some (.int .i64 t265) := (blk_cell BK268.out 0).trans rfl
                have hcz27_1 : w16.cell? ⟨gb268, 1, none⟩ = some (.int .i64 t266) := (blk_cell BK268.out 1).trans rfl
                have hfz27_0 := blk_frozen BK268.out 0
                have hfz27_1 := blk_frozen BK268.out 1
                go_wp2_with (first | (go_at_call 19; (with_reducible refine (signatoryref12_Formed.calls k t270 a1 t264 t265 t266 false _ A20.out).mono ?_); rintro e w28 ⟨rfl, hb⟩; have n0_ := Aside0.mk (blk_below (g := gb268) (o := .cells #[.int .i64 t265, .int .i64 t266] 23 (0, 0)) (by (with_reducible repeat (first | refine blk_drewN ?_ _ | refine blk_drew ?_ | refine blk_alloc ?_ _)); exact BK268.out) hb); have n1_ := Aside0.mk (below_step (by repeat (first | (with_reducible first | exact HB.out | apply below_alloc | apply pw_below_drewN | apply below_drew1 | refine below_set ?_ GE268.out) | exact HB.out)) hb); clear BK268; clear HB; have BK268 := n0_; have HB := n1_; clear n0_ n1_; (try clear hb); (try clear hb2); (try clear hk); (try clear hi)))
                go_meet
                case rel => exact ⟨_, (true), (by first | rfl | (simp; done) | (simp [*]; done)), H', ⟨by first | omega | exact Nat.le_refl _⟩, ⟨by (with_reducible repeat (first | refine blk_drewN ?_ _ | refine blk_drew ?_ | refine blk_alloc ?_ _)); exact BK268.out⟩, ⟨by repeat (first | (with_reducible first | exact HB.out | apply below_alloc | apply pw_below_drewN | apply below_drew1 | refine below_set ?_ GE268.out) | exact HB.out)⟩⟩
            · rw [if_neg c19] at H
              have c19b0 : (t272 == t264) = false := beq_eq_false_iff_ne.mpr c19
              have c19b1 : (t272 != t264) = true := bne_iff_ne.mpr c19
              (first | rw [c19b0] | (simp only [i64_w, i32_w]; rw [c19b0]) | skip)
              have H' := Aside0.mk H
              clear H
              go_wp2
              go_meet
              case rel => exact ⟨_, (true), (by first | rfl | (simp; done) | (simp [*]; done)), H', ⟨by first | omega | exact Nat.le_refl _⟩, ⟨by (with_reducible repeat (first | refine blk_drewN ?_ _ | refine blk_drew ?_ | refine blk_alloc ?_ _)); exact BK268.out⟩, ⟨by repeat (first | (with_reducible first | exact HB.out | apply below_alloc | apply pw_below_drewN | apply below_drew1 | refine below_set ?_ GE268.out) | exact HB.out)⟩⟩
          · replace c18 := Bool.eq_false_iff.mpr c18
            subst c18
            have H1 : (signatorylaw12_EqualProves.j0 k a1 a2 t264 t270 true t265 t266) = some r := by rw [if_neg (show ¬ (false = true) by decide)] at H; exact H
            clear H
            have H := H1
            clear H1
            have H' := Aside0.mk H
            clear H
            go_wp2
            go_meet
            case rel => exact ⟨_, (true), (by first | rfl | (simp; done) | (simp [*]; done)), H', ⟨by first | omega | exact Nat.le_refl _⟩, ⟨by (with_reducible repeat (first | refine blk_drewN ?_ _ | refine blk_drew ?_ | refine blk_alloc ?_ _)); exact BK268.out⟩, ⟨by repeat (first | (with_reducible first | exact HB.out | apply below_alloc | apply pw_below_drewN | apply below_drew1 | refine below_set ?_ GE268.out) | exact HB.out)⟩⟩
        · replace c17 := Bool.eq_false_iff.mpr c17
          subst c17
          have H1 : (signatorylaw12_EqualProves.j0 k a1 a2 t264 t270 true t265 t266) = some r := by rw [if_neg (show ¬ (false = true) by decide)] at H; exact H
          clear H
          have H := H1
          clear H1
          have H' := Aside0.mk H
          clear H
          go_wp2
          go_meet
          case rel => exact ⟨_, (true), (by first | rfl | (simp; done) | (simp [*]; done)), H', ⟨by first | omega | exact Nat.le_refl _⟩, ⟨by (with_reducible repeat (first | refine blk_drewN ?_ _ | refine blk_drew ?_ | refine blk_alloc ?_ _)); exact BK268.out⟩, ⟨by repeat (first | (with_reducible first | exact HB.out | apply below_alloc | apply pw_below_drewN | apply below_drew1 | refine below_set ?_ GE268.out) | exact HB.out)⟩⟩
      case rest =>
        clear HC10
        try clear c1
        try clear c2
        try clear p2
        try clear c5
        try clear c7
        try clear c7b0
        try clear c7b1
        try clear c14
        try clear c15
        try clear c17
        try clear c18
        try clear c19
        try clear c19b0
        try clear c19b1
        try clear c21
        try clear hcz14_0
        try clear hcz14_1
        try clear hcz23_0
        try clear hcz23_1
        try clear hcz25_0
        try clear hcz25_1
        try clear hcz27_0
        try clear hcz27_1
        try clear hfz14_0
        try clear hfz14_1
        try clear hfz23_0
        try clear hfz23_1
        try clear hfz25_0
        try clear hfz25_1
        try clear hfz27_0
        try clear hfz27_1
        obtain ⟨kq, x86_9, rfl, HA, HJ9, BK268, HB⟩ := hcut
        cases kq with
        | zero => exact absurd HA.out (by simp [signatorylaw12_EqualProves.j0])
        | succ kj9 =>
          have H := HA.out
          clear HA
          simp only [signatorylaw12_EqualProves.j0] at H
          by_cases c29 : x86_9 = true
          · subst c29
            have H1 : (some false) = some r := by rw [if_pos rfl] at H; exact H
            clear H
            have H := H1
            clear H1
            exact absurd (H.trans (congrArg some HT.out)) (by simp)
          · replace c29 := Bool.eq_false_iff.mpr c29
            subst c29
            have H1 : ((signatoryref10_Valid.f kj9 a2).bind fun t276 => (if t276 = true then (if a2 = t264 then (signatorylaw12_EqualProves.j1 kj9 a1 a2 t264 t270 true t265 t266) else (signatorylaw12_EqualProves.j1 kj9 a1 a2 t264 t270 (t265 == 0) t265 t266)) else (signatorylaw12_EqualProves.j1 kj9 a1 a2 t264 t270 true t265 t266))) = some r := by rw [if_neg (show ¬ (false = true) by decide)] at H; exact H
            clear H
            have H := H1
            clear H1
            have HC30 := Aside0.mk H
            clear H
            go_upto_region 10 with (fail)
            go_cut [99] (fun v99 wc => ∃ (kq : Nat) (x99_29 : Bool), v99 = .bool x99_29 ∧ Aside0 (signatorylaw12_EqualProves.j1 kq a1 a2 t264 t270 x99_29 t265 t266 = some r) ∧ Aside0 (kq ≤ kj9) ∧ Aside0 (wc.heap[gb268]? = some (.cells #[.int .i64 t265, .int .i64 t266] 23 (0, 0))) ∧ Aside0 (Below w.heap.size w wc))
            case first =>
              have H := HC30.out
              clear HC30
              replace H := Option.bind_eq_some_iff.mp H
              obtain ⟨t276, A310, H⟩ := H
              replace H : (if t276 = true then (if a2 = t264 then (signatorylaw12_EqualProves.j1 kj9 a1 a2 t264 t270 true t265 t266) else (signatorylaw12_EqualProves.j1 kj9 a1 a2 t264 t270 (t265 == 0) t265 t266)) else (signatorylaw12_EqualProves.j1 kj9 a1 a2 t264 t270 true t265 t266)) = some r := H
              have A31 := Aside0.mk A310
              clear A310
              by_cases c32 : t276 = true
              · subst c32
                have H1 : (if a2 = t264 then (signatorylaw12_EqualProves.j1 kj9 a1 a2 t264 t270 true t265 t266) else (signatorylaw12_EqualProves.j1 kj9 a1 a2 t264 t270 (t265 == 0) t265 t266)) = some r := by rw [if_pos rfl] at H; exact H
                clear H
                have H := H1
                clear H1
                by_cases c33 : a2 = t264
                · rw [if_pos c33] at H
                  have c33b0 : (a2 == t264) = true := beq_iff_eq.mpr c33
                  have c33b1 : (a2 != t264) = false := bne_eq_false_iff_eq.mpr c33
                  clear c33
                  (first | rw [c33b0] | (simp only [i64_w, i32_w]; rw [c33b0]) | skip)
                  have H' := Aside0.mk H
                  clear H
                  go_wp2_with (first | ((with_reducible refine gate_callee (f := 22) rfl ?_); refine goesL_ (some 88) rfl rfl Tryd.func22 (by kernel_rfl) rfl #[.int .i64 a2] rfl (by (try simp only [List.map_toArray, List.map_cons, List.map_nil]); first | done | rfl | (simp only [List.length_drop, List.length_take]; rfl)) ?_; (with_reducible refine (signatoryref10_Valid.calls kj9 a2 true _ A31.out).mono ?_); rintro e w' ⟨rfl, ⟨nd, rfl⟩⟩; refine ⟨_, rfl, ?_⟩))
                  go_meet
                  case rel => exact ⟨_, (true), (by first | rfl | (simp; done) | (simp [*]; done)), H', ⟨by have := HJ9.out; first | omega | exact Nat.le_refl _⟩, ⟨by (with_reducible repeat (first | refine blk_drewN ?_ _ | refine blk_drew ?_ | refine blk_alloc ?_ _)); exact BK268.out⟩, ⟨by repeat (first | (with_reducible first | exact HB.out | apply below_alloc | apply pw_below_drewN | apply below_drew1 | refine below_set ?_ GE268.out) | exact HB.out)⟩⟩
                · rw [if_neg c33] at H
                  have c33b0 : (a2 == t264) = false := beq_eq_false_iff_ne.mpr c33
                  have c33b1 : (a2 != t264) = true := bne_iff_ne.mpr c33
                  (first | rw [c33b0] | (simp only [i64_w, i32_w]; rw [c33b0]) | skip)
                  have H' := Aside0.mk H
                  clear H
                  go_wp2_with (first | ((with_reducible refine gate_callee (f := 22) rfl ?_); refine goesL_ (some 88) rfl rfl Tryd.func22 (by kernel_rfl) rfl #[.int .i64 a2] rfl (by (try simp only [List.map_toArray, List.map_cons, List.map_nil]); first | done | rfl | (simp only [List.length_drop, List.length_take]; rfl)) ?_; (with_reducible refine (signatoryref10_Valid.calls kj9 a2 true _ A31.out).mono ?_); rintro e w' ⟨rfl, ⟨nd, rfl⟩⟩; refine ⟨_, rfl, ?_⟩; have hcz34_0 : wc.cell? ⟨gb268, 0, none⟩ = some (.int .i64 t265) := (blk_cell BK268.out 0).trans rfl; have hcz34_1 : wc.cell? ⟨gb268, 1, none⟩ = some (.int .i64 t266) := (blk_cell BK268.out 1).trans rfl; have hfz34_0 := blk_frozen BK268.out 0; have hfz34_1 := blk_frozen BK268.out 1))
                  go_meet
                  case rel => exact ⟨_, ((t265 == 0)), (by first | rfl | (simp; done) | (simp [*]; done)), H', ⟨by have := HJ9.out; first | omega | exact Nat.le_refl _⟩, ⟨by (with_reducible repeat (first | refine blk_drewN ?_ _ | refine blk_drew ?_ | refine blk_alloc ?_ _)); exact BK268.out⟩, ⟨by repeat (first | (with_reducible first | exact HB.out | apply below_alloc | apply pw_below_drewN | apply below_drew1 | refine below_set ?_ GE268.out) | exact HB.out)⟩⟩
              · replace c32 := Bool.eq_false_iff.mpr c32
                subst c32
                have H1 : (signatorylaw12_EqualProves.j1 kj9 a1 a2 t264 t270 true t265 t266) = some r := by rw [if_neg (show ¬ (false = true) by decide)] at H; exact H
                clear H
                have H := H1
                clear H1
                have H' := Aside0.mk H
                clear H
                go_wp2_with (first | ((with_reducible refine gate_callee (f := 22) rfl ?_); refine goesL_ (some 88) rfl rfl Tryd.func22 (by kernel_rfl) rfl #[.int .i64 a2] rfl (by (try simp only [List.map_toArray, List.map_cons, List.map_nil]); first | done | rfl | (simp only [List.length_drop, List.length_take]; rfl)) ?_; (with_reducible refine (signatoryref10_Valid.calls kj9 a2 false _ A31.out).mono ?_); rintro e w' ⟨rfl, ⟨nd, rfl⟩⟩; refine ⟨_, rfl, ?_⟩))
                go_meet
                case rel => exact ⟨_, (true), (by first | rfl | (simp; done) | (simp [*]; done)), H', ⟨by have := HJ9.out; first | omega | exact Nat.le_refl _⟩, ⟨by (with_reducible repeat (first | refine blk_drewN ?_ _ | refine blk_drew ?_ | refine blk_alloc ?_ _)); exact BK268.out⟩, ⟨by repeat (first | (with_reducible first | exact HB.out | apply below_alloc | apply pw_below_drewN | apply below_drew1 | refine below_set ?_ GE268.out) | exact HB.out)⟩⟩
            case rest =>
              clear HC30
              try clear c1
              try clear c2
              try clear p2
              try clear c3
              try clear c5
              try clear c7
              try clear c7b0
              try clear c7b1
              try clear c14
              try clear c15
              try clear c17
              try clear c18
              try clear c19
              try clear c19b0
              try clear c19b1
              try clear c21
              try clear c22
              try clear c29
              try clear c32
              try clear c33
              try clear c33b0
              try clear c33b1
              try clear hcz14_0
              try clear hcz14_1
              try clear hcz23_0
              try clear hcz23_1
              try clear hcz25_0
              try clear hcz25_1
              try clear hcz27_0
              try clear hcz27_1
              try clear hcz34_0
              try clear hcz34_1
              try clear hfz14_0
              try clear hfz14_1
              try clear hfz23_0
              try clear hfz23_1
              try clear hfz25_0
              try clear hfz25_1
              try clear hfz27_0
              try clear hfz27_1
              try clear hfz34_0
              try clear hfz34_1
              try clear p2
              obtain ⟨kq, x99_29, rfl, HA, HJ29, BK268, HB⟩ := hcut
              cases kq with
              | zero => exact absurd HA.out (by simp [signatorylaw12_EqualProves.j1])
              | succ kj29 =>
                have H := HA.out
                clear HA
                simp only [signatorylaw12_EqualProves.j1] at H
                by_cases c35 : x99_29 = true
                · subst c35
                  have H1 : (some true) = some r := by rw [if_pos rfl] at H; exact H
                  clear H
                  have H := H1
                  clear H1
                  obtain rfl := Option.some.inj H
                  go_wp2
                  go_ret
                  exact ⟨by first | rfl | (simp [errW_none, errW_some] <;> rfl) | (simp [*, errW_none, errW_some] <;> rfl), by repeat (first | (with_reducible first | exact HB.out | apply below_alloc | apply pw_below_drewN | apply below_drew1 | refine below_set ?_ GE268.out) | exact HB.out)⟩
                · replace c35 := Bool.eq_false_iff.mpr c35
                  subst c35
                  have H1 : ((signatoryref12_Commits.f kj29 t270 a1 t264 t265 t266).bind fun bt277 => ((signatoryref12_Commits.f kj29 t270 a1 a2 t265 t266).bind fun bt279 => (if bt277.1 = bt279.1 then (some (bt277.2 != bt279.2)) else (some false)))) = some r := by rw [if_neg (show ¬ (false = true) by decide)] at H; exact H
                  clear H
                  have H := H1
                  clear H1
                  replace H := Option.bind_eq_some_iff.mp H
                  obtain ⟨⟨t277, t278⟩, A360, H⟩ := H
                  replace H : ((signatoryref12_Commits.f kj29 t270 a1 a2 t265 t266).bind fun bt279 => (if t277 = bt279.1 then (some (t278 != bt279.2)) else (some false))) = some r := H
                  have A36 := Aside0.mk A360
                  clear A360
                  replace H := Option.bind_eq_some_iff.mp H
                  obtain ⟨⟨t279, t280⟩, A370, H⟩ := H
                  replace H : (if t277 = t279 then (some (t278 != t280)) else (some false)) = some r := H
                  have A37 := Aside0.mk A370
                  clear A370
                  by_cases c38 : t277 = t279
                  · rw [if_pos c38] at H
                    have c38b0 : (t277 == t279) = true := beq_iff_eq.mpr c38
                    have c38b1 : (t277 != t279) = false := bne_eq_false_iff_eq.mpr c38
                    clear c38
                    obtain rfl := Option.some.inj H
                    have hcz39_0 : wc.cell? ⟨gb268, 0, none⟩ = some (.int .i64 t265) := (blk_cell BK268.out 0).trans rfl
                    have hcz39_1 : wc.cell? ⟨gb268, 1, none⟩ = some (.int .i64 t266) := (blk_cell BK268.out 1).trans rfl
                    have hfz39_0 := blk_frozen BK268.out 0
                    have hfz39_1 := blk_frozen BK268.out 1
                    go_wp2_with (first | ((with_reducible refine gate_callee (f := 20) rfl ?_); refine goesL_ (some 105) rfl rfl Tryd.func20 (by kernel_rfl) rfl #[.int .i64 t270, .int .i64 a1, .int .i64 t264, .agg #[.int .i64 t265, .int .i64 t266]] rfl (by (try simp only [List.map_toArray, List.map_cons, List.map_nil]); first | done | rfl | (simp only [List.length_drop, List.length_take]; rfl)) ?_; (with_reducible refine (signatoryref12_Commits.calls kj29 t270 a1 t264 t265 t266 t277 t278 _ A36.out).mono ?_); rintro e w40 ⟨rfl, hb⟩; refine ⟨_, rfl, ?_⟩; have n0_ := Aside0.mk (blk_below (g := gb268) (o := .cells #[.int .i64 t265, .int .i64 t266] 23 (0, 0)) (by (with_reducible repeat (first | refine blk_drewN ?_ _ | refine blk_drew ?_ | refine blk_alloc ?_ _)); exact BK268.out) hb); have n1_ := Aside0.mk (below_step (by repeat (first | (with_reducible first | exact HB.out | apply below_alloc | apply pw_below_drewN | apply below_drew1 | refine below_set ?_ GE268.out) | exact HB.out)) hb); clear BK268; clear HB; have BK268 := n0_; have HB := n1_; clear n0_ n1_; (try clear hb); (try clear hb2); (try clear hk); (try clear hi); have hcz41_0 : w40.cell? ⟨gb268, 0, none⟩ = some (.int .i64 t265) := (blk_cell BK268.out 0).trans rfl; have hcz41_1 : w40.cell? ⟨gb268, 1, none⟩ = some (.int .i64 t266) := (blk_cell BK268.out 1).trans rfl; have hfz41_0 := blk_frozen BK268.out 0; have hfz41_1 := blk_frozen BK268.out 1) | ((with_reducible refine gate_callee (f := 20) rfl ?_); refine goesL_ (some 113) rfl rfl Tryd.func20 (by kernel_rfl) rfl #[.int .i64 t270, .int .i64 a1, .int .i64 a2, .agg #[.int .i64 t265, .int .i64 t266]] rfl (by (try simp only [List.map_toArray, List.map_cons, List.map_nil]); first | done | rfl | (simp only [List.length_drop, List.length_take]; rfl)) ?_; (with_reducible refine (signatoryref12_Commits.calls kj29 t270 a1 a2 t265 t266 t279 t280 _ A37.out).mono ?_); rintro e w42 ⟨rfl, hb⟩; refine ⟨_, rfl, ?_⟩; have n0_ := Aside0.mk (blk_below (g := gb268) (o := .cells #[.int .i64 t265, .int .i64 t266] 23 (0, 0)) (by (with_reducible repeat (first | refine blk_drewN ?_ _ | refine blk_drew ?_ | refine blk_alloc ?_ _)); exact BK268.out) hb); have n1_ := Aside0.mk (below_step (by repeat (first | (with_reducible first | exact HB.out | apply below_alloc | apply pw_below_drewN | apply below_drew1 | refine below_set ?_ GE268.out) | exact HB.out)) hb); clear BK268; clear HB; have BK268 := n0_; have HB := n1_; clear n0_ n1_; (try clear hb); (try clear hb2); (try clear hk); (try clear hi)))
                    go_ret
                    exact ⟨by first | rfl | (simp [errW_none, errW_some] <;> rfl) | (simp [*, errW_none, errW_some] <;> rfl), by repeat (first | (with_reducible first | exact HB.out | apply below_alloc | apply pw_below_drewN | apply below_drew1 | refine below_set ?_ GE268.out) | exact HB.out)⟩
                  · rw [if_neg c38] at H
                    have c38b0 : (t277 == t279) = false := beq_eq_false_iff_ne.mpr c38
                    have c38b1 : (t277 != t279) = true := bne_iff_ne.mpr c38
                    exact absurd (H.trans (congrArg some HT.out)) (by simp)
    · rw [if_neg c7] at H
      have c7b0 : (t267 == 0) = false := beq_eq_false_iff_ne.mpr c7
      have c7b1 : (t267 != 0) = true := bne_iff_ne.mpr c7
      by_cases c43 : t264 = 0
      · rw [if_pos c43] at H
        have c43b0 : (t264 == 0) = true := beq_iff_eq.mpr c43
        have c43b1 : (t264 != 0) = false := bne_eq_false_iff_eq.mpr c43
        clear c43
        by_cases c44 : (t265 == 0 && (t266 == 0)) = true
        · rw [if_pos c44] at H
          have c44b0 : (t265 == 0 && (t266 == 0)) = true := c44
          (try (have c44b1 : decide (t265 = 0 && (t266 == 0)) = true := by simpa using c44))
          (try (have c44b2 : (t265 == 0 && (t266 == 0)) = true := by simpa using c44))
          clear c44
          by_cases c45 : a0 < 1
          · rw [if_pos c45] at H
            have c45b0 : decide (a0 < 1) = true := decide_eq_true c45
            clear c45
            obtain rfl := Option.some.inj H
            go_enter Tryd.func5, Tryd.ntmps5
            go_wp2_with (first | ((with_reducible refine gate_callee (f := 14) rfl ?_); refine goesL_ (some 18) rfl rfl Tryd.func14 (by kernel_rfl) rfl #[] rfl (by (try simp only [List.map_toArray, List.map_cons, List.map_nil]); first | done | rfl | (simp only [List.length_drop, List.length_take]; rfl)) ?_; (with_reducible refine (signatorylaw12_sane.calls k  true _ A4.out).mono ?_); rintro e w46 ⟨rfl, hb⟩; refine ⟨_, rfl, ?_⟩; have n0_ := Aside0.mk (below_step (by repeat (first | (with_reducible first | exact HB.out | apply below_alloc | apply pw_below_drewN | apply below_drew1) | exact HB.out)) hb); clear HB; have HB := n0_; clear n0_; (try clear hb); (try clear hb2); (try clear hk); (try clear hi)) | ((with_reducible refine gate_callee (f := 15) rfl ?_); refine goesL_ (some 23) rfl rfl Tryd.func15 (by kernel_rfl) rfl #[.int .i64 a0, .int .i64 a1] rfl (by (try simp only [List.map_toArray, List.map_cons, List.map_nil]); first | done | rfl | (simp only [List.length_drop, List.length_take]; rfl)) ?_; (with_reducible refine (equal_Prove.calls k a0 a1 t264 t265 t266 t267 _ A6.out).mono ?_); rintro e w47 ⟨rfl, hb⟩; refine ⟨_, rfl, ?_⟩; have n0_ := Aside0.mk (below_step (by repeat (first | (with_reducible first | exact HB.out | apply below_alloc | apply pw_below_drewN | apply below_drew1) | exact HB.out)) hb); clear HB; have HB := n0_; clear n0_; (try clear hb); (try clear hb2); (try clear hk); (try clear hi)) | ((with_reducible refine gate_dst (N := 8) rfl ?_); refine box_event ?hg (N := 8) ?hd (cs := #[.int .i64 0, .int .i64 0]) (t := 23) ?hr ?_; (case hd => rfl); (case hg => rfl); (case hr => first | (go_simp; done) | (go_simp; rfl)); intro gb268 hg w48 hbox hb; have n0_ := Aside0.mk (below_step (by repeat (first | (with_reducible first | exact HB.out | apply below_alloc | apply pw_below_drewN | apply below_drew1) | exact HB.out)) hb); have n1_ := Aside0.mk (hbox); have n2_ := Aside0.mk ((by rw [hg]; exact (below_size (by repeat (first | (with_reducible first | exact HB.out | apply below_alloc | apply pw_below_drewN | apply below_drew1) | exact HB.out))) : w.heap.size ≤ gb268)); have n3_ := Aside0.mk ((by rw [hg]; exact (below_size (by repeat (first | (with_reducible first | exact HB.out | apply below_alloc | apply pw_below_drewN | apply below_drew1) | exact HB.out))) : w.heap.size ≤ gb268)); clear HB; have HB := n0_; have BK268 := n1_; have GW268 := n2_; have GE268 := n3_; clear n0_ n1_ n2_ n3_; clear hb hbox hg; have hcz49_0 : w48.cell? ⟨gb268, 0, none⟩ = some (.int .i64 0) := (blk_cell BK268.out 0).trans rfl; have hcz49_1 : w48.cell? ⟨gb268, 1, none⟩ = some (.int .i64 0) := (blk_cell BK268.out 1).trans rfl; have hfz49_0 := blk_frozen BK268.out 0; have hfz49_1 := blk_frozen BK268.out 1))
            go_ret
            exact ⟨by first | rfl | (simp [errW_none, errW_some] <;> rfl) | (simp [*, errW_none, errW_some] <;> rfl), by repeat (first | (with_reducible first | exact HB.out | apply below_alloc | apply pw_below_drewN | apply below_drew1 | refine below_set ?_ GE268.out) | exact HB.out)⟩
          · rw [if_neg c45] at H
            have c45b0 : decide (a0 < 1) = false := decide_eq_false c45
            clear c45
            by_cases c50 : a0 ≥ 1073741789
            · rw [if_pos c50] at H
              have c50b0 : decide (1073741789 ≤ a0) = true := decide_eq_true c50
              clear c50
              obtain rfl := Option.some.inj H
              go_enter Tryd.func5, Tryd.ntmps5
              go_wp2_with (first | ((with_reducible refine gate_callee (f := 14) rfl ?_); refine goesL_ (some 18) rfl rfl Tryd.func14 (by kernel_rfl) rfl #[] rfl (by (try simp only [List.map_toArray, List.map_cons, List.map_nil]); first | done | rfl | (simp only [List.length_drop, List.length_take]; rfl)) ?_; (with_reducible refine (signatorylaw12_sane.calls k  true _ A4.out).mono ?_); rintro e w51 ⟨rfl, hb⟩; refine ⟨_, rfl, ?_⟩; have n0_ := Aside0.mk (below_step (by repeat (first | (with_reducible first | exact HB.out | apply below_alloc | apply pw_below_drewN | apply below_drew1) | exact HB.out)) hb); clear HB; have HB := n0_; clear n0_; (try clear hb); (try clear hb2); (try clear hk); (try clear hi)) | ((with_reducible refine gate_callee (f := 15) rfl ?_); refine goesL_ (some 23) rfl rfl Tryd.func15 (by kernel_rfl) rfl #[.int .i64 a0, .int .i64 a1] rfl (by (try simp only [List.map_toArray, List.map_cons, List.map_nil]); first | done | rfl | (simp only [List.length_drop, List.length_take]; rfl)) ?_; (with_reducible refine (equal_Prove.calls k a0 a1 t264 t265 t266 t267 _ A6.out).mono ?_); rintro e w52 ⟨rfl, hb⟩; refine ⟨_, rfl, ?_⟩; have n0_ := Aside0.mk (below_step (by repeat (first | (with_reducible first | exact HB.out | apply below_alloc | apply pw_below_drewN | apply below_drew1) | exact HB.out)) hb); clear HB; have HB := n0_; clear n0_; (try clear hb); (try clear hb2); (try clear hk); (try clear hi)) | ((with_reducible refine gate_dst (N := 8) rfl ?_); refine box_event ?hg (N := 8) ?hd (cs := #[.int .i64 0, .int .i64 0]) (t := 23) ?hr ?_; (case hd => rfl); (case hg => rfl); (case hr => first | (go_simp; done) | (go_simp; rfl)); intro gb268 hg w53 hbox hb; have n0_ := Aside0.mk (below_step (by repeat (first | (with_reducible first | exact HB.out | apply below_alloc | apply pw_below_drewN | apply below_drew1) | exact HB.out)) hb); have n1_ := Aside0.mk (hbox); have n2_ := Aside0.mk ((by rw [hg]; exact (below_size (by repeat (first | (with_reducible first | exact HB.out | apply below_alloc | apply pw_below_drewN | apply below_drew1) | exact HB.out))) : w.heap.size ≤ gb268)); have n3_ := Aside0.mk ((by rw [hg]; exact (below_size (by repeat (first | (with_reducible first | exact HB.out | apply below_alloc | apply pw_below_drewN | apply below_drew1) | exact HB.out))) : w.heap.size ≤ gb268)); clear HB; have HB := n0_; have BK268 := n1_; have GW268 := n2_; have GE268 := n3_; clear n0_ n1_ n2_ n3_; clear hb hbox hg; have hcz54_0 : w53.cell? ⟨gb268, 0, none⟩ = some (.int .i64 0) := (blk_cell BK268.out 0).trans rfl; have hcz54_1 : w53.cell? ⟨gb268, 1, none⟩ = some (.int .i64 0) := (blk_cell BK268.out 1).trans rfl; have hfz54_0 := blk_frozen BK268.out 0; have hfz54_1 := blk_frozen BK268.out 1))
              go_ret
              exact ⟨by first | rfl | (simp [errW_none, errW_some] <;> rfl) | (simp [*, errW_none, errW_some] <;> rfl), by repeat (first | (with_reducible first | exact HB.out | apply below_alloc | apply pw_below_drewN | apply below_drew1 | refine below_set ?_ GE268.out) | exact HB.out)⟩
            · rw [if_neg c50] at H
              have c50b0 : decide (1073741789 ≤ a0) = false := decide_eq_false c50
              clear c50
              replace H := Option.bind_eq_some_iff.mp H
              obtain ⟨t269, A550, H⟩ := H
              replace H : (some (!t269)) = some r := H
              have A55 := Aside0.mk A550
              clear A550
              obtain rfl := Option.some.inj H
              go_enter Tryd.func5, Tryd.ntmps5
              go_wp2_with (first | ((with_reducible refine gate_callee (f := 14) rfl ?_); refine goesL_ (some 18) rfl rfl Tryd.func14 (by kernel_rfl) rfl #[] rfl (by (try simp only [List.map_toArray, List.map_cons, List.map_nil]); first | done | rfl | (simp only [List.length_drop, List.length_take]; rfl)) ?_; (with_reducible refine (signatorylaw12_sane.calls k  true _ A4.out).mono ?_); rintro e w56 ⟨rfl, hb⟩; refine ⟨_, rfl, ?_⟩; have n0_ := Aside0.mk (below_step (by repeat (first | (with_reducible first | exact HB.out | apply below_alloc | apply pw_below_drewN | apply below_drew1) | exact HB.out)) hb); clear HB; have HB := n0_; clear n0_; (try clear hb); (try clear hb2); (try clear hk); (try clear hi)) | ((with_reducible refine gate_callee (f := 15) rfl ?_); refine goesL_ (some 23) rfl rfl Tryd.func15 (by kernel_rfl) rfl #[.int .i64 a0, .int .i64 a1] rfl (by (try simp only [List.map_toArray, List.map_cons, List.map_nil]); first | done | rfl | (simp only [List.length_drop, List.length_take]; rfl)) ?_; (with_reducible refine (equal_Prove.calls k a0 a1 t264 t265 t266 t267 _ A6.out).mono ?_); rintro e w57 ⟨rfl, hb⟩; refine ⟨_, rfl, ?_⟩; have n0_ := Aside0.mk (below_step (by repeat (first | (with_reducible first | exact HB.out | apply below_alloc | apply pw_below_drewN | apply below_drew1) | exact HB.out)) hb); clear HB; have HB := n0_; clear n0_; (try clear hb); (try clear hb2); (try clear hk); (try clear hi)) | ((with_reducible refine gate_dst (N := 8) rfl ?_); refine box_event ?hg (N := 8) ?hd (cs := #[.int .i64 0, .int .i64 0]) (t := 23) ?hr ?_; (case hd => rfl); (case hg => rfl); (case hr => first | (go_simp; done) | (go_simp; rfl)); intro gb268 hg w58 hbox hb; have n0_ := Aside0.mk (below_step (by repeat (first | (with_reducible first | exact HB.out | apply below_alloc | apply pw_below_drewN | apply below_drew1) | exact HB.out)) hb); have n1_ := Aside0.mk (hbox); have n2_ := Aside0.mk ((by rw [hg]; exact (below_size (by repeat (first | (with_reducible first | exact HB.out | apply below_alloc | apply pw_below_drewN | apply below_drew1) | exact HB.out))) : w.heap.size ≤ gb268)); have n3_ := Aside0.mk ((by rw [hg]; exact (below_size (by repeat (first | (with_reducible first | exact HB.out | apply below_alloc | apply pw_below_drewN | apply below_drew1) | exact HB.out))) : w.heap.size ≤ gb268)); clear HB; have HB := n0_; have BK268 := n1_; have GW268 := n2_; have GE268 := n3_; clear n0_ n1_ n2_ n3_; clear hb hbox hg; have hcz59_0 : w58.cell? ⟨gb268, 0, none⟩ = some (.int .i64 0) := (blk_cell BK268.out 0).trans rfl; have hcz59_1 : w58.cell? ⟨gb268, 1, none⟩ = some (.int .i64 0) := (blk_cell BK268.out 1).trans rfl; have hfz59_0 := blk_frozen BK268.out 0; have hfz59_1 := blk_frozen BK268.out 1) | (go_at_call 22; (with_reducible refine (signatoryref10_Valid.calls k a1 t269 _ A55.out).mono ?_); rintro e w' ⟨rfl, ⟨nd, rfl⟩⟩))
              go_ret
              exact ⟨by first | rfl | (simp [errW_none, errW_some] <;> rfl) | (simp [*, errW_none, errW_some] <;> rfl), by repeat (first | (with_reducible first | exact HB.out | apply below_alloc | apply pw_below_drewN | apply below_drew1 | refine below_set ?_ GE268.out) | exact HB.out)⟩
        · rw [if_neg c44] at H
          have c44b0 : (t265 == 0 && (t266 == 0)) = false := by simpa using c44
          (try (have c44b1 : decide (t265 = 0 && (t266 == 0)) = false := by simpa using c44))
          (try (have c44b2 : (t265 == 0 && (t266 == 0)) = false := by simpa using c44))
          (try (have c44b3 : ¬ (t265 = 0 && (t266 == 0)) := by simpa using c44))
          clear c44
          exact absurd (H.trans (congrArg some HT.out)) (by simp)
      · rw [if_neg c43] at H
        have c43b0 : (t264 == 0) = false := beq_eq_false_iff_ne.mpr c43
        have c43b1 : (t264 != 0) = true := bne_iff_ne.mpr c43
        exact absurd (H.trans (congrArg some HT.out)) (by simp)
  · replace c5 := Bool.eq_false_iff.mpr c5
    subst c5
    have H1 : (some false) = some r := by rw [if_neg (show ¬ (false = true) by decide)] at H; exact H
    clear H
    have H := H1
    clear H1
    exact absurd (H.trans (congrArg some HT.out)) (by simp)

/-- THE ONE PURE STATEMENT of signatorylaw12_EqualProves: yours. -/
def signatorylaw12_EqualProves.Pure : Prop := ∀ (a0 : Int) (a1 : Int) (a2 : Int), (Lit.int .i64 a0).wf = true → (Lit.int .i64 a1).wf = true → (Lit.int .i64 a2).wf = true → ∃ k, signatorylaw12_EqualProves.f k a0 a1 a2 = some true
theorem signatorylaw12_EqualProves.walk (P : signatorylaw12_EqualProves.Pure) (a0 : Int) (a1 : Int) (a2 : Int) (w : World) (hG : Glob w) (w0 : (Lit.int .i64 a0).wf = true) (w1 : (Lit.int .i64 a1).wf = true) (w2 : (Lit.int .i64 a2).wf = true) :
    Calls Tryd.prog 5 #[.int .i64 a0, .int .i64 a1, .int .i64 a2] w fun e w' => e = .returned (.bool true) ∧ Below w.heap.size w w' := by
  obtain ⟨k, h⟩ := P a0 a1 a2 w0 w1 w2
  refine (signatorylaw12_EqualProves.calls k a0 a1 a2 true w h).mono ?_
  rintro e w' ⟨rfl, hd⟩
  exact ⟨rfl, hd⟩

end Go.Proofs.YthladfegmedpnaaDoor.P

namespace Go.Proofs.YthladfegmedpnaaDoor.P
open Go.RowKit Go.Proofs.YthladfegmedpnaaDoorW.PrintWords Go.Proofs.YthladfegmedpnaaDoorW.PrintLast Go.Proofs.YthladfegmedpnaaDoorW.PrintMore Go.Proofs.YthladfegmedpnaaDoor

/-- Another base, another power. -/
theorem pwz_base {x y n : Int} (hx : vld x = true) (hy : vld y = true) (hn : n % 1073741789 ≠ 0) (h : pwz x n = pwz y n) : x = y := by
  have h0 := Int.emod_nonneg n (show (1073741789 : Int) ≠ 0 by decide)
  have h1 := Int.emod_lt_of_pos n (show (0 : Int) < 1073741789 by decide)
  obtain ⟨m, hm⟩ := Int.eq_ofNat_of_zero_le h0
  have hi := Nt.inv_Q (n := m) (by omega) (by rw [Q_lit]; omega)
  generalize hj : m ^ (Nt.Q - 2) % Nt.Q = j at hi
  have e : (n * (j : Int)) % 1073741789 = 1 % 1073741789 := by
    have e1 : (n * (j : Int)) % 1073741789 = ((m : Int) * j) % 1073741789 := by rw [mod_mul_Q, hm]
    rw [e1, ← Int.natCast_mul]
    rw [Q_lit] at hi
    omega
  have a1 := pwz_mul hx n (j : Int)
  have a2 := pwz_mul hy n (j : Int)
  rw [pwz_congr x e, pwz_one hx] at a1
  rw [pwz_congr y e, pwz_one hy] at a2
  rw [a1, a2, h]

theorem EqualProves_j1 (k : Nat) (hk : 50 ≤ k) (a other d key e s : Int) (b : Bool) (hb : b = true ∨ frm key a d e s = true ∧ vld other = true ∧ other ≠ d ∧ e ≠ 0) : signatorylaw12_EqualProves.j1 k a other d key b e s = some true := by
  obtain ⟨k, rfl⟩ : ∃ j, k = j + 1 := ⟨k - 1, by omega⟩
  rw [signatorylaw12_EqualProves.j1]
  cases b
  · rcases hb with hb | ⟨hf, hv, hne, he⟩
    · cases hb
    · obtain ⟨h1, h2, h3, h4, h5⟩ := frm_iff.1 hf
      have hq := inQ_iff.1 h4
      have hf2 : frm key a other e s = true := frm_iff.2 ⟨h1, h2, hv, h4, h5⟩
      rw [if_neg (by decide), ref12_Commits_f k (by omega) hf, Option.bind_some, ref12_Commits_f k (by omega) hf2, Option.bind_some]
      rw [if_pos rfl]
      have hn : comS a d e s ≠ comS a other e s := fun h => by
        unfold comS at h
        have h6 := mulz_cancel (vld_pw h2 s) (vld_pw h3 (-e)) (vld_pw hv (-e)) h
        exact hne (pwz_base hv h3 (by omega) h6.symm)
      rw [show (comS a d e s != comS a other e s) = true from bne_iff_ne.2 hn]
  · rw [if_pos rfl]

theorem EqualProves_j0 (k : Nat) (hk : 60 ≤ k) (a other d key e s : Int) (hf : frm key a d e s = true) : signatorylaw12_EqualProves.j0 k a other d key false e s = some true := by
  obtain ⟨k, rfl⟩ : ∃ j, k = j + 1 := ⟨k - 1, by omega⟩
  rw [signatorylaw12_EqualProves.j0, if_neg (by decide), ref10_Valid_f k (by omega), Option.bind_some]
  by_cases hv : vld other = true
  · rw [if_pos hv]
    by_cases ho : other = d
    · rw [if_pos ho]
      exact EqualProves_j1 k (by omega) _ _ _ _ _ _ _ (.inl rfl)
    · rw [if_neg ho]
      refine EqualProves_j1 k (by omega) _ _ _ _ _ _ _ ?_
      by_cases he : e = 0
      · exact .inl (beq_iff_eq.2 he)
      · exact .inr ⟨hf, hv, ho, he⟩
  · rw [if_neg hv]
    exact EqualProves_j1 k (by omega) _ _ _ _ _ _ _ (.inl rfl)

theorem prv_no_secret {s a : Int} (h : isSecret s = false) : prv s a = (0, 0, 0, 110) := by unfold prv; rw [if_neg (by rw [h]; decide)]
theorem prv_no_vld {s a : Int} (hs : isSecret s = true) (h : vld a = false) : prv s a = (0, 0, 0, 100) := by unfold prv; rw [if_pos hs, if_neg (by rw [h]; decide)]

theorem EqualProves_f (secret a other : Int) (ha : i64 a) (hsi : i64 secret) : signatorylaw12_EqualProves.f 100 secret a other = some true := by
  unfold signatorylaw12_EqualProves.f
  rw [sane12 100 (by decide), Option.bind_some, if_pos rfl, equal_Prove_f 100 (by decide) secret a ha, Option.bind_some]
  cases hs : isSecret secret
  · rw [prv_no_secret hs, if_neg (by decide), if_pos rfl, if_pos (by decide)]
    unfold isSecret at hs
    by_cases h1 : secret < 1
    · rw [if_pos h1]
    · rw [if_neg h1, if_pos (by simp at hs; omega)]
  · cases hv : vld a
    · have hl := secret_lt hs
      rw [prv_no_vld hs hv, if_neg (by decide), if_pos rfl, if_pos (by decide), if_neg (by omega), if_neg (by omega), ref10_Valid_f 100 (by decide), Option.bind_some, hv]
      rfl
    · have hE := prvE_lt secret a
      have hf : frm (pwz 4 secret) a (pwz a secret) (prvE secret a) ((nonce secret a + prvE secret a * secret) % 1073741789) = true :=
        frm_iff.2 ⟨vld_pw vld_four secret, hv, vld_pw hv secret, inQ_iff.2 hE, inQ_iff.2 (by omega)⟩
      have hc := prv_chk hs hv
      rw [prv_secret hs hv, if_pos rfl, power12_f 100 (by decide) 4 secret vld_four hsi, Option.bind_some, power12_f 100 (by decide) a secret hv hsi, Option.bind_some, if_pos rfl, if_pos rfl, if_pos rfl, ref12_Formed_f 100 (by decide), Option.bind_some, hf, if_pos rfl]
      unfold equal_Check.f
      rw [hc, Option.bind_some]
      exact EqualProves_j0 100 (by decide) _ _ _ _ _ _ hf

end Go.Proofs.YthladfegmedpnaaDoor.P
