import Derived.Test.YthladfegmedpnaaDoorK7
import Derived.Test.YthladfegmedpnaaDoorK6
import Derived.StillTailTactics
import Derived.Test.YthladfegmedpnaaDoorK4
import Derived.Laws.EntriesVeiled
import Derived.RangeFuncBox
import Derived.Outline
set_option linter.unusedVariables false
set_option linter.unusedSimpArgs false

namespace Go.Proofs.YthladfegmedpnaaDoor.P
open Go.RowKit Go.Proofs.YthladfegmedpnaaDoorW.PrintWords Go.Proofs.YthladfegmedpnaaDoorW.PrintLast Go.Proofs.YthladfegmedpnaaDoorW.PrintMore Go.Proofs.YthladfegmedpnaaDoor
set_option linter.unusedVariables false
set_option linter.unusedSimpArgs false

/-- A call of a function's value, with what it has caught. -/
theorem goesV_ {P : Program} {ops : Array Oper} {Q : Exit → Act → World → Prop} {oi : Oper} {N : Option Tmp} {a : Act} {w : World} {K : Act → World → Prop} {f : FuncId} {fn : Func} {vo : Operand} {xs_ : Array Operand} {ts : Array TypeId} {cap : Array Value} (hf : P.funcs[f]? = some fn) (hname : (fn.name == "runtime.NumGoroutine") = false) (hb : fn.body.isSome = true) (args : Array Value)
    (hw : Region.wanted oi (yielded ops a.tmps) = true) (hN : oi.dst = N) (hop : oi.op = .call { callee := .value vo, args := xs_, argTypes := ts }) (hev : a.eval vo = .func (.func f) #[] cap) (hargs : xs_.map a.eval ++ cap = args)
    (h : Calls P f args w fun e w' => ∃ v, e = .returned v ∧ K (a.put N v) w') : if Region.wanted oi (yielded ops a.tmps) = true then Oper.wp P oi a w K Q else K (a.put N undef) w := by
  refine call_ f args hw hN ?_ h
  have he := enters_ hf hname hb args w
  unfold execOp
  simp [hop, resolve, Deferred.ofValue, invoke, hev, hargs, he]

/-- the table of the writers. -/
def Writers (w : World) (g b : Nat) : Prop :=
  w.heap[g]? = some (.cells #[.nilFunc, .func (.func 73) #[] #[], .func (.func 76) #[] #[], .func (.func 77) #[] #[.pointer (some ⟨b, 0, none⟩)]] 88 (0, 0)) ∧
  w.heap[b]? = some (.cells #[.pointer (some ⟨g, 0, none⟩)] 67 (0, 0))

set_option maxHeartbeats 4000000 in
set_option maxRecDepth 100000 in
theorem newWriter_makes (w : World) :
    Calls Tryd.prog 55 #[] w fun e w' => e = .returned (.pointer (some ⟨w.heap.size, 0, none⟩)) ∧ Writers w' w.heap.size (w.heap.size + 1) ∧ Below w.heap.size w w' := by
  have hmf : ∀ (fn : Fn) (first cap : Array Value) (w : World), (Instr.makeFunc fn first cap).run Tryd.prog w = .ok (.func fn first cap) w := fun _ _ _ _ => rfl
  go_enter Tryd.func55, Tryd.ntmps55
  go_wp2
  go_ret
  exact ⟨rfl, ⟨(Below.heap_alloc _ _ _ (by simp)).trans (World.alloc_heap_new _ _), by have := World.alloc_heap_new (w.alloc (.cells #[.nilFunc, .func (.func 73) #[] #[], .func (.func 76) #[] #[], .func (.func 77) #[] #[.pointer (some ⟨w.heap.size + 1, 0, none⟩)]] 88)) (.cells #[.pointer (some ⟨w.heap.size, 0, none⟩)] 67); rwa [World.size_alloc] at this⟩, ((Below.refl _ _).alloc (Nat.le_refl _) _).alloc (by simp) _⟩

def writer3.T1 : Bool × List (List Nat × List Nat) := (true, [([], []), ([], []), ([0, 1], [0, 1]), ([], []), ([3], [3]), ([4], [4]), ([5], [5]), ([2, 6, 2], [2, 6]), ([7, 7, 0, 1, 2, 3, 4, 5, 6, 7], [0, 7])])
def writer3.B1 : List Nat := [0, 0, 3, 0, 8, 24, 56, 127, 255]
theorem writer3.tab1 : rtab .any (opsOf Tryd.f77 1) = writer3.T1 := by kernel_rfl
theorem writer3.bits1 : waitsOk writer3.T1.2 writer3.B1 = true := by kernel_rfl

set_option maxHeartbeats 8000000 in
set_option maxRecDepth 100000 in
theorem writer3 (g b : Nat) (A : Option Addr) (c : Nat) (l : List S42) (w : World) (hr : Kd.C k42 w A l.length l) (hl : l.length ≤ 100) (hi : l.all isInt = true) (hw : Writers w g b) :
    Calls Tryd.prog 77 #[.slice none 0 0, .agg #[.int .i64 3, .int .i64 0, .string ⟨#[]⟩, .slice A l.length c], .pointer (some ⟨b, 0, none⟩)] w fun e w' => ∃ v0_ : Value, e = .returned v0_ ∧ Kd.R (Kd.int .u8) 5 w' w.heap.size (fun _ => True) v0_ (encInts (l.map (·.f1))) ∧ Below w.heap.size w w' := by
  have hu42 := Tryd.underlying42
  have HR := Aside0.mk hr
  have HI := Aside0.mk hi
  have HW := Aside0.mk hw
  have HL := Aside0.mk hl
  clear hr hi hw
  have HO0 := Aside0.mk (Kd.R_nil (Kd.int .u8) 5 w w.heap.size (fun k_ => (False ∨ w.heap.size ≤ k_)))
  have HK := Aside0.mk (Kept.refl w (fun k_ => False))
  have HW0 := Aside0.mk (Nat.le_refl w.heap.size)
  have HB := Aside0.mk (Below.refl w.heap.size w)
  have LMc3 : Aside0 (([] : List Int).length < 140737488355328) := ⟨by simp⟩
  obtain ⟨y108, hy108⟩ : ∃ y_ : List Int, y_ = ([] ++ [3]) := ⟨_, rfl⟩
  obtain ⟨t111, ht111⟩ : ∃ t_ : List Int, t_ = encTo (l.map (·.f1)) 0 := ⟨_, rfl⟩
  have A4 : Aside0 (codec_numeral.f 11 y108 (IntKind.u64.wrap ((l.length : Int))) = some t111) := ⟨by
    have e : IntKind.u64.wrap ((l.length : Int)) = (l.length : Int) := by rw [wrap_u64]; omega
    rw [hy108, ht111, e, codec_numeral_f _ _ (by omega) (by simp)]
    simp [encTo]⟩
  have Ny108 := Aside0.mk hy108
  have Nt111 := Aside0.mk ht111
  clear hy108 ht111
  go_enter Tryd.func77, Tryd.ntmps77
  try go_wp2_with (first | ((with_reducible refine gate_dst (N := 4) rfl ?_); refine box_event ?hg (N := 4) ?hd (cs := #[.int .i64 3, .int .i64 0, .string ⟨#[]⟩, .slice A l.length c]) (t := 42) ?hr ?_; (case hd => rfl); (case hg => rfl); (case hr => first | (go_simp; done) | (go_simp; rfl)); intro gb107 hg w5 hbox hb; have n0_ := Aside0.mk (Kd.R_below (by (with_reducible repeat (first | apply Kd.R_alloc | apply Kd.R_drewN | apply Kd.R_drew)); exact HO0.out) hb); have n1_ := Aside0.mk (Kept.below (S := (fun k_ => False)) (by repeat (first | (with_reducible first | exact HK.out | apply Kept.alloc | apply Kept.drewN | apply Kept.drew) | exact HK.out)) hb); have n2_ := Aside0.mk (below_step (by repeat (first | (with_reducible first | exact HB.out | apply below_alloc | apply pw_below_drewN | apply below_drew1) | exact HB.out)) hb); have n3_ := Aside0.mk (hbox); have n4_ := Aside0.mk ((by rw [hg]; exact (by first | exact HK.out.1 | exact (show Kept w _ (fun k_ => False) from by repeat (first | (with_reducible first | exact HK.out | apply Kept.alloc | apply Kept.drewN | apply Kept.drew) | exact HK.out)).1) : w.heap.size ≤ gb107)); have n5_ := Aside0.mk ((by rw [hg]; exact (below_size (by repeat (first | (with_reducible first | exact HB.out | apply below_alloc | apply pw_below_drewN | apply below_drew1) | exact HB.out))) : w.heap.size ≤ gb107)); clear HO0; clear HK; clear HB; have HO0 := n0_; have HK := n1_; have HB := n2_; have BK107 := n3_; have GW107 := n4_; have GE107 := n5_; clear n0_ n1_ n2_ n3_ n4_ n5_; clear hb hbox hg))
  have n0_ := Aside0.mk (Kd.R_drew HO0.out)
  have n1_ := Aside0.mk (blk_drew BK107.out)
  have n2_ := Aside0.mk (Kept.drew HK.out)
  have n3_ := Aside0.mk (below_drew1 HB.out)
  clear HO0
  clear BK107
  clear HK
  clear HB
  have HO0 := n0_
  have BK107 := n1_
  have HK := n2_
  have HB := n3_
  clear n0_ n1_ n2_ n3_
  refine start_ (n := 9) (S := fun w' => w'.cell? ⟨gb107, 0, none⟩ = some (.int .i64 3) ∧ w'.cell? ⟨gb107, 1, none⟩ = some (.int .i64 0) ∧ w'.cell? ⟨gb107, 2, none⟩ = some (.string ⟨#[]⟩) ∧ w'.cell? ⟨gb107, 3, none⟩ = some (.slice A l.length c)) (ds := []) #[false, false, false, false, false, false, false, false, false] (by kernel_rfl) rfl rfl ⟨(blk_cell BK107.out 0).trans rfl, (blk_cell BK107.out 1).trans rfl, (blk_cell BK107.out 2).trans rfl, (blk_cell BK107.out 3).trans rfl⟩ (fun hHeld => ?_); refine with_tabW writer3.tab1 writer3.bits1 (fun HT_ HW_ => ?_)
  generalize w5.drew = w6 at HO0 BK107 HK HB hHeld ⊢
  refine pure_ (i := 0) (N := some 8) (v := ?_) (a' := ?_) #[true, false, false, false, false, false, false, false, false] rfl rfl (any_of HT_.out (by kernel_rfl)) (fun _ _ _ h => h) (Or.inl ⟨by rfl, ?_⟩) ?_ ?_
  rotate_left
  · intro w'
    go_simp
    with_reducible rfl
  rotate_left
  · simp only [Act.put, List.setIfInBounds_toArray, List.set_cons_zero, List.set_cons_succ, i64_w, i32_w]
    rfl
  refine pure_ (i := 3) (N := some 11) (v := ?_) (a' := ?_) #[true, false, false, true, false, false, false, false, false] rfl rfl (any_of HT_.out (by kernel_rfl)) (fun _ _ _ h => h) (Or.inl ⟨by rfl, ?_⟩) ?_ ?_
  rotate_left
  · intro w'
    go_simp
    with_reducible rfl
  rotate_left
  · simp only [Act.put, List.setIfInBounds_toArray, List.set_cons_zero, List.set_cons_succ, i64_w, i32_w]
    rfl
  refine take_ (i := 4) (N := some 12) (v := ?_) (a' := ?_) #[true, false, false, true, true, false, false, false, false] rfl rfl (take_ofW HT_.out HW_.out (by kernel_rfl)) (fun _ _ _ h => h) (Or.inl ⟨by rfl, ?_⟩) hHeld ?_ ?_
  rotate_left
  · rintro w' ⟨s0, s1, s2, s3⟩
    go_simp
    with_reducible rfl
  rotate_left
  · simp only [Act.put, List.setIfInBounds_toArray, List.set_cons_zero, List.set_cons_succ, i64_w, i32_w]
    rfl
  refine pure_ (i := 5) (N := some 13) (v := ?_) (a' := ?_) #[true, false, false, true, true, true, false, false, false] rfl rfl (any_of HT_.out (by kernel_rfl)) (fun _ _ _ h => h) (Or.inl ⟨by rfl, ?_⟩) ?_ ?_
  rotate_left
  · intro w'
    go_simp
    with_reducible rfl
  rotate_left
  · simp only [Act.put, List.setIfInBounds_toArray, List.set_cons_zero, List.set_cons_succ, i64_w, i32_w]
    rfl
  refine pure_ (i := 6) (N := some 14) (v := ?_) (a' := ?_) #[true, false, false, true, true, true, true, false, false] rfl rfl (any_of HT_.out (by kernel_rfl)) (fun _ _ _ h => h) (Or.inl ⟨by rfl, ?_⟩) ?_ ?_
  rotate_left
  · intro w'
    go_simp
    with_reducible rfl
  rotate_left
  · simp only [Act.put, List.setIfInBounds_toArray, List.set_cons_zero, List.set_cons_succ, i64_w, i32_w]
    rfl
  refine one_ (i := 1) (N := some 9) #[true, true, false, true, true, true, true, false, false] rfl rfl (one_of HT_.out (by kernel_rfl)) (by decide) (fun K hK => ?_)
  refine value_ (w1 := ?_) (v := ?_) (by rfl) rfl ?_ ?_
  rotate_left 2
  · go_simp
    constructor
    · rfl
    · rfl
  refine hK.out _ _ ⟨(blk_cell (blk_alloc BK107.out _) 0).trans rfl, (blk_cell (blk_alloc BK107.out _) 1).trans rfl, (blk_cell (blk_alloc BK107.out _) 2).trans rfl, (blk_cell (blk_alloc BK107.out _) 3).trans rfl⟩ (fun hHeld => ?_)
  clear hK K
  refine norm_ (a' := ?_) ?_ ?_
  rotate_left
  · show Act.put _ (some 9) _ = _
    simp only [Act.put, List.setIfInBounds_toArray, List.set_cons_zero, List.set_cons_succ, i64_w, i32_w]
    rfl
  refine one_ (i := 2) (N := some 10) #[true, true, true, true, true, true, true, false, false] rfl rfl (one_of HT_.out (by kernel_rfl)) (by decide) (fun K hK => ?_)
  refine Kd.R_append_step (Kd.int .u8) (w0 := w) w.heap.size (by rfl) (.tmp 8) (.tmp 9) 43 5 (.int .u8 0) 1 rfl Tryd.underlying43 info5 rfl (by decide) (by omega) (.slice none 0 0) [] 3 [.int .u8 3] (fun k_ => (False ∨ w.heap.size ≤ k_)) (fun _ => False) rfl rfl ?aP (fun _ hk => hk.elim) ?aF ?aO ?aB ?aS ?aL ?_
  (case aP => exact rfl)
  (case aB => exact (by repeat (first | (with_reducible first | exact HB.out | apply below_alloc | apply pw_below_drewN | apply below_drew1 | refine below_set ?_ GE107.out) | exact HB.out)))
  (case aF => exact (fun k_ hk => (.inr (Nat.le_trans (by first | exact HK.out.1 | exact (show Kept w _ (fun k_ => False) from by repeat (first | (with_reducible first | exact HK.out | apply Kept.alloc | apply Kept.drewN | apply Kept.drew | refine Kept.setCell ?_ (.inr GW107.out) _) | exact HK.out)).1) hk))))
  (case aO => exact (by (with_reducible repeat (first | apply Kd.R_alloc | apply Kd.R_drewN | apply Kd.R_drew)); exact HO0.out))
  (case aS => exact (below_size (by repeat (first | (with_reducible first | exact HB.out | apply below_alloc | apply pw_below_drewN | apply below_drew1 | refine below_set ?_ GE107.out) | exact HB.out))))
  (case aL => have := LMc3.out; omega)
  intro v109 w7 ho hb hg hat
  rw [← Ny108.out] at ho
  have n0_ := Aside0.mk (blk_grown (g := gb107) (o := .cells #[.int .i64 3, .int .i64 0, .string ⟨#[]⟩, .slice A l.length c] 42 (0, 0)) (by (with_reducible repeat (first | refine blk_drewN ?_ _ | refine blk_drew ?_ | refine blk_alloc ?_ _)); exact BK107.out) hg (Kd.R_ne HO0.out BK107.out (by decide)))
  have n1_ := Aside0.mk (hb)
  have n2_ := Aside0.mk (Kept.of_grown (S := (fun k_ => False)) hg (by repeat (first | (with_reducible first | exact HK.out | apply Kept.alloc | apply Kept.drewN | apply Kept.drew | refine Kept.setCell ?_ (.inr GW107.out) _) | exact HK.out)) (fun k_ e_ => (HO0.out.1 k_ e_)))
  have n3_ := Aside0.mk (ho)
  clear BK107
  clear HB
  clear HK
  clear HO0
  have BK107 := n0_
  have HB := n1_
  have HK := n2_
  have HO110 := n3_
  clear n0_ n1_ n2_ n3_
  clear ho hb hg hat
  obtain ⟨Ao8, co8, eo8⟩ := Kd.R_slice HO110.out
  (first | subst eo8 | (injection eo8 with f1_ f2_ f3_; have f4_ := f1_.symm; have f5_ := f3_.symm; clear f1_ f2_ f3_; subst f4_; subst f5_))
  refine hK.out _ _ ⟨(blk_cell BK107.out 0).trans rfl, (blk_cell BK107.out 1).trans rfl, (blk_cell BK107.out 2).trans rfl, (blk_cell BK107.out 3).trans rfl⟩ (fun hHeld => ?_)
  clear hK K
  refine norm_ (a' := ?_) ?_ ?_
  rotate_left
  · show Act.put _ (some 10) _ = _
    simp only [Act.put, List.setIfInBounds_toArray, List.set_cons_zero, List.set_cons_succ, i64_w, i32_w]
    rfl
  refine one_ (i := 7) (N := some 15) #[true, true, true, true, true, true, true, true, false] rfl rfl (one_of HT_.out (by kernel_rfl)) (by decide) (fun K hK => ?_)
  refine goes_ Tryd.func74 (by kernel_rfl) rfl #[.slice Ao8 y108.length co8, .int .u64 (IntKind.u64.wrap ((l.length : Int)))] (by rfl) rfl rfl (by (try simp only [List.map_toArray, List.map_cons, List.map_nil]); first | done | rfl | (simp only [List.length_drop, List.length_take]; rfl)) ?_
  with_reducible refine (codec_numeral.calls 11 (fun k_ => some k_ = (.slice Ao8 y108.length co8 : Value).ownBlock) (.slice Ao8 y108.length co8) y108 (IntKind.u64.wrap ((l.length : Int))) t111 w _ ?side1 ?side2 A4.out).mono ?_
  (case side1 => repeat (first | (with_reducible first | exact HB.out | apply below_alloc | apply pw_below_drewN | apply below_drew1 | refine below_set ?_ GE107.out) | exact HB.out))
  (case side2 => exact Kd.R_tight rfl HO110.out)
  rintro e w9 ⟨v112, rfl, ho0, hb, hkp⟩
  refine ⟨_, rfl, ?_⟩
  have n0_ := Aside0.mk (blk_kept (by (with_reducible repeat (first | refine blk_drewN ?_ _ | refine blk_drew ?_ | refine blk_alloc ?_ _)); exact BK107.out) hkp (fun hs_ => (fun e_ => (Kd.R_ne HO110.out BK107.out (by decide)) e_) hs_))
  have n1_ := Aside0.mk (Kd.R_mono (ok' := fun k_ => (False ∨ w.heap.size ≤ k_)) ho0 (fun k_ hk_ => Or.elim hk_ (fun hs_ => (HO110.out.1 k_ (hs_).symm)) (fun hn_ => (.inr (Nat.le_trans (by first | exact HK.out.1 | exact (show Kept w _ (fun k_ => False) from by repeat (first | (with_reducible first | exact HK.out | apply Kept.alloc | apply Kept.drewN | apply Kept.drew | refine Kept.setCell ?_ (.inr GW107.out) _) | exact HK.out)).1) hn_)))))
  have n2_ := Aside0.mk (Kept.then_ (S := (fun k_ => False)) (by repeat (first | (with_reducible first | exact HK.out | apply Kept.alloc | apply Kept.drewN | apply Kept.drew | refine Kept.setCell ?_ (.inr GW107.out) _) | exact HK.out)) hkp (fun k_ hs_ => (fun e_ => (HO110.out.1 k_ e_.symm)) hs_))
  have n3_ := Aside0.mk (hb)
  clear BK107
  clear HK
  clear HB
  clear HO110
  have BK107 := n0_
  have HO113 := n1_
  have HK := n2_
  have HB := n3_
  clear n0_ n1_ n2_ n3_
  (try clear hb)
  (try clear hkp)
  (try clear ho0)
  refine hK.out _ _ ⟨(blk_cell BK107.out 0).trans rfl, (blk_cell BK107.out 1).trans rfl, (blk_cell BK107.out 2).trans rfl, (blk_cell BK107.out 3).trans rfl⟩ (fun hHeld => ?_)
  clear hK K
  refine norm_ (a' := ?_) ?_ ?_
  rotate_left
  · show Act.put _ (some 15) _ = _
    simp only [Act.put, List.setIfInBounds_toArray, List.set_cons_zero, List.set_cons_succ, i64_w, i32_w]
    rfl
  refine pure_ (i := 8) (N := some 0) (v := ?_) (a' := ?_) #[true, true, true, true, true, true, true, true, true] rfl rfl (any_of HT_.out (by kernel_rfl)) (fun _ _ _ h => h) (Or.inl ⟨by rfl, ?_⟩) ?_ ?_
  rotate_left
  · intro w'
    go_simp
    with_reducible rfl
  rotate_left
  · simp only [Act.put, List.setIfInBounds_toArray, List.set_cons_zero, List.set_cons_succ, i64_w, i32_w]
    rfl
  refine done_ (done_of HT_.out (by kernel_rfl)) ?_
  clear A4 HT_ HW_ hHeld
  have hc3 : w9.cell? ⟨gb107, 3, none⟩ = some (.slice A l.length c) := (blk_cell BK107.out 3).trans rfl
  rw [Nt111.out] at HO113
  clear BK107
  go_wp2
  have HO := HO113
  clear HO113 hHeld hc3
  go_loopw [0, 19] (fun v i wr => ∃ k : Nat, k ≤ l.length ∧ i = .int .i64 k ∧ Aside0 ((Kd.int .u8).R 5 wr w.heap.size (fun k_ => False ∨ w.heap.size ≤ k_) v (encTo (l.map (·.f1)) k)) ∧ Aside0 (Below w.heap.size w wr)) (fun _ i _ => l.length - (intOf i).toNat)
  case atStart => exact ⟨0, Nat.zero_le _, rfl, HO, HB⟩
  case round =>
    obtain ⟨k, hk, rfl, HOr, HBr⟩ := hrel
    by_cases hlt : k < l.length
    · have hlt' : (k : Int) < (l.length : Int) := by omega
      obtain ⟨ad, A3, c3, rfl, hc0, hc1, hc2, hc3, hle, hsub⟩ := at_T42 (Kd.C_below HR.out HBr.out) k (by omega) hlt'
      obtain ⟨e0, e2, e3, e1⟩ := isInt_at HI.out k (by omega) hlt'
      rw [e0] at hc0; rw [e2] at hc2; rw [e3] at hc3
      rw [Int.toNat_natCast] at hc0 hc1 hc2 hc3
      have E1 := Aside0.mk e1
      have EN : Aside0 ((rd_T42 l k).f1 = (l.map (·.f1)).getD k 0) := ⟨by
        unfold rd_T42
        simp [List.getD_eq_getElem?_getD, List.getElem?_eq_getElem hlt]⟩
      generalize (rd_T42 l k).f1 = n at hc1 E1 EN
      clear e0 e1 e2 e3 hle hsub hlt
      obtain ⟨hg1, hg2⟩ := HW.out
      have hgl : g < w.heap.size := (Array.getElem?_eq_some_iff.1 hg1).1
      have hbl : b < w.heap.size := (Array.getElem?_eq_some_iff.1 hg2).1
      have hC1 : ∀ W : World, Below w.heap.size w W → W.cell? ⟨g, 1, none⟩ = some (.func (.func 73) #[] #[]) := fun W hW => by rw [Below.cell hW hgl]; simp [World.cell?, World.cells?, hg1]
      have hC2 : ∀ W : World, Below w.heap.size w W → W.cell? ⟨b, 0, none⟩ = some (.pointer (some ⟨g, 0, none⟩)) := fun W hW => by rw [Below.cell hW hbl]; simp [World.cell?, World.cells?, hg2]
      have hd1 := hC1 _ HBr.out
      have hd2 := hC2 _ HBr.out
      clear hg1 hg2 hgl hbl
      have HC := Aside0.mk (And.intro hC1 hC2)
      clear hC1 hC2
      go_wp2
      have HO2 := Aside0.mk (Kd.R_alloc HOr.out (Obj.cells #[.int .i64 1, .int .i64 n, .string ⟨#[]⟩, .slice A3 0 c3] 42))
      have HB2 := Aside0.mk (below_alloc HBr.out (Obj.cells #[.int .i64 1, .int .i64 n, .string ⟨#[]⟩, .slice A3 0 c3] 42))
      have hx := World.alloc_heap_new wr (Obj.cells #[.int .i64 1, .int .i64 n, .string ⟨#[]⟩, .slice A3 0 c3] 42)
      have hx0 : (wr.alloc (Obj.cells #[.int .i64 1, .int .i64 n, .string ⟨#[]⟩, .slice A3 0 c3] 42)).cell? ⟨wr.heap.size, 0, none⟩ = some (.int .i64 1) := (blk_cell hx 0).trans rfl
      have hx1 : (wr.alloc (Obj.cells #[.int .i64 1, .int .i64 n, .string ⟨#[]⟩, .slice A3 0 c3] 42)).cell? ⟨wr.heap.size, 1, none⟩ = some (.int .i64 n) := (blk_cell hx 1).trans rfl
      have hx2 : (wr.alloc (Obj.cells #[.int .i64 1, .int .i64 n, .string ⟨#[]⟩, .slice A3 0 c3] 42)).cell? ⟨wr.heap.size, 2, none⟩ = some (.string ⟨#[]⟩) := (blk_cell hx 2).trans rfl
      have hx3 : (wr.alloc (Obj.cells #[.int .i64 1, .int .i64 n, .string ⟨#[]⟩, .slice A3 0 c3] 42)).cell? ⟨wr.heap.size, 3, none⟩ = some (.slice A3 0 c3) := (blk_cell hx 3).trans rfl
      have hd1 := HC.out.1 _ HB2.out
      have hd2 := HC.out.2 _ HB2.out
      clear hx hc0 hc1 hc2 hc3
      generalize wr.alloc (Obj.cells #[.int .i64 1, .int .i64 n, .string ⟨#[]⟩, .slice A3 0 c3] 42) = wa at HO2 HB2 hx0 hx1 hx2 hx3 hd1 hd2 ⊢
      obtain ⟨Au, cu, rfl⟩ := Kd.R_slice HO2.out
      go_still_tail 9, (by kernel_rfl)
      change wpList _ _ _ _ _ wa.drew
      have HO3 := Aside0.mk (Kd.R_drew HO2.out)
      have HB3 := Aside0.mk (below_drew1 HB2.out)
      clear HO2 HB2 hx0 hx1 hx2 hx3 hd1 hd2
      generalize wa.drew = wb at HO3 HB3 ⊢
      go_wp2_with fail
      refine (codec_newWriter_1.calls 11 (fun k_ => some k_ = (.slice Au (encTo (l.map (·.f1)) k).length cu : Value).ownBlock) (.slice Au (encTo (l.map (·.f1)) k).length cu) (encTo (l.map (·.f1)) k) 1 n ⟨#[]⟩ A3 c3 [] (encTo (l.map (·.f1)) (k + 1)) w _ HB3.out (Kd.R_tight rfl HO3.out) ?hr ?hc ?hf).mono ?_
      case hc => exact Nat.zero_le _
      case hf =>
        rw [codec_writer1_f _ E1.out (by have := encTo_length (l.map (·.f1)) k (by simpa using HL.out); omega), encTo_succ _ _ (by simpa using hlt'), EN.out]
      case hr => 
        intro W_ _
        exact ⟨rfl, by decide, fun h => absurd h (by decide)⟩
      rintro e w2 ⟨v2, rfl, ho, hb, hkp⟩
      have HO4 := Aside0.mk (Kd.R_mono (ok' := fun k_ => (False ∨ w.heap.size ≤ k_)) ho (fun k_ hk_ => Or.elim hk_ (fun hs_ => (HO3.out.1 k_ (hs_).symm)) (fun hn_ => .inr (Nat.le_trans HB3.out.size hn_))))
      have HB4 := Aside0.mk hb
      clear ho hb hkp HO3 HB3
      go_wp2
      go_roundw
      case rel => exact ⟨k + 1, by omega, by go_num, HO4, HB4⟩
      case measure => simp [intOf]; omega
    · have hlt' : ¬ (k : Int) < (l.length : Int) := by omega
      have ek : k = l.length := by omega
      subst ek
      clear hlt
      go_wp2
      go_ret
      refine ⟨_, rfl, ?_, HBr.out⟩
      have := HOr.out
      rw [show encTo (l.map (·.f1)) l.length = encInts (l.map (·.f1)) from by have := encTo_all (l.map (·.f1)); rwa [List.length_map] at this] at this
      exact Kd.R_mono this (fun _ _ => trivial)

set_option maxHeartbeats 8000000 in
set_option maxRecDepth 100000 in
theorem codec_Encode_ints (A : Option Addr) (c : Nat) (l : List S42) (w : World) (hr : Kd.C k42 w A l.length l) (hl : l.length ≤ 100) (hi : l.all isInt = true) :
    Calls Tryd.prog 24 #[.agg #[.int .i64 3, .int .i64 0, .string ⟨#[]⟩, .slice A l.length c]] w fun e w' => ∃ v0_ : Value, e = .returned (.tuple #[v0_, .int .i64 0]) ∧ Kd.R (Kd.int .u8) 5 w' w.heap.size (fun _ => True) v0_ (encInts (l.map (·.f1))) ∧ Below w.heap.size w w' := by
  have hu42 := Tryd.underlying42
  have HR := Aside0.mk hr
  have HI := Aside0.mk hi
  have HL := Aside0.mk hl
  clear hr hi hl
  have hx := World.alloc_heap_new w (Obj.cells #[.int .i64 3, .int .i64 0, .string ⟨#[]⟩, .slice A l.length c] 42)
  have HX := Aside0.mk hx
  clear hx
  go_enter Tryd.func24, Tryd.ntmps24
  go_wp2_with fail
  refine (codec_check A c l _ (Kd.C_below HR.out (below_alloc (Below.refl _ _) _)) HL.out HI.out).mono ?_
  rintro e w2 ⟨rfl, hb⟩
  have HB : Aside0 (Below w.heap.size w w2) := ⟨below_step (below_alloc (Below.refl _ _) _) hb⟩
  have HX2 : Aside0 (w2.heap[w.heap.size]? = some (.cells #[.int .i64 3, .int .i64 0, .string ⟨#[]⟩, .slice A l.length c] 42 (0, 0))) := ⟨(hb.block _ (by simp)).trans HX.out⟩
  have HS2 : Aside0 (w.heap.size < w2.heap.size) := ⟨(Array.getElem?_eq_some_iff.1 HX2.out).1⟩
  clear hb HX
  go_wp2_with fail
  refine start_ (n := 11) (S := fun w' => w'.cell? ⟨w.heap.size, 0, none⟩ = some (.int .i64 3) ∧ w'.cell? ⟨w.heap.size, 1, none⟩ = some (.int .i64 0) ∧ w'.cell? ⟨w.heap.size, 2, none⟩ = some (.string ⟨#[]⟩) ∧ w'.cell? ⟨w.heap.size, 3, none⟩ = some (.slice A l.length c)) (ds := []) #[false, false, false, false, false, false, false, false, false, false, false] (by kernel_rfl) rfl rfl ⟨(blk_cell HX2.out 0).trans rfl, (blk_cell HX2.out 1).trans rfl, (blk_cell HX2.out 2).trans rfl, (blk_cell HX2.out 3).trans rfl⟩ (fun hHeld => ?_)
  have HX3 : Aside0 (w2.drew.heap[w.heap.size]? = some (.cells #[.int .i64 3, .int .i64 0, .string ⟨#[]⟩, .slice A l.length c] 42 (0, 0))) := ⟨HX2.out⟩
  have HB3 : Aside0 (Below w.heap.size w w2.drew) := ⟨below_drew1 HB.out⟩
  have HS3 : Aside0 (w.heap.size < w2.drew.heap.size) := ⟨HS2.out⟩
  clear HX2 HB HS2
  generalize w2.drew = w3 at HX3 HB3 HS3 hHeld ⊢
  refine pure_ (i := 1) (N := some 11) (v := ?_) (a' := ?_) #[false, true, false, false, false, false, false, false, false, false, false] rfl rfl (by kernel_rfl) (fun _ _ _ h => h) (Or.inl ⟨by rfl, ?_⟩) ?_ ?_
  rotate_left
  · intro w'
    go_simp
    with_reducible rfl
  rotate_left
  · simp only [Act.put, List.setIfInBounds_toArray, List.set_cons_zero, List.set_cons_succ, i64_w, i32_w]
    rfl
  refine take_ (i := 2) (N := some 12) (v := ?_) (a' := ?_) #[false, true, true, false, false, false, false, false, false, false, false] rfl rfl (by kernel_rfl) (fun _ _ _ h => h) (Or.inl ⟨by rfl, ?_⟩) hHeld ?_ ?_
  rotate_left
  · rintro w' ⟨s0, s1, s2, s3⟩
    go_simp
    with_reducible rfl
  rotate_left
  · simp only [Act.put, List.setIfInBounds_toArray, List.set_cons_zero, List.set_cons_succ, i64_w, i32_w]
    rfl
  refine take_ (i := 7) (N := some 17) (v := ?_) (a' := ?_) #[false, true, true, false, false, false, false, true, false, false, false] rfl rfl (by kernel_rfl) (fun _ _ _ h => h) (Or.inl ⟨by rfl, ?_⟩) hHeld ?_ ?_
  rotate_left
  · rintro w' ⟨s0, s1, s2, s3⟩
    go_simp
    with_reducible rfl
  rotate_left
  · simp only [Act.put, List.setIfInBounds_toArray, List.set_cons_zero, List.set_cons_succ, i64_w, i32_w]
    rfl
  clear hHeld
  refine one_ (i := 0) (N := some 10) #[true, true, true, false, false, false, false, true, false, false, false] rfl rfl (by kernel_rfl) (by decide) (fun K hK => ?_)
  refine goes_ Tryd.func55 (by kernel_rfl) rfl #[] (by rfl) rfl rfl (by first | rfl | simp) ?_
  refine (newWriter_makes w3).mono ?_
  rintro e w4 ⟨rfl, hwr, hb⟩
  refine ⟨_, rfl, ?_⟩
  have HX4 := Aside0.mk ((hb.block _ HS3.out).trans HX3.out)
  have HB4 := Aside0.mk (below_step HB3.out hb)
  have HW4 := Aside0.mk hwr
  have HS4 := Aside0.mk (Nat.lt_of_lt_of_le HS3.out hb.size)
  clear hb hwr HX3 HB3
  refine hK.out _ _ ⟨(blk_cell HX4.out 0).trans rfl, (blk_cell HX4.out 1).trans rfl, (blk_cell HX4.out 2).trans rfl, (blk_cell HX4.out 3).trans rfl⟩ (fun hHeld => ?_)
  clear hK K
  refine norm_ (a' := ?_) ?_ ?_
  rotate_left
  · show Act.put _ (some 10) _ = _
    simp only [Act.put, List.setIfInBounds_toArray, List.set_cons_zero, List.set_cons_succ, i64_w, i32_w]
    rfl
  refine pure_ (i := 3) (N := some 13) (v := ?_) (a' := ?_) #[true, true, true, true, false, false, false, true, false, false, false] rfl rfl (by kernel_rfl) (fun _ _ _ h => h) (Or.inl ⟨by rfl, ?_⟩) ?_ ?_
  rotate_left
  · intro w'
    go_simp
    with_reducible rfl
  rotate_left
  · simp only [Act.put, List.setIfInBounds_toArray, List.set_cons_zero, List.set_cons_succ, i64_w, i32_w]
    rfl
  refine pure_ (i := 4) (N := some 14) (v := ?_) (a' := ?_) #[true, true, true, true, true, false, false, true, false, false, false] rfl rfl (by kernel_rfl) (fun _ _ _ h => h) (Or.inl ⟨by rfl, ?_⟩) ?_ ?_
  rotate_left
  · intro w'
    go_simp
    with_reducible rfl
  rotate_left
  · simp only [Act.put, List.setIfInBounds_toArray, List.set_cons_zero, List.set_cons_succ, i64_w, i32_w]
    rfl
  refine pure_ (i := 5) (N := some 15) (v := ?_) (a' := ?_) #[true, true, true, true, true, true, false, true, false, false, false] rfl rfl (by kernel_rfl) (fun _ _ _ h => h) (Or.inl ⟨by rfl, ?_⟩) ?_ ?_
  rotate_left
  · intro w'
    go_simp
    with_reducible rfl
  rotate_left
  · simp only [Act.put, List.setIfInBounds_toArray, List.set_cons_zero, List.set_cons_succ, i64_w, i32_w]
    rfl
  refine one_ (i := 6) (N := some 16) #[true, true, true, true, true, true, true, true, false, false, false] rfl rfl (by kernel_rfl) (by decide) (fun K hK => ?_)
  have hc3 : w4.cell? ⟨w3.heap.size, 3, none⟩ = some (.func (.func 77) #[] #[.pointer (some ⟨w3.heap.size + 1, 0, none⟩)]) := (blk_cell HW4.out.1 3).trans rfl
  refine value_ (w1 := ?_) (v := ?_) (by rfl) rfl ?_ ?_
  rotate_left 2
  · go_simp
    constructor
    · rfl
    · rfl
  refine hK.out _ _ ⟨(blk_cell HX4.out 0).trans rfl, (blk_cell HX4.out 1).trans rfl, (blk_cell HX4.out 2).trans rfl, (blk_cell HX4.out 3).trans rfl⟩ (fun hHeld => ?_)
  clear hK K hc3
  refine norm_ (a' := ?_) ?_ ?_
  rotate_left
  · show Act.put _ (some 16) _ = _
    simp only [Act.put, List.setIfInBounds_toArray, List.set_cons_zero, List.set_cons_succ, i64_w, i32_w]
    rfl
  refine one_ (i := 8) (N := some 18) #[true, true, true, true, true, true, true, true, true, false, false] rfl rfl (by kernel_rfl) (by decide) (fun K hK => ?_)
  refine goesV_ Tryd.func77 (by kernel_rfl) rfl #[.slice none 0 0, .agg #[.int .i64 3, .int .i64 0, .string ⟨#[]⟩, .slice A l.length c], .pointer (some ⟨w3.heap.size + 1, 0, none⟩)] (by rfl) rfl rfl rfl (by (try simp only [List.map_toArray, List.map_cons, List.map_nil]); first | rfl | simp) ?_
  refine (writer3 w3.heap.size (w3.heap.size + 1) A c l w4 (Kd.C_below HR.out HB4.out) HL.out HI.out HW4.out).mono ?_
  rintro e w5 ⟨v5, rfl, ho, hb⟩
  refine ⟨_, rfl, ?_⟩
  have HO5 := Aside0.mk (Kd.R_lower ho HB4.out.size)
  have HX5 := Aside0.mk ((hb.block _ HS4.out).trans HX4.out)
  have HB5 := Aside0.mk (below_step HB4.out hb)
  clear hb ho HX4 HB4
  refine hK.out _ _ ⟨(blk_cell HX5.out 0).trans rfl, (blk_cell HX5.out 1).trans rfl, (blk_cell HX5.out 2).trans rfl, (blk_cell HX5.out 3).trans rfl⟩ (fun hHeld => ?_)
  clear hK K
  refine norm_ (a' := ?_) ?_ ?_
  rotate_left
  · show Act.put _ (some 18) _ = _
    simp only [Act.put, List.setIfInBounds_toArray, List.set_cons_zero, List.set_cons_succ, i64_w, i32_w]
    rfl
  refine pure_ (i := 9) (N := some 2) (v := ?_) (a' := ?_) #[true, true, true, true, true, true, true, true, true, true, false] rfl rfl (by kernel_rfl) (fun _ _ _ h => h) (Or.inl ⟨by rfl, ?_⟩) ?_ ?_
  rotate_left
  · intro w'
    go_simp
    with_reducible rfl
  rotate_left
  · simp only [Act.put, List.setIfInBounds_toArray, List.set_cons_zero, List.set_cons_succ, i64_w, i32_w]
    rfl
  refine pure_ (i := 10) (N := some 3) (v := ?_) (a' := ?_) #[true, true, true, true, true, true, true, true, true, true, true] rfl rfl (by kernel_rfl) (fun _ _ _ h => h) (Or.inl ⟨by rfl, ?_⟩) ?_ ?_
  rotate_left
  · intro w'
    go_simp
    with_reducible rfl
  rotate_left
  · simp only [Act.put, List.setIfInBounds_toArray, List.set_cons_zero, List.set_cons_succ, i64_w, i32_w]
    rfl
  refine done_ (by kernel_rfl) ?_
  go_wp2
  go_ret2
  exact ⟨_, rfl, HO5.out, HB5.out⟩

theorem codec_Encode.calls (a0_0 : Int) (a0_1 : Int) (a0_2 : ByteArray) (A0_3 : Option Addr) (c0_3 : Nat) (l0_3 : List S42) (r1 : List Int) (r2 : Int) (w : World) (hr0_3 : Kd.C k42 w A0_3 l0_3.length l0_3) (hc0_3 : l0_3.length ≤ c0_3) (h : codec_Encode.f a0_0 a0_1 a0_2 l0_3 = some (r1, r2)) :
    Calls Tryd.prog 24 #[.agg #[.int .i64 a0_0, .int .i64 a0_1, .string a0_2, .slice A0_3 l0_3.length c0_3]] w fun e w' => ∃ v0_ : Value, e = .returned (.tuple #[v0_, .int .i64 r2]) ∧ Kd.R (Kd.int .u8) 5 w' w.heap.size (fun _ => True) v0_ r1 ∧ Below w.heap.size w w' := by
  unfold codec_Encode.f at h
  split at h
  · rename_i hh
    obtain ⟨rfl, rfl, hs, hl, hi⟩ := hh
    injection h with h
    injection h with h1 h2
    subst h1 h2
    have e : a0_2 = ⟨#[]⟩ := by
      obtain ⟨⟨d⟩⟩ := a0_2
      cases d with
      | nil => rfl
      | cons x y => simp [ByteArray.size] at hs
    subst e
    exact codec_Encode_ints A0_3 c0_3 l0_3 w hr0_3 hl hi
  · cases h

end Go.Proofs.YthladfegmedpnaaDoor.P
namespace Go.Proofs.YthladfegmedpnaaDoor.P
open Go.RowKit Go.Proofs.YthladfegmedpnaaDoorW.PrintWords Go.Proofs.YthladfegmedpnaaDoorW.PrintLast Go.Proofs.YthladfegmedpnaaDoorW.PrintMore
attribute [local go_sem] max2_int min2_int max_two min_two max_three min_three max_four min_four
set_option linter.unusedVariables false
set_option linter.unusedSimpArgs false

/-! ### parcels_integers: function 84 -/
def parcels_integers.l0 : Nat → List Int → Int → Int → Int → Int → ByteArray → List (S42) → Option (List Int)
  | 0, _, _, _, _, _, _, _ => none
  | k + 1, x9, x10, x11, x616000, x616001, x616002, x616003 => if x11 < x10 then (if 0 ≤ x11 then (if x11 < (x9.length : Int) then (if x616003.length < 2513169434916 then (parcels_integers.l0 k x9 x10 (wrap64 (x11 + 1)) x616000 x616001 x616002 (x616003 ++ [(⟨1, rd x9 x11, (⟨#[]⟩ : ByteArray), ([] : List (S42))⟩ : S42)])) else (none)) else (none)) else (none)) else ((codec_Encode.f x616000 x616001 x616002 x616003).bind fun bt620 => (some bt620.1))
def parcels_integers.f (k : Nat) (l0 : List Int) : Option (List Int) := parcels_integers.l0 k l0 (l0.length : Int) 0 3 0 (⟨#[]⟩ : ByteArray) ([] : List (S42))
theorem parcels_integers.mono_l : ∀ k, (∀ y0 y1 y2 y3 y4 y5 y6, LeO (parcels_integers.l0 k y0 y1 y2 y3 y4 y5 y6) (parcels_integers.l0 (k + 1) y0 y1 y2 y3 y4 y5 y6))
  | 0 => fun _ _ _ _ _ _ _ r h => by simp [parcels_integers.l0] at h
  | k + 1 => by
    have ih0 := parcels_integers.mono_l k
    · intro y0 y1 y2 y3 y4 y5 y6
      unfold parcels_integers.l0
      repeat' first
      | (with_reducible exact ih0 _ _ _ _ _ _ _)
      | (with_reducible exact LeO.refl _)
      | (with_reducible exact LeO.none _)
      | (with_reducible refine LeO.ite ?_ ?_)
      | (with_reducible refine LeO.bind ?_ (fun _ => ?_))
      | exact ih0 _ _ _ _ _ _ _
      | exact LeO.none _
      | refine LeO.ite ?_ ?_
      | refine LeO.bind ?_ (fun _ => ?_)
theorem parcels_integers.mono : ∀ a0 k, LeO (parcels_integers.f k a0) (parcels_integers.f (k + 1) a0) := by
  intro a0 k
  have ih0 := parcels_integers.mono_l k
  unfold parcels_integers.f
  repeat' first
      | (with_reducible exact ih0 _ _ _ _ _ _ _)
      | (with_reducible exact LeO.refl _)
      | (with_reducible exact LeO.none _)
      | (with_reducible refine LeO.ite ?_ ?_)
      | (with_reducible refine LeO.bind ?_ (fun _ => ?_))
      | exact ih0 _ _ _ _ _ _ _
      | exact LeO.none _
      | refine LeO.ite ?_ ?_
      | refine LeO.bind ?_ (fun _ => ?_)
set_option maxHeartbeats 8000000 in
set_option maxRecDepth 100000 in
theorem parcels_integers.calls (k : Nat) (A0 : Option Addr) (c0 : Nat) (l0 : List Int) (r : List Int) (w : World) (hr0 : Kd.C (Kd.int .i64) w A0 l0.length l0) (hc0 : l0.length ≤ c0) (h : parcels_integers.f k l0 = some r) :
    Calls Tryd.prog 84 #[.slice A0 l0.length c0] w fun e w' => ∃ v0_ : Value, e = .returned (v0_) ∧ Kd.R (Kd.int .u8) 5 w' w.heap.size (fun _ => True) v0_ r ∧ Below w.heap.size w w' := by
  have hu42 := Tryd.underlying42
  have HR0 := Aside0.mk hr0
  have HC0 := Aside0.mk hc0
  clear hr0 hc0
  have HB := Aside0.mk (Below.refl w.heap.size w)
  have H : (parcels_integers.l0 k l0 (l0.length : Int) 0 3 0 (⟨#[]⟩ : ByteArray) ([] : List (S42))) = some r := h
  clear h
  have H' := Aside0.mk H
  clear H
  go_enter Tryd.func84, Tryd.ntmps84
  go_wp2_with (first | ((with_reducible refine gate_dst (N := 3) rfl ?_); refine box_event ?hg (N := 3) ?hd (cs := #[.int .i64 0, .int .i64 0, .string (⟨#[]⟩ : ByteArray), .slice none 0 0]) (t := 42) ?hr ?_; (case hd => rfl); (case hg => rfl); (case hr => first | (go_simp; done) | (go_simp; rfl)); intro gb615 hg w2 hbox hb; have n0_ := Aside0.mk (below_step (by repeat (first | (with_reducible first | exact HB.out | apply below_alloc | apply pw_below_drewN | apply below_drew1) | exact HB.out)) hb); have n1_ := Aside0.mk (hbox); have n2_ := Aside0.mk ((by rw [hg]; exact (below_size (by repeat (first | (with_reducible first | exact HB.out | apply below_alloc | apply pw_below_drewN | apply below_drew1) | exact HB.out))) : w.heap.size ≤ gb615)); have n3_ := Aside0.mk ((by rw [hg]; exact (below_size (by repeat (first | (with_reducible first | exact HB.out | apply below_alloc | apply pw_below_drewN | apply below_drew1) | exact HB.out))) : w.heap.size ≤ gb615)); clear HB; have HB := n0_; have BK615 := n1_; have GW615 := n2_; have GE615 := n3_; clear n0_ n1_ n2_ n3_; clear hb hbox hg; have hcz3_0 : w2.cell? ⟨gb615, 0, none⟩ = some (.int .i64 0) := (blk_cell BK615.out 0).trans rfl; have hcz3_1 : w2.cell? ⟨gb615, 1, none⟩ = some (.int .i64 0) := (blk_cell BK615.out 1).trans rfl; have hcz3_2 : w2.cell? ⟨gb615, 2, none⟩ = some (.string (⟨#[]⟩ : ByteArray)) := (blk_cell BK615.out 2).trans rfl; have hcz3_3 : w2.cell? ⟨gb615, 3, none⟩ = some (.slice none 0 0) := (blk_cell BK615.out 3).trans rfl; have hfz3_0 := blk_frozen BK615.out 0; have hfz3_1 := blk_frozen BK615.out 1; have hfz3_2 := blk_frozen BK615.out 2; have hfz3_3 := blk_frozen BK615.out 3))
  go_loopg [11] k (fun kq v11 w' => ∃ (x11_1 : Int) (x616003_1 : List (S42)) (u616003 : Value), v11 = .int .i64 x11_1 ∧ Aside0 (parcels_integers.l0 kq l0 (l0.length : Int) x11_1 3 0 (⟨#[]⟩ : ByteArray) x616003_1 = some r) ∧ Aside0 (kq ≤ k) ∧ Aside0 (Kd.R k42 42 w' w.heap.size (fun k_ => k_ ≠ gb615) u616003 x616003_1) ∧ Aside0 (w'.heap[gb615]? = some (.cells #[.int .i64 3, .int .i64 0, .string (⟨#[]⟩ : ByteArray), u616003] 42 (0, 0))) ∧ Aside0 (Below w.heap.size w w'))
  case atStart => exact ⟨(0), (([] : List (S42))), (.slice none 0 0), (by first | rfl | (simp; done) | (simp [*]; done)), H', ⟨Nat.le_refl _⟩, ⟨by first | exact Kd.R_nil _ _ _ _ _ | exact Kd.N_nil _ _ _ _ _ | exact Kd.V_nil _ _ _ _ _ | exact Kd.Q_nil _ _ _ _ _ | exact Kd.S_nil _ _ _ _ _⟩, ⟨by (with_reducible repeat (first | refine blk_drewN ?_ _ | refine blk_drew ?_ | refine blk_alloc ?_ _)); refine blk_put (cs := #[.int .i64 3, .int .i64 0, .string (⟨#[]⟩ : ByteArray), .slice none 0 0]) ?_ 3 _ rfl; (with_reducible repeat (first | refine blk_drewN ?_ _ | refine blk_drew ?_ | refine blk_alloc ?_ _)); refine blk_put (cs := #[.int .i64 3, .int .i64 0, .string (⟨#[]⟩ : ByteArray), .slice none 0 0]) ?_ 2 _ rfl; (with_reducible repeat (first | refine blk_drewN ?_ _ | refine blk_drew ?_ | refine blk_alloc ?_ _)); refine blk_put (cs := #[.int .i64 3, .int .i64 0, .string (⟨#[]⟩ : ByteArray), .slice none 0 0]) ?_ 1 _ rfl; (with_reducible repeat (first | refine blk_drewN ?_ _ | refine blk_drew ?_ | refine blk_alloc ?_ _)); refine blk_put (cs := #[.int .i64 0, .int .i64 0, .string (⟨#[]⟩ : ByteArray), .slice none 0 0]) ?_ 0 _ rfl; (with_reducible repeat (first | refine blk_drewN ?_ _ | refine blk_drew ?_ | refine blk_alloc ?_ _)); exact BK615.out⟩, ⟨by repeat (first | (with_reducible first | exact HB.out | apply below_alloc | apply pw_below_drewN | apply below_drew1 | refine below_set ?_ GE615.out) | exact HB.out)⟩⟩
  case round =>
    clear H'
    try clear p2
    try clear hcz3_0
    try clear hcz3_1
    try clear hcz3_2
    try clear hcz3_3
    try clear hfz3_0
    try clear hfz3_1
    try clear hfz3_2
    try clear hfz3_3
    obtain ⟨x11_1, x616003_1, u616003, rfl, HA, HK1, HO_616003, BK615, HB⟩ := hrel
    cases gk with
    | zero => exact absurd HA.out (by simp [parcels_integers.l0])
    | succ k1 =>
      have H := HA.out
      clear HA
      simp only [parcels_integers.l0] at H
      by_cases c4 : x11_1 < (l0.length : Int)
      · rw [if_pos c4] at H
        have c4b0 : decide (x11_1 < (l0.length : Int)) = true := decide_eq_true c4
        clear c4
        by_cases c5 : 0 ≤ x11_1
        · rw [if_pos c5] at H
          have c5b0 : decide (0 ≤ x11_1) = true := decide_eq_true c5
          clear c5
          by_cases c6 : x11_1 < (l0.length : Int)
          · rw [if_pos c6] at H
            have c6b0 : decide (x11_1 < (l0.length : Int)) = true := decide_eq_true c6
            clear c6
            by_cases c7 : x616003_1.length < 2513169434916
            · rw [if_pos c7] at H
              have LMc7 := Aside0.mk c7
              clear c7
              obtain ⟨y617, hy617⟩ : ∃ y_ : List (S42), y_ = (x616003_1 ++ [(⟨1, rd l0 x11_1, (⟨#[]⟩ : ByteArray), ([] : List (S42))⟩ : S42)]) := ⟨_, rfl⟩
              replace H : (parcels_integers.l0 k1 l0 (l0.length : Int) (wrap64 (x11_1 + 1)) 3 0 (⟨#[]⟩ : ByteArray) y617) = some r := by first | (rw [hy617]; with_reducible exact H) | (have H2_ := (Option.bind_some _ _).symm.trans H; rw [hy617]; with_reducible exact H2_) | (have H2_ := (Option.bind_some _ _).symm.trans H; with_reducible exact H2_) | with_reducible exact H | (rw [hy617]; exact H) | exact H
              have Ny617 := Aside0.mk hy617
              clear hy617
              have H' := Aside0.mk H
              clear H
              have p616 : 0 ≤ (x11_1 : Int) := of_decide_eq_true (by first | (with_reducible assumption) | assumption)
              have q616 : x11_1 < (l0.length : Int) := of_decide_eq_true (by first | (with_reducible assumption) | assumption)
              obtain ⟨ad616, e616, hx616_0⟩ := Kd.at_int HR0.out x11_1 p616 q616
              cases e616
              replace hx616_0 := (HB.out.cell (World.block_lt_of_cell? w _ hx616_0)).trans hx616_0
              replace p616 := eq_true p616
              replace q616 := eq_true q616
              have hcz8_0 : wr.cell? ⟨gb615, 0, none⟩ = some (.int .i64 3) := (blk_cell BK615.out 0).trans rfl
              have hcz8_1 : wr.cell? ⟨gb615, 1, none⟩ = some (.int .i64 0) := (blk_cell BK615.out 1).trans rfl
              have hcz8_2 : wr.cell? ⟨gb615, 2, none⟩ = some (.string (⟨#[]⟩ : ByteArray)) := (blk_cell BK615.out 2).trans rfl
              have hcz8_3 : wr.cell? ⟨gb615, 3, none⟩ = some (u616003) := (blk_cell BK615.out 3).trans rfl
              have hfz8_0 := blk_frozen BK615.out 0
              have hfz8_1 := blk_frozen BK615.out 1
              have hfz8_2 := blk_frozen BK615.out 2
              have hfz8_3 := blk_frozen BK615.out 3
              go_wp2_with (first | ((with_reducible refine gate_builtin (b := .append) (xs := #[.tmp 16, .tmp 19]) rfl ?_); at_builtin; refine Kd.R_append k42 (w0 := w) w.heap.size rfl (.tmp 16) (.tmp 19) 39 42 (.agg #[(.int .i64 0), (.int .i64 0), (.string ⟨#[]⟩), (.slice none 0 0)]) 56 rfl Tryd.underlying39 info42 rfl (by decide) (by omega) u616003 x616003_1 (⟨1, rd l0 x11_1, (⟨#[]⟩ : ByteArray), ([] : List (S42))⟩ : S42) [.int .i64 1, .int .i64 (rd l0 x11_1), .string (⟨#[]⟩ : ByteArray), .slice none 0 0] (fun k_ => k_ ≠ gb615) (fun k_ => ((fun k_ => k_ ≠ gb615)) k_ ∧ some k_ ≠ (u616003 : Value).ownBlock) rfl rfl ?aP (fun _ hk => hk) ?aF ?aO ?aB ?aS ?aL ?_; (case aP => exact k42_mkM _ _ _ (⟨1, rd l0 x11_1, (⟨#[]⟩ : ByteArray), ([] : List (S42))⟩ : S42) (Kd.R_nil _ _ _ _ _)); (case aB => exact (by repeat (first | (with_reducible first | exact HB.out | apply below_alloc | apply pw_below_drewN | apply below_drew1 | refine below_set ?_ GE615.out) | exact HB.out))); (case aF => exact (fun k_ hk => Kd.freshB (g := gb615) (o := .cells #[.int .i64 3, .int .i64 0, .string (⟨#[]⟩ : ByteArray), u616003] 42 (0, 0)) (by (with_reducible repeat (first | refine blk_drewN ?_ _ | refine blk_drew ?_ | refine blk_alloc ?_ _)); exact BK615.out) k_ hk)); (case aO => exact (by (with_reducible repeat (first | apply Kd.R_alloc | apply Kd.R_drewN | apply Kd.R_drew)); exact HO_616003.out)); (case aS => exact (below_size (by repeat (first | (with_reducible first | exact HB.out | apply below_alloc | apply pw_below_drewN | apply below_drew1 | refine below_set ?_ GE615.out) | exact HB.out)))); (case aL => have := LMc7.out; omega); intro v618 w9 ho hb hg hat; rw [← Ny617.out] at ho; have n0_ := Aside0.mk (blk_grown (g := gb615) (o := .cells #[.int .i64 3, .int .i64 0, .string (⟨#[]⟩ : ByteArray), u616003] 42 (0, 0)) (by (with_reducible repeat (first | refine blk_drewN ?_ _ | refine blk_drew ?_ | refine blk_alloc ?_ _)); exact BK615.out) hg (Kd.R_away HO_616003.out (fun _ hk => hk))); have n1_ := Aside0.mk (hb); have n2_ := Aside0.mk (ho); clear BK615; clear HB; clear HO_616003; have BK615 := n0_; have HB := n1_; have HO619 := n2_; clear n0_ n1_ n2_; clear ho hb hg hat; obtain ⟨Ao10, co10, eo10⟩ := Kd.R_slice HO619.out; subst eo10; have hcz11_0 : w9.cell? ⟨gb615, 0, none⟩ = some (.int .i64 3) := (blk_cell BK615.out 0).trans rfl; have hcz11_1 : w9.cell? ⟨gb615, 1, none⟩ = some (.int .i64 0) := (blk_cell BK615.out 1).trans rfl; have hcz11_2 : w9.cell? ⟨gb615, 2, none⟩ = some (.string (⟨#[]⟩ : ByteArray)) := (blk_cell BK615.out 2).trans rfl; have hcz11_3 : w9.cell? ⟨gb615, 3, none⟩ = some (u616003) := (blk_cell BK615.out 3).trans rfl; have hfz11_0 := blk_frozen BK615.out 0; have hfz11_1 := blk_frozen BK615.out 1; have hfz11_2 := blk_frozen BK615.out 2; have hfz11_3 := blk_frozen BK615.out 3))
              go_roundg k1
              case measure => have := HK1.out; omega
              case rel => exact ⟨(wrap64 (x11_1 + 1)), (y617), (.slice Ao10 y617.length co10), (by first | rfl | (simp; done) | (simp [*]; done)), H', ⟨by have := HK1.out; omega⟩, ⟨by (with_reducible repeat (first | apply Kd.R_alloc | apply Kd.R_drewN | apply Kd.R_drew)); exact Kd.R_mono (Kd.R_far (p := ⟨gb615, 3, none⟩) (Kd.R_mono HO619.out (fun k_ hk => (⟨hk, hk⟩ : _ ∧ k_ ≠ gb615))) (fun _ hk => hk.2) (.slice Ao10 y617.length co10)) (fun _ hk => hk.1)⟩, ⟨by (with_reducible repeat (first | refine blk_drewN ?_ _ | refine blk_drew ?_ | refine blk_alloc ?_ _)); refine blk_put (cs := #[.int .i64 3, .int .i64 0, .string (⟨#[]⟩ : ByteArray), u616003]) ?_ 3 _ rfl; (with_reducible repeat (first | refine blk_drewN ?_ _ | refine blk_drew ?_ | refine blk_alloc ?_ _)); exact BK615.out⟩, ⟨by repeat (first | (with_reducible first | exact HB.out | apply below_alloc | apply pw_below_drewN | apply below_drew1 | refine below_set ?_ GE615.out) | exact HB.out)⟩⟩
            · rw [if_neg c7] at H
              exact absurd H (by simp)
          · rw [if_neg c6] at H
            exact absurd H (by simp)
        · rw [if_neg c5] at H
          exact absurd H (by simp)
      · rw [if_neg c4] at H
        have c4b0 : decide (x11_1 < (l0.length : Int)) = false := decide_eq_false c4
        clear c4
        replace H := Option.bind_eq_some_iff.mp H
        obtain ⟨⟨t620, t623⟩, A120, H⟩ := H
        replace H : (some t620) = some r := H
        have A12 := Aside0.mk A120
        clear A120
        obtain rfl := Option.some.inj H
        have hcz13_0 : wr.cell? ⟨gb615, 0, none⟩ = some (.int .i64 3) := (blk_cell BK615.out 0).trans rfl
        have hcz13_1 : wr.cell? ⟨gb615, 1, none⟩ = some (.int .i64 0) := (blk_cell BK615.out 1).trans rfl
        have hcz13_2 : wr.cell? ⟨gb615, 2, none⟩ = some (.string (⟨#[]⟩ : ByteArray)) := (blk_cell BK615.out 2).trans rfl
        have hcz13_3 : wr.cell? ⟨gb615, 3, none⟩ = some (u616003) := (blk_cell BK615.out 3).trans rfl
        have hfz13_0 := blk_frozen BK615.out 0
        have hfz13_1 := blk_frozen BK615.out 1
        have hfz13_2 := blk_frozen BK615.out 2
        have hfz13_3 := blk_frozen BK615.out 3
        obtain ⟨Ao14, co14, eo14⟩ := Kd.R_slice HO_616003.out
        subst eo14
        go_wp2_with (first | ((with_reducible refine gate_callee (f := 24) rfl ?_); refine goesL_ (some 25) rfl rfl Tryd.func24 (by kernel_rfl) rfl #[.agg #[.int .i64 3, .int .i64 0, .string (⟨#[]⟩ : ByteArray), .slice Ao14 x616003_1.length co14]] rfl (by (try simp only [List.map_toArray, List.map_cons, List.map_nil]); first | done | rfl | (simp only [List.length_drop, List.length_take]; rfl)) ?_; (with_reducible refine (codec_Encode.calls 3 0 (⟨#[]⟩ : ByteArray) _ _ x616003_1 t620 t623 _ ?side1 ?side2 A12.out).mono ?_); (case side1 => repeat (first | exact (Kd.R_reads' HO_616003.out).2.2 | (with_reducible refine Kd.C_alloc ?_ _) | (with_reducible refine Kd.C_drewN ?_ _) | (with_reducible refine Kd.C_drew ?_))); (case side2 => exact (Kd.R_reads' HO_616003.out).2.1); rintro e w15 ⟨v621, rfl, ho0, hb⟩; refine ⟨_, rfl, ?_⟩; have n0_ := Aside0.mk (Kd.R_below (by (with_reducible repeat (first | apply Kd.R_alloc | apply Kd.R_drewN | apply Kd.R_drew)); exact HO_616003.out) hb); have n1_ := Aside0.mk (Kd.R_lower ho0 (below_size (by repeat (first | (with_reducible first | exact HB.out | apply below_alloc | apply pw_below_drewN | apply below_drew1 | refine below_set ?_ GE615.out) | exact HB.out)))); have n2_ := Aside0.mk (blk_below (g := gb615) (o := .cells #[.int .i64 3, .int .i64 0, .string (⟨#[]⟩ : ByteArray), .slice Ao14 x616003_1.length co14] 42 (0, 0)) (by (with_reducible repeat (first | refine blk_drewN ?_ _ | refine blk_drew ?_ | refine blk_alloc ?_ _)); exact BK615.out) hb); have n3_ := Aside0.mk (below_step (by repeat (first | (with_reducible first | exact HB.out | apply below_alloc | apply pw_below_drewN | apply below_drew1 | refine below_set ?_ GE615.out) | exact HB.out)) hb); clear HO_616003; clear BK615; clear HB; have HO_616003 := n0_; have HO622 := n1_; have BK615 := n2_; have HB := n3_; clear n0_ n1_ n2_ n3_; (try clear hb); (try clear hb2); (try clear hk); (try clear hi); (try clear ho0)))
        go_ret
        exact ⟨_, by first | rfl | (simp [errW_none, errW_some] <;> rfl) | (simp [*, errW_none, errW_some] <;> rfl), by (with_reducible repeat (first | apply Kd.R_alloc | apply Kd.R_drewN | apply Kd.R_drew)); exact HO622.out, by repeat (first | (with_reducible first | exact HB.out | apply below_alloc | apply pw_below_drewN | apply below_drew1 | refine below_set ?_ GE615.out) | exact HB.out)⟩

end Go.Proofs.YthladfegmedpnaaDoor.P
