import Derived.Test.YthladfegmedpnaaDoorK16
import Derived.Test.YthladfegmedpnaaDoorKE3
import Derived.Test.YthladfegmedpnaaDoorKE1
import Derived.Deep.RegionHeld3
import Derived.Laws.EntriesVeiled
import Derived.Test.YthladfegmedpnaaDoorK4
import Derived.Test.YthladfegmedpnaaDoorK14
import Derived.Test.YthladfegmedpnaaDoorK15
import Derived.Test.YthladfegmedpnaaDoorKE2
import Derived.Test.YthladfegmedpnaaDoorKE4
set_option linter.unusedVariables false
set_option linter.unusedSimpArgs false

/- Plain laws: texts of numbers in the stage 'equal'. -/
namespace Go.Proofs.YthladfegmedpnaaDoor.P
open Go.RowKit Go.Proofs.YthladfegmedpnaaDoorW.PrintWords Go.Proofs.YthladfegmedpnaaDoorW.PrintLast Go.Proofs.YthladfegmedpnaaDoorW.PrintMore Go.Proofs.YthladfegmedpnaaDoor
set_option linter.unusedVariables false
set_option linter.unusedSimpArgs false

theorem equal_text_l0 (l : List Int) (hl : l.length ≤ 100) (h : ∀ x ∈ l, i64 x) : ∀ (d i k : Nat), i + d = l.length → d < k →
    equal_text.l0 k l (l.length : Int) (i : Int) 3 0 (⟨#[]⟩ : ByteArray) ((l.take i).map vi) = some (encInts l)
  | 0, i, k, hi, hk => by
    obtain ⟨k, rfl⟩ : ∃ j, k = j + 1 := ⟨k - 1, by omega⟩
    rw [equal_text.l0, if_neg (by omega), List.take_of_length_le (by omega), encode_vi l hl h]; rfl
  | d + 1, i, k, hi, hk => by
    obtain ⟨k, rfl⟩ : ∃ j, k = j + 1 := ⟨k - 1, by omega⟩
    have hlt : i < l.length := by omega
    have hw : wrap64 ((i : Int) + 1) = ((i + 1 : Nat) : Int) := by unfold wrap64; omega
    rw [equal_text.l0, if_pos (by omega), if_pos (by omega), if_pos (by omega), if_pos (by rw [List.length_map, List.length_take]; omega), rd_nat l i hlt, hw]
    have := equal_text_l0 l hl h d (i + 1) k (by omega) (by omega)
    rw [← take_vi l i hlt] at this
    exact this
theorem equal_text_f (k : Nat) (l : List Int) (hl : l.length ≤ 100) (h : ∀ x ∈ l, i64 x) (hk : l.length < k) : equal_text.f k l = some (encInts l) :=
  equal_text_l0 l hl h l.length 0 k (by omega) hk

theorem five {a b c d e : Int} (ha : i64 a) (hb : i64 b) (hc : i64 c) (hd : i64 d) (he : i64 e) : ∀ x ∈ [a, b, c, d, e], i64 x := by
  intro x hx
  simp only [List.mem_cons, List.not_mem_nil, or_false] at hx
  rcases hx with rfl | rfl | rfl | rfl | rfl <;> assumption
theorem two {a b : Int} (ha : i64 a) (hb : i64 b) : ∀ x ∈ [a, b], i64 x := by
  intro x hx
  simp only [List.mem_cons, List.not_mem_nil, or_false] at hx
  rcases hx with rfl | rfl <;> assumption
theorem equal_challenge_f (k : Nat) (hk : 10 ≤ k) (key a d r s : Int) (h1 : i64 key) (h2 : i64 a) (h3 : i64 d) (h4 : i64 r) (h5 : i64 s) : equal_challenge.f k key a d r s = some (chal key a d r s) := by
  unfold equal_challenge.f
  rw [equal_text_f k _ (by simp : ([key, a, d, r, s] : List Int).length ≤ 100) (five h1 h2 h3 h4 h5) (show 5 < k by omega), Option.bind_some, hash_f _ _ (by decide) (by simp : ([key, a, d, r, s] : List Int).length ≤ 100)]
  rfl

end Go.Proofs.YthladfegmedpnaaDoor.P

namespace Go.Proofs.YthladfegmedpnaaDoor.P
open Go.RowKit Go.Proofs.YthladfegmedpnaaDoorW.PrintWords Go.Proofs.YthladfegmedpnaaDoorW.PrintLast Go.Proofs.YthladfegmedpnaaDoorW.PrintMore Go.Proofs.YthladfegmedpnaaDoor
set_option linter.unusedVariables false
set_option linter.unusedSimpArgs false

theorem valid_at (x : Int) (r : Bool) (h : vld x = r) (w : World) : Calls Tryd.prog 47 #[.int .i64 x] w fun e w' => e = .returned (.bool r) ∧ Drawn0 w w' :=
  group_Valid.calls x r w (by unfold group_Valid.f; rw [h])
theorem order_at (x : Int) (r : Bool) (h : inQ x = r) (w : World) : Calls Tryd.prog 49 #[.int .i64 x] w fun e w' => e = .returned (.bool r) ∧ Drawn0 w w' :=
  equal_inOrder.calls x r w (by
    unfold equal_inOrder.f
    unfold inQ at h
    by_cases c : 0 ≤ x
    · rw [if_pos c]; rw [decide_eq_true c, Bool.true_and] at h; rw [h]
    · rw [if_neg c]; rw [decide_eq_false c, Bool.false_and] at h; rw [h])

set_option maxHeartbeats 1000000 in
/-- the first condition: three elements. -/
theorem check1 (g0 g1 g2 : Nat) (key a d : Int) (w : World) (h0 : w.cell? ⟨g0, 0, none⟩ = some (.int .i64 key)) (h1 : w.cell? ⟨g1, 0, none⟩ = some (.int .i64 a)) (h2 : w.cell? ⟨g2, 0, none⟩ = some (.int .i64 d)) :
    Calls Tryd.prog 46 #[.pointer (some ⟨g0, 0, none⟩), .pointer (some ⟨g1, 0, none⟩), .pointer (some ⟨g2, 0, none⟩)] w fun e w' => e = .returned (.bool (vld key && vld a && vld d)) ∧ Drawn0 w w' := by
  cases c0 : vld key
  · have C0 := Aside0.mk c0
    clear c0
    go_enter Tryd.func46, Tryd.ntmps46
    go_wp2_with fail
    refine (valid_at key false C0.out w).mono ?_
    rintro e w1 ⟨rfl, ⟨n1, rfl⟩⟩
    go_wp2_with fail
    go_ret
    exact ⟨rfl, (Drawn0.refl w).step n1⟩
  · have C0 := Aside0.mk c0
    clear c0
    cases c1 : vld a
    · have C1 := Aside0.mk c1
      clear c1
      go_enter Tryd.func46, Tryd.ntmps46
      go_wp2_with fail
      refine (valid_at key true C0.out w).mono ?_
      rintro e w1 ⟨rfl, ⟨n1, rfl⟩⟩
      go_wp2_with fail
      refine (valid_at a false C1.out _).mono ?_
      rintro e w1 ⟨rfl, ⟨n2, rfl⟩⟩
      go_wp2_with fail
      go_ret
      exact ⟨rfl, ⟨⟨_, rfl⟩⟩⟩
    · have C1 := Aside0.mk c1
      clear c1
      generalize c2 : vld d = r
      have C2 := Aside0.mk c2
      clear c2
      go_enter Tryd.func46, Tryd.ntmps46
      go_wp2_with fail
      refine (valid_at key true C0.out w).mono ?_
      rintro e w1 ⟨rfl, ⟨n1, rfl⟩⟩
      go_wp2_with fail
      refine (valid_at a true C1.out _).mono ?_
      rintro e w1 ⟨rfl, ⟨n2, rfl⟩⟩
      go_wp2_with fail
      refine (valid_at d r C2.out _).mono ?_
      rintro e w1 ⟨rfl, ⟨n3, rfl⟩⟩
      go_wp2_with fail
      go_ret
      exact ⟨rfl, ⟨⟨_, rfl⟩⟩⟩

set_option maxHeartbeats 1000000 in
/-- the second condition: two numbers of the field. -/
theorem check2 (g : Nat) (x y : Int) (w : World) (h0 : w.cell? ⟨g, 0, none⟩ = some (.int .i64 x)) (h1 : w.cell? ⟨g, 1, none⟩ = some (.int .i64 y)) :
    Calls Tryd.prog 48 #[.pointer (some ⟨g, 0, none⟩)] w fun e w' => e = .returned (.bool (inQ x && inQ y)) ∧ Drawn0 w w' := by
  have hu23 := Tryd.underlying23
  cases c0 : inQ x
  · have C0 := Aside0.mk c0
    clear c0
    go_enter Tryd.func48, Tryd.ntmps48
    go_wp2_with fail
    refine (order_at x false C0.out w).mono ?_
    rintro e w1 ⟨rfl, ⟨n1, rfl⟩⟩
    go_wp2_with fail
    go_ret
    exact ⟨rfl, (Drawn0.refl w).step n1⟩
  · have C0 := Aside0.mk c0
    clear c0
    generalize c1 : inQ y = r
    have C1 := Aside0.mk c1
    clear c1
    go_enter Tryd.func48, Tryd.ntmps48
    go_wp2_with fail
    refine (order_at x true C0.out w).mono ?_
    rintro e w1 ⟨rfl, ⟨n1, rfl⟩⟩
    go_wp2_with fail
    refine (order_at y r C1.out _).mono ?_
    rintro e w1 ⟨rfl, ⟨n2, rfl⟩⟩
    go_wp2_with fail
    go_ret
    exact ⟨rfl, ⟨⟨_, rfl⟩⟩⟩

theorem pow_at (x n : Int) (hx : vld x = true) (hn : i64 n) (w : World) : Calls Tryd.prog 39 #[.int .i64 x, .int .i64 n] w fun e w' => e = .returned (.int .i64 (pwz x n)) ∧ Below w.heap.size w w' :=
  equal_pow.calls x n _ w (by rw [equal_pow_f x n hn, if_pos hx])

/-- a row of two numbers that has been made. -/
theorem row2 {w : World} {g : Nat} {t : TypeId} (x y : Int) (h : w.heap[g]? = some (.cells #[.int .i64 x, .int .i64 y] t (0, 0))) : Kd.C (Kd.int .i64) w (some ⟨g, 0, none⟩) ([x, y] : List Int).length [x, y] := by
  refine ⟨rfl, by simp, fun _ => ⟨_, rfl, fun j p hj => ?_⟩⟩
  have hj2 : j < 2 := by have := (List.getElem?_eq_some_iff.1 hj).1; simpa using this
  match j, hj2, hj with
  | 0, _, hj =>
    obtain rfl := Option.some.inj hj
    refine ⟨[.int .i64 x], rfl, rfl, fun i u hu => ?_⟩
    match i, hu with
    | 0, hu =>
      obtain rfl := Option.some.inj hu
      exact (blk_cell h 0).trans rfl
  | 1, _, hj =>
    obtain rfl := Option.some.inj hj
    refine ⟨[.int .i64 y], rfl, rfl, fun i u hu => ?_⟩
    match i, hu with
    | 0, hu =>
      obtain rfl := Option.some.inj hu
      exact (blk_cell h 1).trans rfl
theorem mul_at (x y : Int) (hx : vld x = true) (hy : vld y = true) (g : Nat) (t : TypeId) (w : World) (h : w.heap[g]? = some (.cells #[.int .i64 x, .int .i64 y] t (0, 0))) :
    Calls Tryd.prog 51 #[.slice (some ⟨g, 0, none⟩) 2 2] w fun e w' => e = .returned (.int .i64 (mulz x y)) ∧ Below w.heap.size w w' :=
  (equal_mul.calls 3 (some ⟨g, 0, none⟩) 2 [x, y] _ w (row2 x y h) (by simp) (equal_mul_f 3 (by omega) x y hx hy)).mono fun _ _ h => ⟨h.1, h.2.below⟩

/-- the cells that the third condition reads. -/
def Cells5 (g0 g1 g2 g3 : Nat) (key a d e s : Int) (w : World) : Prop :=
  w.heap[g0]? = some (.cells #[.int .i64 e, .int .i64 s] 23 (0, 0)) ∧ w.heap[g1]? = some (.cells #[.int .i64 key] 3 (0, 0)) ∧ w.heap[g2]? = some (.cells #[.int .i64 a] 3 (0, 0)) ∧ w.heap[g3]? = some (.cells #[.int .i64 d] 3 (0, 0))
theorem Cells5.below {g0 g1 g2 g3 : Nat} {key a d e s : Int} {w w1 : World} (h : Cells5 g0 g1 g2 g3 key a d e s w) (hb : Below w.heap.size w w1) : Cells5 g0 g1 g2 g3 key a d e s w1 :=
  ⟨blk_below h.1 hb, blk_below h.2.1 hb, blk_below h.2.2.1 hb, blk_below h.2.2.2 hb⟩

set_option maxHeartbeats 4000000 in
set_option maxRecDepth 100000 in
/-- the third condition: E is the hash of what the proof commits to. -/
theorem check3 (g0 g1 g2 g3 : Nat) (key a d e s : Int) (w : World) (hc : Cells5 g0 g1 g2 g3 key a d e s w) (h1 : vld key = true) (h2 : vld a = true) (h3 : vld d = true) (he : inQ e = true) (hs : inQ s = true) (hG : Glob w) :
    Calls Tryd.prog 50 #[.pointer (some ⟨g0, 0, none⟩), .pointer (some ⟨g1, 0, none⟩), .pointer (some ⟨g2, 0, none⟩), .pointer (some ⟨g3, 0, none⟩)] w fun x w' =>
      x = .returned (.bool (e == chal key a d (mulz (pwz 4 s) (pwz key (-e))) (mulz (pwz a s) (pwz d (-e))))) ∧ Below w.heap.size w w' := by
  have H1 := Aside0.mk h1
  have H2 := Aside0.mk h2
  have H3 := Aside0.mk h3
  have HG := Aside0.mk hG
  have HC := Aside0.mk hc
  have be : -9223372036854775808 ≤ -e ∧ -e ≤ 9223372036854775807 ∧ 0 ≤ e ∧ 0 ≤ s ∧ s ≤ 9223372036854775807 := by
    unfold inQ at he hs
    simp only [Bool.and_eq_true, decide_eq_true_eq] at he hs
    omega
  have HE := Aside0.mk be
  clear h1 h2 h3 hG hc he hs
  have ew : IntKind.i64.wrap (-e) = -e := by have := HE.out; rw [IntKind.wrap_i64]; omega
  have hu23 := Tryd.underlying23
  clear be
  go_enter Tryd.func50, Tryd.ntmps50
  go_upto_region 1 with (fail)
  have HB := Below.refl w.heap.size w
  have q0 : w.cell? ⟨g0, 0, none⟩ = some (.int .i64 e) := (blk_cell HC.out.1 0).trans rfl
  have q1 : w.cell? ⟨g0, 1, none⟩ = some (.int .i64 s) := (blk_cell HC.out.1 1).trans rfl
  have q2 : w.cell? ⟨g1, 0, none⟩ = some (.int .i64 key) := (blk_cell HC.out.2.1 0).trans rfl
  have q3 : w.cell? ⟨g2, 0, none⟩ = some (.int .i64 a) := (blk_cell HC.out.2.2.1 0).trans rfl
  have q4 : w.cell? ⟨g3, 0, none⟩ = some (.int .i64 d) := (blk_cell HC.out.2.2.2 0).trans rfl
  go_region_held3 (fun w' => w'.cell? ⟨g0, 0, none⟩ = some (.int .i64 e) ∧ w'.cell? ⟨g0, 1, none⟩ = some (.int .i64 s) ∧ w'.cell? ⟨g1, 0, none⟩ = some (.int .i64 key) ∧ w'.cell? ⟨g2, 0, none⟩ = some (.int .i64 a) ∧ w'.cell? ⟨g3, 0, none⟩ = some (.int .i64 d)) (go_keep) (first | (go_at_call 39; refine (pow_at _ _ (by with_reducible first | exact H1.out | exact H2.out | exact H3.out | exact vld_four) ⟨by have := HE.out; omega, by have := HE.out; omega⟩ _).mono ?_; rintro e' w1 ⟨rfl, hb⟩; have k0 : w1.cell? ⟨g0, 0, none⟩ = some (.int .i64 e) := (Below.cell hb (p := ⟨g0, 0, none⟩) (lt_of_cell (by assumption))).trans (by assumption); have k1 : w1.cell? ⟨g0, 1, none⟩ = some (.int .i64 s) := (Below.cell hb (p := ⟨g0, 1, none⟩) (lt_of_cell (by assumption))).trans (by assumption); have k2 : w1.cell? ⟨g1, 0, none⟩ = some (.int .i64 key) := (Below.cell hb (p := ⟨g1, 0, none⟩) (lt_of_cell (by assumption))).trans (by assumption); have k3 : w1.cell? ⟨g2, 0, none⟩ = some (.int .i64 a) := (Below.cell hb (p := ⟨g2, 0, none⟩) (lt_of_cell (by assumption))).trans (by assumption); have k4 : w1.cell? ⟨g3, 0, none⟩ = some (.int .i64 d) := (Below.cell hb (p := ⟨g3, 0, none⟩) (lt_of_cell (by assumption))).trans (by assumption)) | (go_at_call 51; (first | (with_reducible refine (mul_at (pwz 4 s) (pwz key (-e)) (vld_pw vld_four _) (vld_pw H1.out _) _ _ _ (World.alloc_heap_new _ _)).mono ?_) | (with_reducible refine (mul_at (pwz a s) (pwz d (-e)) (vld_pw H2.out _) (vld_pw H3.out _) _ _ _ (World.alloc_heap_new _ _)).mono ?_)); rintro e' w1 ⟨rfl, hb0⟩; have hb := below_step (below_alloc (Below.refl _ _) _) hb0; have k0 : w1.cell? ⟨g0, 0, none⟩ = some (.int .i64 e) := (Below.cell hb (p := ⟨g0, 0, none⟩) (lt_of_cell (by assumption))).trans (by assumption); have k1 : w1.cell? ⟨g0, 1, none⟩ = some (.int .i64 s) := (Below.cell hb (p := ⟨g0, 1, none⟩) (lt_of_cell (by assumption))).trans (by assumption); have k2 : w1.cell? ⟨g1, 0, none⟩ = some (.int .i64 key) := (Below.cell hb (p := ⟨g1, 0, none⟩) (lt_of_cell (by assumption))).trans (by assumption); have k3 : w1.cell? ⟨g2, 0, none⟩ = some (.int .i64 a) := (Below.cell hb (p := ⟨g2, 0, none⟩) (lt_of_cell (by assumption))).trans (by assumption); have k4 : w1.cell? ⟨g3, 0, none⟩ = some (.int .i64 d) := (Below.cell hb (p := ⟨g3, 0, none⟩) (lt_of_cell (by assumption))).trans (by assumption)))
  have HBF : Aside0 (Below w.heap.size w w1) := ⟨by repeat (first | exact below_drew1 HB | refine below_step ?_ (by assumption))⟩
  have r1 : i64 (mulz (pwz 4 s) (pwz key (-e))) := i64_vld (vld_mul (vld_pw vld_four _) (vld_pw H1.out _))
  have r2 : i64 (mulz (pwz a s) (pwz d (-e))) := i64_vld (vld_mul (vld_pw H2.out _) (vld_pw H3.out _))
  generalize hr : mulz (pwz 4 s) (pwz key (-e)) = r at r1 ⊢
  generalize ht : mulz (pwz a s) (pwz d (-e)) = t at r2 ⊢
  have ER := Aside0.mk hr
  have ET := Aside0.mk ht
  clear hr ht
  have R1 := Aside0.mk r1
  have R2 := Aside0.mk r2
  clear r1 r2
  go_wp2
  go_region_held3 (fun w' => w'.cell? ⟨g0, 0, none⟩ = some (.int .i64 e) ∧ w'.cell? ⟨g0, 1, none⟩ = some (.int .i64 s) ∧ w'.cell? ⟨g1, 0, none⟩ = some (.int .i64 key) ∧ w'.cell? ⟨g2, 0, none⟩ = some (.int .i64 a) ∧ w'.cell? ⟨g3, 0, none⟩ = some (.int .i64 d)) (go_keep) ((go_at_call 41; refine (equal_challenge.calls 10 key a d r t _ _ (equal_challenge_f 10 (by omega) key a d r t (i64_vld H1.out) (i64_vld H2.out) (i64_vld H3.out) R1.out R2.out) (HG.out.below (below_drew1 HBF.out))).mono ?_; rintro e' w9 ⟨rfl, hb⟩; have k0 : w9.cell? ⟨g0, 0, none⟩ = some (.int .i64 e) := (Below.cell hb (p := ⟨g0, 0, none⟩) (lt_of_cell (by assumption))).trans (by assumption); have k1 : w9.cell? ⟨g0, 1, none⟩ = some (.int .i64 s) := (Below.cell hb (p := ⟨g0, 1, none⟩) (lt_of_cell (by assumption))).trans (by assumption); have k2 : w9.cell? ⟨g1, 0, none⟩ = some (.int .i64 key) := (Below.cell hb (p := ⟨g1, 0, none⟩) (lt_of_cell (by assumption))).trans (by assumption); have k3 : w9.cell? ⟨g2, 0, none⟩ = some (.int .i64 a) := (Below.cell hb (p := ⟨g2, 0, none⟩) (lt_of_cell (by assumption))).trans (by assumption); have k4 : w9.cell? ⟨g3, 0, none⟩ = some (.int .i64 d) := (Below.cell hb (p := ⟨g3, 0, none⟩) (lt_of_cell (by assumption))).trans (by assumption)))
  go_wp2
  go_ret
  exact ⟨by rw [ER.out, ET.out]; rfl, below_step (below_drew1 HBF.out) hb⟩

theorem chk_eq (key a d e s : Int) : chk key a d e s = ((vld key && vld a && vld d) && ((inQ e && inQ s) && (e == chal key a d (mulz (pwz 4 s) (pwz key (-e))) (mulz (pwz a s) (pwz d (-e)))))) := by
  unfold chk
  simp only [Bool.and_assoc]

theorem five_blocks (w : World) (o0 o1 o2 o3 o4 : Obj) : ((((((w.alloc o0).alloc o1).alloc o2).alloc o3).alloc o4).heap[w.heap.size]? = some o0 ∧ (((((w.alloc o0).alloc o1).alloc o2).alloc o3).alloc o4).heap[w.heap.size + 1]? = some o1 ∧ (((((w.alloc o0).alloc o1).alloc o2).alloc o3).alloc o4).heap[w.heap.size + 1 + 1]? = some o2 ∧ (((((w.alloc o0).alloc o1).alloc o2).alloc o3).alloc o4).heap[w.heap.size + 1 + 1 + 1]? = some o3 ∧ (((((w.alloc o0).alloc o1).alloc o2).alloc o3).alloc o4).heap[w.heap.size + 1 + 1 + 1 + 1]? = some o4) ∧ Below w.heap.size w (((((w.alloc o0).alloc o1).alloc o2).alloc o3).alloc o4) := by
  have h0 := World.alloc_heap_new w o0
  have h1 := World.alloc_heap_new (w.alloc o0) o1
  have h2 := World.alloc_heap_new ((w.alloc o0).alloc o1) o2
  have h3 := World.alloc_heap_new (((w.alloc o0).alloc o1).alloc o2) o3
  have h4 := World.alloc_heap_new ((((w.alloc o0).alloc o1).alloc o2).alloc o3) o4
  simp only [World.size_alloc] at h1 h2 h3 h4
  exact ⟨⟨blk_alloc (blk_alloc (blk_alloc (blk_alloc h0 _) _) _) _, blk_alloc (blk_alloc (blk_alloc h1 _) _) _, blk_alloc (blk_alloc h2 _) _, blk_alloc h3 _, h4⟩, below_alloc (below_alloc (below_alloc (below_alloc (below_alloc (Below.refl _ _) _) _) _) _) _⟩

set_option maxHeartbeats 4000000 in
set_option maxRecDepth 100000 in
theorem equal_Check_makes (key a d e s : Int) (w : World) (hG : Glob w) :
    Calls Tryd.prog 17 #[.int .i64 key, .int .i64 a, .int .i64 d, .agg #[.int .i64 e, .int .i64 s]] w fun x w' => x = .returned (.bool (chk key a d e s)) ∧ Below w.heap.size w w' := by
  rw [chk_eq]
  have HG := Aside0.mk hG
  clear hG
  have hmf : ∀ (fn : Fn) (first cap : Array Value) (w : World), (Instr.makeFunc fn first cap).run Tryd.prog w = .ok (.func fn first cap) w := fun _ _ _ _ => rfl
  have hu23 := Tryd.underlying23
  go_enter Tryd.func17, Tryd.ntmps17
  go_wp2_with fail
  clear hmf
  have HF := five_blocks w (.cells #[.int .i64 key] 3) (.cells #[.int .i64 a] 3) (.cells #[.int .i64 d] 3) (.cells #[.int .i64 e, .int .i64 s] 23)
    (.cells #[.func (.func 46) #[] #[.pointer (some ⟨w.heap.size, 0, none⟩), .pointer (some ⟨w.heap.size + 1, 0, none⟩), .pointer (some ⟨w.heap.size + 1 + 1, 0, none⟩)], .func (.func 48) #[] #[.pointer (some ⟨w.heap.size + 1 + 1 + 1, 0, none⟩)],
      .func (.func 50) #[] #[.pointer (some ⟨w.heap.size + 1 + 1 + 1, 0, none⟩), .pointer (some ⟨w.heap.size, 0, none⟩), .pointer (some ⟨w.heap.size + 1, 0, none⟩), .pointer (some ⟨w.heap.size + 1 + 1, 0, none⟩)]] 24)
  generalize (((((w.alloc (.cells #[.int .i64 key] 3)).alloc (.cells #[.int .i64 a] 3)).alloc (.cells #[.int .i64 d] 3)).alloc (.cells #[.int .i64 e, .int .i64 s] 23)).alloc
    (.cells #[.func (.func 46) #[] #[.pointer (some ⟨w.heap.size, 0, none⟩), .pointer (some ⟨w.heap.size + 1, 0, none⟩), .pointer (some ⟨w.heap.size + 1 + 1, 0, none⟩)], .func (.func 48) #[] #[.pointer (some ⟨w.heap.size + 1 + 1 + 1, 0, none⟩)],
      .func (.func 50) #[] #[.pointer (some ⟨w.heap.size + 1 + 1 + 1, 0, none⟩), .pointer (some ⟨w.heap.size, 0, none⟩), .pointer (some ⟨w.heap.size + 1, 0, none⟩), .pointer (some ⟨w.heap.size + 1 + 1, 0, none⟩)]] 24)) = W at HF ⊢
  obtain ⟨⟨b0, b1, b2, b3, b4⟩, hb⟩ := HF
  have HB := Aside0.mk hb
  generalize w.heap.size + 1 + 1 + 1 + 1 = g4 at b4 ⊢
  generalize w.heap.size + 1 + 1 + 1 = g3 at b3 b4 ⊢
  generalize w.heap.size + 1 + 1 = g2 at b2 b4 ⊢
  generalize w.heap.size + 1 = g1 at b1 b4 ⊢
  have HC : Aside0 (Cells5 g3 w.heap.size g1 g2 key a d e s W) := ⟨b3, b0, b1, b2⟩
  have c0 := (blk_cell b4 0).trans rfl
  have c1 := (blk_cell b4 1).trans rfl
  have c2 := (blk_cell b4 2).trans rfl
  clear b0 b1 b2 b3 b4 hb
  have k1 := (check1 w.heap.size g1 g2 key a d W ((blk_cell HC.out.2.1 0).trans rfl) ((blk_cell HC.out.2.2.1 0).trans rfl) ((blk_cell HC.out.2.2.2 0).trans rfl))
  have K2 : Aside0 (∀ n, Calls Tryd.prog 48 #[.pointer (some ⟨g3, 0, none⟩)] (W.drewN n) fun x w' => x = .returned (.bool (inQ e && inQ s)) ∧ Drawn0 (W.drewN n) w') := ⟨fun n => check2 g3 e s (W.drewN n) ((blk_cell (blk_drewN HC.out.1 n) 0).trans rfl) ((blk_cell (blk_drewN HC.out.1 n) 1).trans rfl)⟩
  cases q1 : (vld key && vld a && vld d)
  · rw [q1] at k1
    have K1 := Aside0.mk k1
    have E1 := Aside0.mk q1
    clear k1 q1
    refine wp_loop_rounds 4 ?_
    rw [rounds_succ]
    go_wp2_with fail
    refine K1.out.mono ?_
    rintro x w1 ⟨rfl, ⟨n1, rfl⟩⟩
    go_wp2_with fail
    go_ret
    exact ⟨by rw [E1.out]; rfl, pw_below_drewN HB.out n1⟩
  · rw [q1] at k1
    have K1 := Aside0.mk k1
    have E1 := Aside0.mk q1
    clear k1
    cases q2 : (inQ e && inQ s)
    · rw [q2] at K2
      have E2 := Aside0.mk q2
      clear q1 q2
      refine wp_loop_rounds 4 ?_
      rw [rounds_succ]
      go_wp2_with fail
      refine K1.out.mono ?_
      rintro x w1 ⟨rfl, ⟨n1, rfl⟩⟩
      go_wp2_with fail
      rw [rounds_succ]
      go_wp2_with fail
      refine (K2.out n1).mono ?_
      rintro x w1 ⟨rfl, ⟨n2, rfl⟩⟩
      go_wp2_with fail
      go_ret
      exact ⟨by rw [E1.out, E2.out]; rfl, pw_below_drewN HB.out _⟩
    · rw [q2] at K2
      have E2 := Aside0.mk q2
      simp only [Bool.and_eq_true] at q1 q2
      have K3 : Aside0 (∀ n, Calls Tryd.prog 50 #[.pointer (some ⟨g3, 0, none⟩), .pointer (some ⟨w.heap.size, 0, none⟩), .pointer (some ⟨g1, 0, none⟩), .pointer (some ⟨g2, 0, none⟩)] (W.drewN n) fun x w' =>
          x = .returned (.bool (e == chal key a d (mulz (pwz 4 s) (pwz key (-e))) (mulz (pwz a s) (pwz d (-e))))) ∧ Below (W.drewN n).heap.size (W.drewN n) w') :=
        ⟨fun n => check3 g3 w.heap.size g1 g2 key a d e s (W.drewN n) ⟨blk_drewN HC.out.1 n, blk_drewN HC.out.2.1 n, blk_drewN HC.out.2.2.1 n, blk_drewN HC.out.2.2.2 n⟩ q1.1.1 q1.1.2 q1.2 q2.1 q2.2 (HG.out.below (pw_below_drewN HB.out n))⟩
      clear q1 q2
      generalize hb3 : (e == chal key a d (mulz (pwz 4 s) (pwz key (-e))) (mulz (pwz a s) (pwz d (-e)))) = b at K3 ⊢
      have E3 := Aside0.mk hb3
      clear hb3
      cases b
      · refine wp_loop_rounds 4 ?_
        rw [rounds_succ]
        go_wp2_with fail
        refine K1.out.mono ?_
        rintro x w1 ⟨rfl, ⟨n1, rfl⟩⟩
        go_wp2_with fail
        rw [rounds_succ]
        go_wp2_with fail
        refine (K2.out n1).mono ?_
        rintro x w1 ⟨rfl, ⟨n2, rfl⟩⟩
        go_wp2_with fail
        rw [rounds_succ]
        go_wp2_with fail
        refine (K3.out _).mono ?_
        rintro x w1 ⟨rfl, hb⟩
        go_wp2_with fail
        go_ret
        exact ⟨by rw [E1.out, E2.out, E3.out]; rfl, below_step (pw_below_drewN HB.out _) hb⟩
      · refine wp_loop_rounds 4 ?_
        rw [rounds_succ]
        go_wp2_with fail
        refine K1.out.mono ?_
        rintro x w1 ⟨rfl, ⟨n1, rfl⟩⟩
        go_wp2_with fail
        rw [rounds_succ]
        go_wp2_with fail
        refine (K2.out n1).mono ?_
        rintro x w1 ⟨rfl, ⟨n2, rfl⟩⟩
        go_wp2_with fail
        rw [rounds_succ]
        go_wp2_with fail
        refine (K3.out _).mono ?_
        rintro x w1 ⟨rfl, hb⟩
        go_wp2_with fail
        rw [rounds_succ]
        go_wp2_with fail
        go_ret
        exact ⟨by rw [E1.out, E2.out, E3.out]; rfl, below_step (pw_below_drewN HB.out _) hb⟩

theorem equal_Check.calls (a0 a1 a2 a3_0 a3_1 : Int) (r : Bool) (w : World) (h : equal_Check.f a0 a1 a2 a3_0 a3_1 = some r) (hG : Glob w := by first | exact hG | exact Glob.below hG HB.out | exact Glob.below hG (by repeat (first | (with_reducible first | exact HB.out | apply below_alloc | apply pw_below_drewN | apply below_drew1 | refine below_set ?_ (Aside0.out (by assumption))) | exact HB.out))) :
    Calls Tryd.prog 17 #[.int .i64 a0, .int .i64 a1, .int .i64 a2, .agg #[.int .i64 a3_0, .int .i64 a3_1]] w fun e w' => e = .returned (.bool r) ∧ Below w.heap.size w w' := by
  unfold equal_Check.f at h
  obtain rfl := Option.some.inj h
  exact equal_Check_makes a0 a1 a2 a3_0 a3_1 w hG

end Go.Proofs.YthladfegmedpnaaDoor.P
namespace Go.Proofs.YthladfegmedpnaaDoor.P
open Go.RowKit Go.Proofs.YthladfegmedpnaaDoorW.PrintWords Go.Proofs.YthladfegmedpnaaDoorW.PrintLast Go.Proofs.YthladfegmedpnaaDoorW.PrintMore
attribute [local go_sem] max2_int min2_int max_two min_two max_three min_three max_four min_four
set_option linter.unusedVariables false
set_option linter.unusedSimpArgs false

/-! ### equal_Prove: function 15 -/
def equal_Prove.j0 : Nat → Int → Int → Bool → Int → Int → Option (Int × Int × Int × Int)
  | 0, _, _, _, _, _ => none
  | k + 1, x0, x1, x14, x120000, x120001 => if x14 = true then (some (0, x120000, x120001, 110)) else ((group_Pow.f x1 x0).bind fun bt120 => (if bt120.2 = 0 then ((equal_pow.f 4 x0).bind fun t122 => ((equal_text.f k (([x0, x1] : List Int))).bind fun t126 => ((group_Hash.f (⟨#[101, 113, 117, 97, 108, 32, 110, 111, 110, 99, 101]⟩ : ByteArray) t126).bind fun t129 => ((equal_pow.f 4 (mx 1 t129)).bind fun t130 => ((equal_pow.f x1 (mx 1 t129)).bind fun t131 => ((equal_challenge.f k t122 x1 bt120.1 t130 t131).bind fun t132 => (some (bt120.1, t132, Int.tmod (wrap64 ((mx 1 t129) + (wrap64 (t132 * x0)))) 1073741789, 0)))))))) else (some (0, x120000, x120001, bt120.2))))
def equal_Prove.f (k : Nat) (a0 : Int) (a1 : Int) : Option (Int × Int × Int × Int) := if a0 < 1 then (equal_Prove.j0 k a0 a1 true 0 0) else (equal_Prove.j0 k a0 a1 (decide (a0 ≥ 1073741789)) 0 0)
theorem equal_Prove.mono_l : ∀ k, (∀ y0 y1 y2 y3 y4, LeO (equal_Prove.j0 k y0 y1 y2 y3 y4) (equal_Prove.j0 (k + 1) y0 y1 y2 y3 y4))
  | 0 => fun _ _ _ _ _ r h => by simp [equal_Prove.j0] at h
  | k + 1 => by
    have ih0 := equal_Prove.mono_l k
    · intro y0 y1 y2 y3 y4
      unfold equal_Prove.j0
      repeat' first
      | (with_reducible exact ih0 _ _ _ _ _)
      | (with_reducible exact equal_challenge.mono _ _ _ _ _ _)
      | (with_reducible exact equal_text.mono _ _)
      | (with_reducible exact LeO.refl _)
      | (with_reducible exact LeO.none _)
      | (with_reducible refine LeO.ite ?_ ?_)
      | (with_reducible refine LeO.bind ?_ (fun _ => ?_))
      | exact ih0 _ _ _ _ _
      | exact equal_challenge.mono _ _ _ _ _ _
      | exact equal_text.mono _ _
      | exact LeO.none _
      | refine LeO.ite ?_ ?_
      | refine LeO.bind ?_ (fun _ => ?_)
theorem equal_Prove.mono : ∀ a0 a1 k, LeO (equal_Prove.f k a0 a1) (equal_Prove.f (k + 1) a0 a1) := by
  intro a0 a1 k
  have ih0 := equal_Prove.mono_l k
  unfold equal_Prove.f
  repeat' first
      | (with_reducible exact ih0 _ _ _ _ _)
      | (with_reducible exact equal_challenge.mono _ _ _ _ _ _)
      | (with_reducible exact equal_text.mono _ _)
      | (with_reducible exact LeO.refl _)
      | (with_reducible exact LeO.none _)
      | (with_reducible refine LeO.ite ?_ ?_)
      | (with_reducible refine LeO.bind ?_ (fun _ => ?_))
      | exact ih0 _ _ _ _ _
      | exact equal_challenge.mono _ _ _ _ _ _
      | exact equal_text.mono _ _
      | exact LeO.none _
      | refine LeO.ite ?_ ?_
      | refine LeO.bind ?_ (fun _ => ?_)
set_option maxHeartbeats 8000000 in
set_option maxRecDepth 100000 in
theorem equal_Prove.calls (k : Nat) (a0 : Int) (a1 : Int) (r1 : Int) (r2 : Int) (r3 : Int) (r4 : Int) (w : World) (h : equal_Prove.f k a0 a1 = some (r1, r2, r3, r4)) (hG : Glob w := by first | exact hG | exact Glob.below hG HB.out | exact Glob.below hG (by repeat (first | (with_reducible first | exact HB.out | apply below_alloc | apply pw_below_drewN | apply below_drew1 | refine below_set ?_ (Aside0.out (by assumption))) | exact HB.out))) :
    Calls Tryd.prog 15 #[.int .i64 a0, .int .i64 a1] w fun e w' => e = .returned (.tuple #[.int .i64 r1, .agg #[.int .i64 r2, .int .i64 r3], .int .i64 r4]) ∧ Below w.heap.size w w' := by
  have hu23 := Tryd.underlying23
  have HB := Aside0.mk (Below.refl w.heap.size w)
  have H : (if a0 < 1 then (equal_Prove.j0 k a0 a1 true 0 0) else (equal_Prove.j0 k a0 a1 (decide (a0 ≥ 1073741789)) 0 0)) = some (r1, r2, r3, r4) := h
  clear h
  have HC3 := Aside0.mk H
  clear H
  go_enter Tryd.func15, Tryd.ntmps15
  go_upto_region 1 with (first | ((with_reducible refine gate_dst (N := 5) rfl ?_); refine box_event ?hg (N := 5) ?hd (cs := #[.int .i64 0, .int .i64 0]) (t := 23) ?hr ?_; (case hd => rfl); (case hg => rfl); (case hr => first | (go_simp; done) | (go_simp; rfl)); intro gb119 hg w4 hbox hb; have n0_ := Aside0.mk (below_step (by repeat (first | (with_reducible first | exact HB.out | apply below_alloc | apply pw_below_drewN | apply below_drew1) | exact HB.out)) hb); have n1_ := Aside0.mk (hbox); have n2_ := Aside0.mk ((by rw [hg]; exact (below_size (by repeat (first | (with_reducible first | exact HB.out | apply below_alloc | apply pw_below_drewN | apply below_drew1) | exact HB.out))) : w.heap.size ≤ gb119)); have n3_ := Aside0.mk ((by rw [hg]; exact (below_size (by repeat (first | (with_reducible first | exact HB.out | apply below_alloc | apply pw_below_drewN | apply below_drew1) | exact HB.out))) : w.heap.size ≤ gb119)); clear HB; have HB := n0_; have BK119 := n1_; have GW119 := n2_; have GE119 := n3_; clear n0_ n1_ n2_ n3_; clear hb hbox hg))
  (try simp only [Act.put, List.setIfInBounds_toArray, List.set_cons_zero, List.set_cons_succ])
  go_cut [14] (fun v14 wc => ∃ (kq : Nat) (x14_2 : Bool), v14 = .bool x14_2 ∧ Aside0 (equal_Prove.j0 kq a0 a1 x14_2 0 0 = some (r1, r2, r3, r4)) ∧ Aside0 (kq ≤ k) ∧ Aside0 (wc.heap[gb119]? = some (.cells #[.int .i64 0, .int .i64 0] 23 (0, 0))) ∧ Aside0 (Below w.heap.size w wc))
  case first =>
    have H := HC3.out
    clear HC3
    by_cases c5 : a0 < 1
    · rw [if_pos c5] at H
      have c5b0 : decide (a0 < 1) = true := decide_eq_true c5
      clear c5
      (first | rw [c5b0] | (simp only [i64_w, i32_w]; rw [c5b0]) | skip)
      have H' := Aside0.mk H
      clear H
      go_wp2
      go_meet
      case rel => exact ⟨_, (true), (by first | rfl | (simp; done) | (simp [*]; done)), H', ⟨by first | omega | exact Nat.le_refl _⟩, ⟨by (with_reducible repeat (first | refine blk_drewN ?_ _ | refine blk_drew ?_ | refine blk_alloc ?_ _)); exact BK119.out⟩, ⟨by repeat (first | (with_reducible first | exact HB.out | apply below_alloc | apply pw_below_drewN | apply below_drew1 | refine below_set ?_ GE119.out) | exact HB.out)⟩⟩
    · rw [if_neg c5] at H
      have c5b0 : decide (a0 < 1) = false := decide_eq_false c5
      clear c5
      (first | rw [c5b0] | (simp only [i64_w, i32_w]; rw [c5b0]) | skip)
      have H' := Aside0.mk H
      clear H
      go_wp2
      go_meet
      case rel => exact ⟨_, (decide (a0 ≥ 1073741789)), (by first | rfl | (simp; done) | (simp [*]; done)), H', ⟨by first | omega | exact Nat.le_refl _⟩, ⟨by (with_reducible repeat (first | refine blk_drewN ?_ _ | refine blk_drew ?_ | refine blk_alloc ?_ _)); exact BK119.out⟩, ⟨by repeat (first | (with_reducible first | exact HB.out | apply below_alloc | apply pw_below_drewN | apply below_drew1 | refine below_set ?_ GE119.out) | exact HB.out)⟩⟩
  case rest =>
    clear HC3
    try clear c1
    try clear p2
    try clear c5
    try clear c5b0
    obtain ⟨kq, x14_2, rfl, HA, HJ2, BK119, HB⟩ := hcut
    cases kq with
    | zero => exact absurd HA.out (by simp [equal_Prove.j0])
    | succ kj2 =>
      have H := HA.out
      clear HA
      simp only [equal_Prove.j0] at H
      by_cases c6 : x14_2 = true
      · subst c6
        have H1 : (some (0, 0, 0, 110)) = some (r1, r2, r3, r4) := by rw [if_pos rfl] at H; exact H
        clear H
        have H := H1
        clear H1
        simp only [Option.some.injEq, Prod.mk.injEq] at H
        obtain ⟨rfl, rfl, rfl, rfl⟩ := H
        try go_wp2
        have n0_ := Aside0.mk (blk_drew BK119.out)
        have n1_ := Aside0.mk (below_drew1 HB.out)
        clear BK119
        clear HB
        have BK119 := n0_
        have HB := n1_
        clear n0_ n1_
        refine start_ (n := 4) (S := fun w' => w'.cell? ⟨gb119, 0, none⟩ = some (.int .i64 0) ∧ w'.cell? ⟨gb119, 1, none⟩ = some (.int .i64 0)) (ds := [2]) #[false, false, false, false] (by kernel_rfl) rfl rfl ⟨(blk_cell BK119.out 0).trans rfl, (blk_cell BK119.out 1).trans rfl⟩ (fun hHeld => ?_)
        generalize wc.drew = w7 at BK119 HB hHeld ⊢
        refine pure_ (i := 1) (N := some 4) (v := ?_) (a' := ?_) #[false, true, false, false] rfl rfl (by kernel_rfl) (fun _ _ _ h => h) (Or.inl ⟨by rfl, ?_⟩) ?_ ?_
        rotate_left
        · intro w'
          go_simp
          with_reducible rfl
        rotate_left
        · simp only [Act.put, List.setIfInBounds_toArray, List.set_cons_zero, List.set_cons_succ, i64_w, i32_w]
          rfl
        refine take_ (i := 0) (N := some 15) (v := ?_) (a' := ?_) #[true, true, false, false] rfl rfl (by kernel_rfl) (fun _ _ _ h => h) (Or.inl ⟨by rfl, ?_⟩) hHeld ?_ ?_
        rotate_left
        · rintro w' ⟨s0, s1⟩
          go_simp
          with_reducible rfl
        rotate_left
        · simp only [Act.put, List.setIfInBounds_toArray, List.set_cons_zero, List.set_cons_succ, i64_w, i32_w]
          rfl
        refine last_ (i := 2) (N := none) #[true, true, true, false] rfl rfl (by kernel_rfl) (by decide) (fun K hK => ?_)
        have hs8 : w7.cell? ⟨gb119, 0, none⟩ = some (.int .i64 0) := (blk_cell BK119.out 0).trans rfl
        have hfs8 := blk_frozen BK119.out 0
        have hs9 : w7.cell? ⟨gb119, 1, none⟩ = some (.int .i64 0) := (blk_cell BK119.out 1).trans rfl
        have hfs9 := blk_frozen BK119.out 1
        refine skip_ (w1 := ?_) (by rfl) rfl ?_ ?_
        rotate_left
        · go_simp
          rfl
        refine hK.out _ _ ?_
        clear hK K
        refine pure_ (i := 3) (N := some 6) (v := ?_) (a' := ?_) #[true, true, true, true] rfl rfl (by kernel_rfl) (fun _ _ _ h => h) (Or.inl ⟨by rfl, ?_⟩) ?_ ?_
        rotate_left
        · intro w'
          go_simp
          with_reducible rfl
        rotate_left
        · simp only [Act.put, List.setIfInBounds_toArray, List.set_cons_zero, List.set_cons_succ, i64_w, i32_w]
          rfl
        refine done_ (by kernel_rfl) ?_
        try go_wp2
        refine bodyPost_ret (results_list (rs := [.tmp 4, .cell 5 23, .tmp 6]) rfl (by simp) (.tmp (.cell gb119 23 #[.int .i64 0, .int .i64 0] (0, 0) _ rfl (by (with_reducible repeat (first | refine blk_drewN ?_ _ | refine blk_drew ?_ | refine blk_alloc ?_ _)); refine blk_put (cs := #[.int .i64 0, .int .i64 0]) ?_ 1 _ rfl; (with_reducible repeat (first | refine blk_drewN ?_ _ | refine blk_drew ?_ | refine blk_alloc ?_ _)); refine blk_put (cs := #[.int .i64 0, .int .i64 0]) ?_ 0 _ rfl; (with_reducible repeat (first | refine blk_drewN ?_ _ | refine blk_drew ?_ | refine blk_alloc ?_ _)); exact BK119.out) Tryd.underlying23 rfl (by kernel_rfl) (.tmp .nil)))) rfl ?_
        exact ⟨by first | rfl | (simp [errW_none, errW_some] <;> rfl) | (simp [*, errW_none, errW_some] <;> rfl), by repeat (first | (with_reducible first | exact HB.out | apply below_alloc | apply pw_below_drewN | apply below_drew1 | refine below_set ?_ GE119.out) | exact HB.out)⟩
      · replace c6 := Bool.eq_false_iff.mpr c6
        subst c6
        have H1 : ((group_Pow.f a1 a0).bind fun bt120 => (if bt120.2 = 0 then ((equal_pow.f 4 a0).bind fun t122 => ((equal_text.f kj2 (([a0, a1] : List Int))).bind fun t126 => ((group_Hash.f (⟨#[101, 113, 117, 97, 108, 32, 110, 111, 110, 99, 101]⟩ : ByteArray) t126).bind fun t129 => ((equal_pow.f 4 (mx 1 t129)).bind fun t130 => ((equal_pow.f a1 (mx 1 t129)).bind fun t131 => ((equal_challenge.f kj2 t122 a1 bt120.1 t130 t131).bind fun t132 => (some (bt120.1, t132, Int.tmod (wrap64 ((mx 1 t129) + (wrap64 (t132 * a0)))) 1073741789, 0)))))))) else (some (0, 0, 0, bt120.2)))) = some (r1, r2, r3, r4) := by rw [if_neg (show ¬ (false = true) by decide)] at H; exact H
        clear H
        have H := H1
        clear H1
        replace H := Option.bind_eq_some_iff.mp H
        obtain ⟨⟨t120, t121⟩, A100, H⟩ := H
        replace H : (if t121 = 0 then ((equal_pow.f 4 a0).bind fun t122 => ((equal_text.f kj2 (([a0, a1] : List Int))).bind fun t126 => ((group_Hash.f (⟨#[101, 113, 117, 97, 108, 32, 110, 111, 110, 99, 101]⟩ : ByteArray) t126).bind fun t129 => ((equal_pow.f 4 (mx 1 t129)).bind fun t130 => ((equal_pow.f a1 (mx 1 t129)).bind fun t131 => ((equal_challenge.f kj2 t122 a1 t120 t130 t131).bind fun t132 => (some (t120, t132, Int.tmod (wrap64 ((mx 1 t129) + (wrap64 (t132 * a0)))) 1073741789, 0)))))))) else (some (0, 0, 0, t121))) = some (r1, r2, r3, r4) := H
        have A10 := Aside0.mk A100
        clear A100
        by_cases c11 : t121 = 0
        · rw [if_pos c11] at H
          have c11b0 : (t121 == 0) = true := beq_iff_eq.mpr c11
          have c11b1 : (t121 != 0) = false := bne_eq_false_iff_eq.mpr c11
          clear c11
          replace H := Option.bind_eq_some_iff.mp H
          obtain ⟨t122, A120, H⟩ := H
          replace H : ((equal_text.f kj2 (([a0, a1] : List Int))).bind fun t126 => ((group_Hash.f (⟨#[101, 113, 117, 97, 108, 32, 110, 111, 110, 99, 101]⟩ : ByteArray) t126).bind fun t129 => ((equal_pow.f 4 (mx 1 t129)).bind fun t130 => ((equal_pow.f a1 (mx 1 t129)).bind fun t131 => ((equal_challenge.f kj2 t122 a1 t120 t130 t131).bind fun t132 => (some (t120, t132, Int.tmod (wrap64 ((mx 1 t129) + (wrap64 (t132 * a0)))) 1073741789, 0))))))) = some (r1, r2, r3, r4) := H
          have A12 := Aside0.mk A120
          clear A120
          obtain ⟨y123, hy123⟩ : ∃ y_ : List Int, y_ = (([a0, a1] : List Int)) := ⟨_, rfl⟩
          replace H : ((equal_text.f kj2 y123).bind fun t126 => ((group_Hash.f (⟨#[101, 113, 117, 97, 108, 32, 110, 111, 110, 99, 101]⟩ : ByteArray) t126).bind fun t129 => ((equal_pow.f 4 (mx 1 t129)).bind fun t130 => ((equal_pow.f a1 (mx 1 t129)).bind fun t131 => ((equal_challenge.f kj2 t122 a1 t120 t130 t131).bind fun t132 => (some (t120, t132, Int.tmod (wrap64 ((mx 1 t129) + (wrap64 (t132 * a0)))) 1073741789, 0))))))) = some (r1, r2, r3, r4) := by first | (rw [hy123]; with_reducible exact H) | (have H2_ := (Option.bind_some _ _).symm.trans H; rw [hy123]; with_reducible exact H2_) | (have H2_ := (Option.bind_some _ _).symm.trans H; with_reducible exact H2_) | with_reducible exact H | (rw [hy123]; exact H) | exact H
          have Ny123 := Aside0.mk hy123
          clear hy123
          replace H := Option.bind_eq_some_iff.mp H
          obtain ⟨t126, A130, H⟩ := H
          replace H : ((group_Hash.f (⟨#[101, 113, 117, 97, 108, 32, 110, 111, 110, 99, 101]⟩ : ByteArray) t126).bind fun t129 => ((equal_pow.f 4 (mx 1 t129)).bind fun t130 => ((equal_pow.f a1 (mx 1 t129)).bind fun t131 => ((equal_challenge.f kj2 t122 a1 t120 t130 t131).bind fun t132 => (some (t120, t132, Int.tmod (wrap64 ((mx 1 t129) + (wrap64 (t132 * a0)))) 1073741789, 0)))))) = some (r1, r2, r3, r4) := H
          have A13 := Aside0.mk A130
          clear A130
          replace H := Option.bind_eq_some_iff.mp H
          obtain ⟨t129, A140, H⟩ := H
          replace H : ((equal_pow.f 4 (mx 1 t129)).bind fun t130 => ((equal_pow.f a1 (mx 1 t129)).bind fun t131 => ((equal_challenge.f kj2 t122 a1 t120 t130 t131).bind fun t132 => (some (t120, t132, Int.tmod (wrap64 ((mx 1 t129) + (wrap64 (t132 * a0)))) 1073741789, 0))))) = some (r1, r2, r3, r4) := H
          have A14 := Aside0.mk A140
          clear A140
          obtain ⟨ji15, hji15⟩ : ∃ j_ : Int, (mx 1 t129) = j_ := ⟨_, rfl⟩
          replace H : ((equal_pow.f 4 (ji15)).bind fun t130 => ((equal_pow.f a1 (ji15)).bind fun t131 => ((equal_challenge.f kj2 t122 a1 t120 t130 t131).bind fun t132 => (some (t120, t132, Int.tmod (wrap64 ((ji15) + (wrap64 (t132 * a0)))) 1073741789, 0))))) = some (r1, r2, r3, r4) := by first | (rw [hji15] at H; exact H) | (simp only [hji15] at H ⊢; exact H)
          (try rw [hji15] at A10)
          (try rw [hji15] at A12)
          (try rw [hji15] at A13)
          (try rw [hji15] at A14)
          (try (have hji15l : 1 ≤ ji15 := by (rw [← hji15]; unfold mx; (repeat' split) <;> omega)))
          (try (have hji15m : 0 ≤ ji15 := by omega))
          have hji15_ : (if 1 < t129 then t129 else 1) = ji15 := hji15
          replace H := Option.bind_eq_some_iff.mp H
          obtain ⟨t130, A160, H⟩ := H
          replace H : ((equal_pow.f a1 (ji15)).bind fun t131 => ((equal_challenge.f kj2 t122 a1 t120 t130 t131).bind fun t132 => (some (t120, t132, Int.tmod (wrap64 ((ji15) + (wrap64 (t132 * a0)))) 1073741789, 0)))) = some (r1, r2, r3, r4) := H
          have A16 := Aside0.mk A160
          clear A160
          replace H := Option.bind_eq_some_iff.mp H
          obtain ⟨t131, A170, H⟩ := H
          replace H : ((equal_challenge.f kj2 t122 a1 t120 t130 t131).bind fun t132 => (some (t120, t132, Int.tmod (wrap64 ((ji15) + (wrap64 (t132 * a0)))) 1073741789, 0))) = some (r1, r2, r3, r4) := H
          have A17 := Aside0.mk A170
          clear A170
          replace H := Option.bind_eq_some_iff.mp H
          obtain ⟨t132, A180, H⟩ := H
          replace H : (some (t120, t132, Int.tmod (wrap64 ((ji15) + (wrap64 (t132 * a0)))) 1073741789, 0)) = some (r1, r2, r3, r4) := H
          have A18 := Aside0.mk A180
          clear A180
          simp only [Option.some.injEq, Prod.mk.injEq] at H
          obtain ⟨rfl, rfl, rfl, rfl⟩ := H
          try go_wp2_with (first | ((with_reducible refine gate_callee (f := 31) rfl ?_); refine goesL_ (some 19) rfl rfl Tryd.func31 (by kernel_rfl) rfl #[.int .i64 a1, .int .i64 a0] rfl (by (try simp only [List.map_toArray, List.map_cons, List.map_nil]); first | done | rfl | (simp only [List.length_drop, List.length_take]; rfl)) ?_; (with_reducible refine (group_Pow.calls a1 a0 t120 t121 _ A10.out).mono ?_); rintro e w19 ⟨rfl, hb⟩; refine ⟨_, rfl, ?_⟩; have n0_ := Aside0.mk (blk_below (g := gb119) (o := .cells #[.int .i64 0, .int .i64 0] 23 (0, 0)) (by (with_reducible repeat (first | refine blk_drewN ?_ _ | refine blk_drew ?_ | refine blk_alloc ?_ _)); exact BK119.out) hb); have n1_ := Aside0.mk (below_step (by repeat (first | (with_reducible first | exact HB.out | apply below_alloc | apply pw_below_drewN | apply below_drew1 | refine below_set ?_ GE119.out) | exact HB.out)) hb); clear BK119; clear HB; have BK119 := n0_; have HB := n1_; clear n0_ n1_; (try clear hb); (try clear hb2); (try clear hk); (try clear hi)) | ((with_reducible refine gate_callee (f := 39) rfl ?_); refine goesL_ (some 27) rfl rfl Tryd.func39 (by kernel_rfl) rfl #[.int .i64 4, .int .i64 a0] rfl (by (try simp only [List.map_toArray, List.map_cons, List.map_nil]); first | done | rfl | (simp only [List.length_drop, List.length_take]; rfl)) ?_; (with_reducible refine (equal_pow.calls 4 a0 t122 _ A12.out).mono ?_); rintro e w20 ⟨rfl, hb⟩; refine ⟨_, rfl, ?_⟩; have n0_ := Aside0.mk (blk_below (g := gb119) (o := .cells #[.int .i64 0, .int .i64 0] 23 (0, 0)) (by (with_reducible repeat (first | refine blk_drewN ?_ _ | refine blk_drew ?_ | refine blk_alloc ?_ _)); exact BK119.out) hb); have n1_ := Aside0.mk (below_step (by repeat (first | (with_reducible first | exact HB.out | apply below_alloc | apply pw_below_drewN | apply below_drew1 | refine below_set ?_ GE119.out) | exact HB.out)) hb); clear BK119; clear HB; have BK119 := n0_; have HB := n1_; clear n0_ n1_; (try clear hb); (try clear hb2); (try clear hk); (try clear hi)) | ((with_reducible refine gate_dst (N := 30) rfl ?_); refine Kd.R_lit (Kd.int .i64) _ 3 ?hg (N := 30) ?hd (xs := ([a0, a1] : List Int)) (inner := [.int .i64 a0, .int .i64 a1]) (ok := fun _ => True) (okp := fun _ => True) ?hr ?hp (fun _ hk => hk) trivial (Below.refl _ _) (Nat.le_refl _) (by simp) ?_; (case hd => rfl); (case hg => rfl); (case hr => first | (go_simp; done) | (go_simp; rfl)); (case hp => exact (Reps.one (show Kd.M (Kd.int .i64) _ _ _ a0 [.int .i64 a0] from rfl) (Reps.one (show Kd.M (Kd.int .i64) _ _ _ a1 [.int .i64 a1] from rfl) (Reps.none _ _)))); intro v124 w21 ho22 hb hg_ hnew_; clear hg_ hnew_; (first | rw [← Ny123.out] at ho22 | (simp only [Int.reduceToNat] at ho22; rw [← Ny123.out] at ho22)); have n0_ := Aside0.mk (Kd.R_lower ho22 (below_size (by repeat (first | (with_reducible first | exact HB.out | apply below_alloc | apply pw_below_drewN | apply below_drew1 | refine below_set ?_ GE119.out) | exact HB.out)))); have n1_ := Aside0.mk (blk_below (g := gb119) (o := .cells #[.int .i64 0, .int .i64 0] 23 (0, 0)) (by (with_reducible repeat (first | refine blk_drewN ?_ _ | refine blk_drew ?_ | refine blk_alloc ?_ _)); exact BK119.out) hb); have n2_ := Aside0.mk (below_step (by repeat (first | (with_reducible first | exact HB.out | apply below_alloc | apply pw_below_drewN | apply below_drew1 | refine below_set ?_ GE119.out) | exact HB.out)) hb); clear BK119; clear HB; have HO125 := n0_; have BK119 := n1_; have HB := n2_; clear n0_ n1_ n2_; clear hb ho22; obtain ⟨Ao23, co23, eo23⟩ := Kd.R_slice HO125.out; subst eo23) | ((with_reducible refine gate_callee (f := 40) rfl ?_); refine goesL_ (some 31) rfl rfl Tryd.func40 (by kernel_rfl) rfl #[.slice Ao23 y123.length co23] rfl (by (try simp only [List.map_toArray, List.map_cons, List.map_nil]); first | done | rfl | (simp only [List.length_drop, List.length_take]; rfl)) ?_; (with_reducible refine (equal_text.calls kj2 _ _ y123 t126 _ ?side1 ?side2 A13.out).mono ?_); (case side1 => repeat (first | exact (Kd.R_reads' HO125.out).2.2 | (with_reducible refine Kd.C_alloc ?_ _) | (with_reducible refine Kd.C_drewN ?_ _) | (with_reducible refine Kd.C_drew ?_))); (case side2 => exact (Kd.R_reads' HO125.out).2.1); rintro e w24 ⟨v127, rfl, ho0, hb⟩; refine ⟨_, rfl, ?_⟩; have n0_ := Aside0.mk (Kd.R_below (by (with_reducible repeat (first | apply Kd.R_alloc | apply Kd.R_drewN | apply Kd.R_drew)); exact HO125.out) hb); have n1_ := Aside0.mk (Kd.R_lower ho0 (below_size (by repeat (first | (with_reducible first | exact HB.out | apply below_alloc | apply pw_below_drewN | apply below_drew1 | refine below_set ?_ GE119.out) | exact HB.out)))); have n2_ := Aside0.mk (blk_below (g := gb119) (o := .cells #[.int .i64 0, .int .i64 0] 23 (0, 0)) (by (with_reducible repeat (first | refine blk_drewN ?_ _ | refine blk_drew ?_ | refine blk_alloc ?_ _)); exact BK119.out) hb); have n3_ := Aside0.mk (below_step (by repeat (first | (with_reducible first | exact HB.out | apply below_alloc | apply pw_below_drewN | apply below_drew1 | refine below_set ?_ GE119.out) | exact HB.out)) hb); clear HO125; clear BK119; clear HB; have HO125 := n0_; have HO128 := n1_; have BK119 := n2_; have HB := n3_; clear n0_ n1_ n2_ n3_; (try clear hb); (try clear hb2); (try clear hk); (try clear hi); (try clear ho0); obtain ⟨Ao25, co25, eo25⟩ := Kd.R_slice HO128.out; subst eo25) | ((with_reducible refine gate_callee (f := 25) rfl ?_); refine goesL_ (some 32) rfl rfl Tryd.func25 (by kernel_rfl) rfl #[.string (⟨#[101, 113, 117, 97, 108, 32, 110, 111, 110, 99, 101]⟩ : ByteArray), .slice Ao25 t126.length co25] rfl (by (try simp only [List.map_toArray, List.map_cons, List.map_nil]); first | done | rfl | (simp only [List.length_drop, List.length_take]; rfl)) ?_; (with_reducible refine (group_Hash.calls (⟨#[101, 113, 117, 97, 108, 32, 110, 111, 110, 99, 101]⟩ : ByteArray) _ _ t126 t129 _ ?side1 ?side2 A14.out).mono ?_); (case side1 => repeat (first | exact (Kd.R_reads' HO128.out).2.2 | (with_reducible refine Kd.C_alloc ?_ _) | (with_reducible refine Kd.C_drewN ?_ _) | (with_reducible refine Kd.C_drew ?_))); (case side2 => exact (Kd.R_reads' HO128.out).2.1); rintro e w26 ⟨rfl, hb⟩; refine ⟨_, rfl, ?_⟩; have n0_ := Aside0.mk (Kd.R_below (by (with_reducible repeat (first | apply Kd.R_alloc | apply Kd.R_drewN | apply Kd.R_drew)); exact HO125.out) hb); have n1_ := Aside0.mk (Kd.R_below (by (with_reducible repeat (first | apply Kd.R_alloc | apply Kd.R_drewN | apply Kd.R_drew)); exact HO128.out) hb); have n2_ := Aside0.mk (blk_below (g := gb119) (o := .cells #[.int .i64 0, .int .i64 0] 23 (0, 0)) (by (with_reducible repeat (first | refine blk_drewN ?_ _ | refine blk_drew ?_ | refine blk_alloc ?_ _)); exact BK119.out) hb); have n3_ := Aside0.mk (below_step (by repeat (first | (with_reducible first | exact HB.out | apply below_alloc | apply pw_below_drewN | apply below_drew1 | refine below_set ?_ GE119.out) | exact HB.out)) hb); clear HO125; clear HO128; clear BK119; clear HB; have HO125 := n0_; have HO128 := n1_; have BK119 := n2_; have HB := n3_; clear n0_ n1_ n2_ n3_; (try clear hb); (try clear hb2); (try clear hk); (try clear hi)) | ((with_reducible refine gate_callee (f := 39) rfl ?_); refine goesL_ (some 38) rfl rfl Tryd.func39 (by kernel_rfl) rfl #[.int .i64 4, .int .i64 ji15] rfl (by (try simp only [List.map_toArray, List.map_cons, List.map_nil]); first | done | (simp only [hji15]; rfl) | rfl | (simp only [List.length_drop, List.length_take]; rfl)) ?_; (with_reducible refine (equal_pow.calls 4 ji15 t130 _ A16.out).mono ?_); rintro e w27 ⟨rfl, hb⟩; refine ⟨_, rfl, ?_⟩; have n0_ := Aside0.mk (Kd.R_below (by (with_reducible repeat (first | apply Kd.R_alloc | apply Kd.R_drewN | apply Kd.R_drew)); exact HO125.out) hb); have n1_ := Aside0.mk (Kd.R_below (by (with_reducible repeat (first | apply Kd.R_alloc | apply Kd.R_drewN | apply Kd.R_drew)); exact HO128.out) hb); have n2_ := Aside0.mk (blk_below (g := gb119) (o := .cells #[.int .i64 0, .int .i64 0] 23 (0, 0)) (by (with_reducible repeat (first | refine blk_drewN ?_ _ | refine blk_drew ?_ | refine blk_alloc ?_ _)); exact BK119.out) hb); have n3_ := Aside0.mk (below_step (by repeat (first | (with_reducible first | exact HB.out | apply below_alloc | apply pw_below_drewN | apply below_drew1 | refine below_set ?_ GE119.out) | exact HB.out)) hb); clear HO125; clear HO128; clear BK119; clear HB; have HO125 := n0_; have HO128 := n1_; have BK119 := n2_; have HB := n3_; clear n0_ n1_ n2_ n3_; (try clear hb); (try clear hb2); (try clear hk); (try clear hi)) | ((with_reducible refine gate_callee (f := 39) rfl ?_); refine goesL_ (some 41) rfl rfl Tryd.func39 (by kernel_rfl) rfl #[.int .i64 a1, .int .i64 ji15] rfl (by (try simp only [List.map_toArray, List.map_cons, List.map_nil]); first | done | (simp only [hji15]; rfl) | rfl | (simp only [List.length_drop, List.length_take]; rfl)) ?_; (with_reducible refine (equal_pow.calls a1 ji15 t131 _ A17.out).mono ?_); rintro e w28 ⟨rfl, hb⟩; refine ⟨_, rfl, ?_⟩; have n0_ := Aside0.mk (Kd.R_below (by (with_reducible repeat (first | apply Kd.R_alloc | apply Kd.R_drewN | apply Kd.R_drew)); exact HO125.out) hb); have n1_ := Aside0.mk (Kd.R_below (by (with_reducible repeat (first | apply Kd.R_alloc | apply Kd.R_drewN | apply Kd.R_drew)); exact HO128.out) hb); have n2_ := Aside0.mk (blk_below (g := gb119) (o := .cells #[.int .i64 0, .int .i64 0] 23 (0, 0)) (by (with_reducible repeat (first | refine blk_drewN ?_ _ | refine blk_drew ?_ | refine blk_alloc ?_ _)); exact BK119.out) hb); have n3_ := Aside0.mk (below_step (by repeat (first | (with_reducible first | exact HB.out | apply below_alloc | apply pw_below_drewN | apply below_drew1 | refine below_set ?_ GE119.out) | exact HB.out)) hb); clear HO125; clear HO128; clear BK119; clear HB; have HO125 := n0_; have HO128 := n1_; have BK119 := n2_; have HB := n3_; clear n0_ n1_ n2_ n3_; (try clear hb); (try clear hb2); (try clear hk); (try clear hi)) | ((with_reducible refine gate_callee (f := 41) rfl ?_); refine goesL_ (some 42) rfl rfl Tryd.func41 (by kernel_rfl) rfl #[.int .i64 t122, .int .i64 a1, .int .i64 t120, .int .i64 t130, .int .i64 t131] rfl (by (try simp only [List.map_toArray, List.map_cons, List.map_nil]); first | done | rfl | (simp only [List.length_drop, List.length_take]; rfl)) ?_; (with_reducible refine (equal_challenge.calls kj2 t122 a1 t120 t130 t131 t132 _ A18.out).mono ?_); rintro e w29 ⟨rfl, hb⟩; refine ⟨_, rfl, ?_⟩; have n0_ := Aside0.mk (Kd.R_below (by (with_reducible repeat (first | apply Kd.R_alloc | apply Kd.R_drewN | apply Kd.R_drew)); exact HO125.out) hb); have n1_ := Aside0.mk (Kd.R_below (by (with_reducible repeat (first | apply Kd.R_alloc | apply Kd.R_drewN | apply Kd.R_drew)); exact HO128.out) hb); have n2_ := Aside0.mk (blk_below (g := gb119) (o := .cells #[.int .i64 0, .int .i64 0] 23 (0, 0)) (by (with_reducible repeat (first | refine blk_drewN ?_ _ | refine blk_drew ?_ | refine blk_alloc ?_ _)); exact BK119.out) hb); have n3_ := Aside0.mk (below_step (by repeat (first | (with_reducible first | exact HB.out | apply below_alloc | apply pw_below_drewN | apply below_drew1 | refine below_set ?_ GE119.out) | exact HB.out)) hb); clear HO125; clear HO128; clear BK119; clear HB; have HO125 := n0_; have HO128 := n1_; have BK119 := n2_; have HB := n3_; clear n0_ n1_ n2_ n3_; (try clear hb); (try clear hb2); (try clear hk); (try clear hi); have hcz30_0 : w29.cell? ⟨gb119, 0, none⟩ = some (.int .i64 0) := (blk_cell BK119.out 0).trans rfl; have hcz30_1 : w29.cell? ⟨gb119, 1, none⟩ = some (.int .i64 0) := (blk_cell BK119.out 1).trans rfl; have hfz30_0 := blk_frozen BK119.out 0; have hfz30_1 := blk_frozen BK119.out 1))
          have n0_ : Aside0 (Kd.R (Kd.int .i64) 3 ((w29.setCell ⟨gb119, 0, none⟩ (.int .i64 t132)).setCell ⟨gb119, 1, none⟩ (.int .i64 (Int.tmod (wrap64 ((ji15) + (wrap64 (t132 * a0)))) 1073741789))) w.heap.size (fun _ => True) (.slice Ao23 y123.length co23) y123) := ⟨by (with_reducible repeat (first | apply Kd.R_alloc | apply Kd.R_drewN | apply Kd.R_drew)); exact Kd.R_mono (Kd.R_far (p := ⟨gb119, 1, none⟩) (Kd.R_far (p := ⟨gb119, 0, none⟩) (Kd.R_types HO125.out BK119.out (by decide)) (fun _ hk => hk.2) (.int .i64 t132)) (fun _ hk => hk.2) (.int .i64 (Int.tmod (wrap64 ((ji15) + (wrap64 (t132 * a0)))) 1073741789))) (fun _ hk => trivial)⟩
          have n1_ : Aside0 (Kd.R (Kd.int .u8) 5 ((w29.setCell ⟨gb119, 0, none⟩ (.int .i64 t132)).setCell ⟨gb119, 1, none⟩ (.int .i64 (Int.tmod (wrap64 ((ji15) + (wrap64 (t132 * a0)))) 1073741789))) w.heap.size (fun _ => True) (.slice Ao25 t126.length co25) t126) := ⟨by (with_reducible repeat (first | apply Kd.R_alloc | apply Kd.R_drewN | apply Kd.R_drew)); exact Kd.R_mono (Kd.R_far (p := ⟨gb119, 1, none⟩) (Kd.R_far (p := ⟨gb119, 0, none⟩) (Kd.R_types HO128.out BK119.out (by decide)) (fun _ hk => hk.2) (.int .i64 t132)) (fun _ hk => hk.2) (.int .i64 (Int.tmod (wrap64 ((ji15) + (wrap64 (t132 * a0)))) 1073741789))) (fun _ hk => trivial)⟩
          have n2_ : Aside0 (((w29.setCell ⟨gb119, 0, none⟩ (.int .i64 t132)).setCell ⟨gb119, 1, none⟩ (.int .i64 (Int.tmod (wrap64 ((ji15) + (wrap64 (t132 * a0)))) 1073741789))).heap[gb119]? = some (.cells #[.int .i64 t132, .int .i64 (Int.tmod (wrap64 ((ji15) + (wrap64 (t132 * a0)))) 1073741789)] 23 (0, 0))) := ⟨by (with_reducible repeat (first | refine blk_drewN ?_ _ | refine blk_drew ?_ | refine blk_alloc ?_ _)); refine blk_put (cs := #[.int .i64 t132, .int .i64 0]) ?_ 1 _ rfl; (with_reducible repeat (first | refine blk_drewN ?_ _ | refine blk_drew ?_ | refine blk_alloc ?_ _)); refine blk_put (cs := #[.int .i64 0, .int .i64 0]) ?_ 0 _ rfl; (with_reducible repeat (first | refine blk_drewN ?_ _ | refine blk_drew ?_ | refine blk_alloc ?_ _)); exact BK119.out⟩
          have n3_ : Aside0 (Below w.heap.size w ((w29.setCell ⟨gb119, 0, none⟩ (.int .i64 t132)).setCell ⟨gb119, 1, none⟩ (.int .i64 (Int.tmod (wrap64 ((ji15) + (wrap64 (t132 * a0)))) 1073741789)))) := ⟨by repeat (first | (with_reducible first | exact HB.out | apply below_alloc | apply pw_below_drewN | apply below_drew1 | refine below_set ?_ GE119.out) | exact HB.out)⟩
          (try clear HO125)
          (try clear HO128)
          (try clear BK119)
          (try clear HB)
          generalize ((w29.setCell ⟨gb119, 0, none⟩ (.int .i64 t132)).setCell ⟨gb119, 1, none⟩ (.int .i64 (Int.tmod (wrap64 ((ji15) + (wrap64 (t132 * a0)))) 1073741789))) = w31 at n0_ n1_ n2_ n3_ ⊢
          have HO125 := n0_
          have HO128 := n1_
          have BK119 := n2_
          have HB := n3_
          clear n0_ n1_ n2_ n3_
          have n0_ := Aside0.mk (Kd.R_drew HO125.out)
          have n1_ := Aside0.mk (Kd.R_drew HO128.out)
          have n2_ := Aside0.mk (blk_drew BK119.out)
          have n3_ := Aside0.mk (below_drew1 HB.out)
          clear HO125
          clear HO128
          clear BK119
          clear HB
          have HO125 := n0_
          have HO128 := n1_
          have BK119 := n2_
          have HB := n3_
          clear n0_ n1_ n2_ n3_
          refine start_ (n := 5) (S := fun w' => w'.cell? ⟨gb119, 0, none⟩ = some (.int .i64 t132) ∧ w'.cell? ⟨gb119, 1, none⟩ = some (.int .i64 (Int.tmod (wrap64 ((ji15) + (wrap64 (t132 * a0)))) 1073741789))) (ds := [3]) #[false, false, false, false, false] (by kernel_rfl) rfl rfl ⟨(blk_cell BK119.out 0).trans rfl, (blk_cell BK119.out 1).trans rfl⟩ (fun hHeld => ?_)
          generalize w31.drew = w32 at HO125 HO128 BK119 HB hHeld ⊢
          refine pure_ (i := 0) (N := some 52) (v := ?_) (a' := ?_) #[true, false, false, false, false] rfl rfl (by kernel_rfl) (fun _ _ _ h => h) (Or.inl ⟨by rfl, ?_⟩) ?_ ?_
          rotate_left
          · intro w'
            go_simp
            with_reducible rfl
          rotate_left
          · simp only [Act.put, List.setIfInBounds_toArray, List.set_cons_zero, List.set_cons_succ, i64_w, i32_w]
            rfl
          refine pure_ (i := 2) (N := some 4) (v := ?_) (a' := ?_) #[true, false, true, false, false] rfl rfl (by kernel_rfl) (fun _ _ _ h => h) (Or.inl ⟨by rfl, ?_⟩) ?_ ?_
          rotate_left
          · intro w'
            go_simp
            with_reducible rfl
          rotate_left
          · simp only [Act.put, List.setIfInBounds_toArray, List.set_cons_zero, List.set_cons_succ, i64_w, i32_w]
            rfl
          refine take_ (i := 1) (N := some 53) (v := ?_) (a' := ?_) #[true, true, true, false, false] rfl rfl (by kernel_rfl) (fun _ _ _ h => h) (Or.inl ⟨by rfl, ?_⟩) hHeld ?_ ?_
          rotate_left
          · rintro w' ⟨s0, s1⟩
            go_simp
            with_reducible rfl
          rotate_left
          · simp only [Act.put, List.setIfInBounds_toArray, List.set_cons_zero, List.set_cons_succ, i64_w, i32_w]
            rfl
          refine last_ (i := 3) (N := none) #[true, true, true, true, false] rfl rfl (by kernel_rfl) (by decide) (fun K hK => ?_)
          have hs33 : w32.cell? ⟨gb119, 0, none⟩ = some (.int .i64 t132) := (blk_cell BK119.out 0).trans rfl
          have hfs33 := blk_frozen BK119.out 0
          have hs34 : w32.cell? ⟨gb119, 1, none⟩ = some (.int .i64 (Int.tmod (wrap64 ((ji15) + (wrap64 (t132 * a0)))) 1073741789)) := (blk_cell BK119.out 1).trans rfl
          have hfs34 := blk_frozen BK119.out 1
          refine skip_ (w1 := ?_) (by rfl) rfl ?_ ?_
          rotate_left
          · go_simp
            rfl
          refine hK.out _ _ ?_
          clear hK K
          refine pure_ (i := 4) (N := some 6) (v := ?_) (a' := ?_) #[true, true, true, true, true] rfl rfl (by kernel_rfl) (fun _ _ _ h => h) (Or.inl ⟨by rfl, ?_⟩) ?_ ?_
          rotate_left
          · intro w'
            go_simp
            with_reducible rfl
          rotate_left
          · simp only [Act.put, List.setIfInBounds_toArray, List.set_cons_zero, List.set_cons_succ, i64_w, i32_w]
            rfl
          refine done_ (by kernel_rfl) ?_
          try go_wp2
          refine bodyPost_ret (results_list (rs := [.tmp 4, .cell 5 23, .tmp 6]) rfl (by simp) (.tmp (.cell gb119 23 #[.int .i64 t132, .int .i64 (Int.tmod (wrap64 ((ji15) + (wrap64 (t132 * a0)))) 1073741789)] (0, 0) _ rfl (by (with_reducible repeat (first | refine blk_drewN ?_ _ | refine blk_drew ?_ | refine blk_alloc ?_ _)); refine blk_put (cs := #[.int .i64 t132, .int .i64 (Int.tmod (wrap64 ((ji15) + (wrap64 (t132 * a0)))) 1073741789)]) ?_ 1 _ rfl; (with_reducible repeat (first | refine blk_drewN ?_ _ | refine blk_drew ?_ | refine blk_alloc ?_ _)); refine blk_put (cs := #[.int .i64 t132, .int .i64 (Int.tmod (wrap64 ((ji15) + (wrap64 (t132 * a0)))) 1073741789)]) ?_ 0 _ rfl; (with_reducible repeat (first | refine blk_drewN ?_ _ | refine blk_drew ?_ | refine blk_alloc ?_ _)); exact BK119.out) Tryd.underlying23 rfl (by kernel_rfl) (.tmp .nil)))) rfl ?_
          exact ⟨by first | rfl | (simp [errW_none, errW_some] <;> rfl) | (simp only [← hji15]; first | rfl | (simp [errW_none, errW_some] <;> rfl)) | (simp [*, errW_none, errW_some] <;> rfl), by repeat (first | (with_reducible first | exact HB.out | apply below_alloc | apply pw_below_drewN | apply below_drew1 | refine below_set ?_ GE119.out) | exact HB.out)⟩
        · rw [if_neg c11] at H
          have c11b0 : (t121 == 0) = false := beq_eq_false_iff_ne.mpr c11
          have c11b1 : (t121 != 0) = true := bne_iff_ne.mpr c11
          simp only [Option.some.injEq, Prod.mk.injEq] at H
          obtain ⟨rfl, rfl, rfl, rfl⟩ := H
          try go_wp2_with (first | ((with_reducible refine gate_callee (f := 31) rfl ?_); refine goesL_ (some 19) rfl rfl Tryd.func31 (by kernel_rfl) rfl #[.int .i64 a1, .int .i64 a0] rfl (by (try simp only [List.map_toArray, List.map_cons, List.map_nil]); first | done | rfl | (simp only [List.length_drop, List.length_take]; rfl)) ?_; (with_reducible refine (group_Pow.calls a1 a0 t120 t121 _ A10.out).mono ?_); rintro e w35 ⟨rfl, hb⟩; refine ⟨_, rfl, ?_⟩; have n0_ := Aside0.mk (blk_below (g := gb119) (o := .cells #[.int .i64 0, .int .i64 0] 23 (0, 0)) (by (with_reducible repeat (first | refine blk_drewN ?_ _ | refine blk_drew ?_ | refine blk_alloc ?_ _)); exact BK119.out) hb); have n1_ := Aside0.mk (below_step (by repeat (first | (with_reducible first | exact HB.out | apply below_alloc | apply pw_below_drewN | apply below_drew1 | refine below_set ?_ GE119.out) | exact HB.out)) hb); clear BK119; clear HB; have BK119 := n0_; have HB := n1_; clear n0_ n1_; (try clear hb); (try clear hb2); (try clear hk); (try clear hi)))
          have n0_ := Aside0.mk (blk_drew BK119.out)
          have n1_ := Aside0.mk (below_drew1 HB.out)
          clear BK119
          clear HB
          have BK119 := n0_
          have HB := n1_
          clear n0_ n1_
          refine start_ (n := 5) (S := fun w' => w'.cell? ⟨gb119, 0, none⟩ = some (.int .i64 0) ∧ w'.cell? ⟨gb119, 1, none⟩ = some (.int .i64 0)) (ds := [3]) #[false, false, false, false, false] (by kernel_rfl) rfl rfl ⟨(blk_cell BK119.out 0).trans rfl, (blk_cell BK119.out 1).trans rfl⟩ (fun hHeld => ?_)
          generalize w35.drew = w36 at BK119 HB hHeld ⊢
          refine pure_ (i := 1) (N := some 25) (v := ?_) (a' := ?_) #[false, true, false, false, false] rfl rfl (by kernel_rfl) (fun _ _ _ h => h) (Or.inl ⟨by rfl, ?_⟩) ?_ ?_
          rotate_left
          · intro w'
            go_simp
            with_reducible rfl
          rotate_left
          · simp only [Act.put, List.setIfInBounds_toArray, List.set_cons_zero, List.set_cons_succ, i64_w, i32_w]
            rfl
          refine pure_ (i := 2) (N := some 4) (v := ?_) (a' := ?_) #[false, true, true, false, false] rfl rfl (by kernel_rfl) (fun _ _ _ h => h) (Or.inl ⟨by rfl, ?_⟩) ?_ ?_
          rotate_left
          · intro w'
            go_simp
            with_reducible rfl
          rotate_left
          · simp only [Act.put, List.setIfInBounds_toArray, List.set_cons_zero, List.set_cons_succ, i64_w, i32_w]
            rfl
          refine take_ (i := 0) (N := some 24) (v := ?_) (a' := ?_) #[true, true, true, false, false] rfl rfl (by kernel_rfl) (fun _ _ _ h => h) (Or.inl ⟨by rfl, ?_⟩) hHeld ?_ ?_
          rotate_left
          · rintro w' ⟨s0, s1⟩
            go_simp
            with_reducible rfl
          rotate_left
          · simp only [Act.put, List.setIfInBounds_toArray, List.set_cons_zero, List.set_cons_succ, i64_w, i32_w]
            rfl
          refine last_ (i := 3) (N := none) #[true, true, true, true, false] rfl rfl (by kernel_rfl) (by decide) (fun K hK => ?_)
          have hs37 : w36.cell? ⟨gb119, 0, none⟩ = some (.int .i64 0) := (blk_cell BK119.out 0).trans rfl
          have hfs37 := blk_frozen BK119.out 0
          have hs38 : w36.cell? ⟨gb119, 1, none⟩ = some (.int .i64 0) := (blk_cell BK119.out 1).trans rfl
          have hfs38 := blk_frozen BK119.out 1
          refine skip_ (w1 := ?_) (by rfl) rfl ?_ ?_
          rotate_left
          · go_simp
            rfl
          refine hK.out _ _ ?_
          clear hK K
          refine pure_ (i := 4) (N := some 6) (v := ?_) (a' := ?_) #[true, true, true, true, true] rfl rfl (by kernel_rfl) (fun _ _ _ h => h) (Or.inl ⟨by rfl, ?_⟩) ?_ ?_
          rotate_left
          · intro w'
            go_simp
            with_reducible rfl
          rotate_left
          · simp only [Act.put, List.setIfInBounds_toArray, List.set_cons_zero, List.set_cons_succ, i64_w, i32_w]
            rfl
          refine done_ (by kernel_rfl) ?_
          try go_wp2
          refine bodyPost_ret (results_list (rs := [.tmp 4, .cell 5 23, .tmp 6]) rfl (by simp) (.tmp (.cell gb119 23 #[.int .i64 0, .int .i64 0] (0, 0) _ rfl (by (with_reducible repeat (first | refine blk_drewN ?_ _ | refine blk_drew ?_ | refine blk_alloc ?_ _)); refine blk_put (cs := #[.int .i64 0, .int .i64 0]) ?_ 1 _ rfl; (with_reducible repeat (first | refine blk_drewN ?_ _ | refine blk_drew ?_ | refine blk_alloc ?_ _)); refine blk_put (cs := #[.int .i64 0, .int .i64 0]) ?_ 0 _ rfl; (with_reducible repeat (first | refine blk_drewN ?_ _ | refine blk_drew ?_ | refine blk_alloc ?_ _)); exact BK119.out) Tryd.underlying23 rfl (by kernel_rfl) (.tmp .nil)))) rfl ?_
          exact ⟨by first | rfl | (simp [errW_none, errW_some] <;> rfl) | (simp [*, errW_none, errW_some] <;> rfl), by repeat (first | (with_reducible first | exact HB.out | apply below_alloc | apply pw_below_drewN | apply below_drew1 | refine below_set ?_ GE119.out) | exact HB.out)⟩

end Go.Proofs.YthladfegmedpnaaDoor.P
namespace Go.Proofs.YthladfegmedpnaaDoor.P
open Go.RowKit Go.Proofs.YthladfegmedpnaaDoorW.PrintWords Go.Proofs.YthladfegmedpnaaDoorW.PrintLast Go.Proofs.YthladfegmedpnaaDoorW.PrintMore
attribute [local go_sem] max2_int min2_int max_two min_two max_three min_three max_four min_four
set_option linter.unusedVariables false
set_option linter.unusedSimpArgs false

/-! ### signatorylaw12_sane: function 14 -/
def signatorylaw12_sane.f (k : Nat)  : Option (Bool) := (equal_Prove.f k 3 4).bind fun bt133 => ((equal_Prove.f k 0 4).bind fun bt138 => ((equal_Prove.f k 1 2).bind fun bt143 => (if bt133.2.2.2 = 0 then (if bt138.2.2.2 = 110 then (if bt143.2.2.2 = 100 then (if bt133.1 = 64 then ((equal_Check.f 64 4 bt133.1 bt133.2.1 bt133.2.2.1).bind fun t148 => (if t148 = true then ((equal_Check.f 0 1 1 bt133.2.1 bt133.2.2.1).bind fun t149 => (if t149 = true then (some false) else ((equal_Check.f 64 4 2 bt133.2.1 bt133.2.2.1).bind fun t150 => (some (!t150))))) else (some false))) else (some false)) else (some false)) else (some false)) else (some false))))
theorem signatorylaw12_sane.mono : ∀ k, LeO (signatorylaw12_sane.f k ) (signatorylaw12_sane.f (k + 1) ) := by
  intro  k
  unfold signatorylaw12_sane.f
  repeat' first
      | (with_reducible exact equal_Prove.mono _ _ _)
      | (with_reducible exact LeO.refl _)
      | (with_reducible exact LeO.none _)
      | (with_reducible refine LeO.ite ?_ ?_)
      | (with_reducible refine LeO.bind ?_ (fun _ => ?_))
      | exact equal_Prove.mono _ _ _
      | exact LeO.none _
      | refine LeO.ite ?_ ?_
      | refine LeO.bind ?_ (fun _ => ?_)
set_option maxHeartbeats 8000000 in
set_option maxRecDepth 100000 in
theorem signatorylaw12_sane.calls (k : Nat)  (r : Bool) (w : World) (h : signatorylaw12_sane.f k  = some r) (hT : r = true := by rfl) (hG : Glob w := by first | exact hG | exact Glob.below hG HB.out | exact Glob.below hG (by repeat (first | (with_reducible first | exact HB.out | apply below_alloc | apply pw_below_drewN | apply below_drew1 | refine below_set ?_ (Aside0.out (by assumption))) | exact HB.out))) :
    Calls Tryd.prog 14 #[] w fun e w' => e = .returned (.bool r) ∧ Below w.heap.size w w' := by
  have HT := Aside0.mk hT
  clear hT
  have hu23 := Tryd.underlying23
  have HB := Aside0.mk (Below.refl w.heap.size w)
  have H : ((equal_Prove.f k 3 4).bind fun bt133 => ((equal_Prove.f k 0 4).bind fun bt138 => ((equal_Prove.f k 1 2).bind fun bt143 => (if bt133.2.2.2 = 0 then (if bt138.2.2.2 = 110 then (if bt143.2.2.2 = 100 then (if bt133.1 = 64 then ((equal_Check.f 64 4 bt133.1 bt133.2.1 bt133.2.2.1).bind fun t148 => (if t148 = true then ((equal_Check.f 0 1 1 bt133.2.1 bt133.2.2.1).bind fun t149 => (if t149 = true then (some false) else ((equal_Check.f 64 4 2 bt133.2.1 bt133.2.2.1).bind fun t150 => (some (!t150))))) else (some false))) else (some false)) else (some false)) else (some false)) else (some false))))) = some r := h
  clear h
  replace H := Option.bind_eq_some_iff.mp H
  obtain ⟨⟨t133, t134, t135, t136⟩, A10, H⟩ := H
  replace H : ((equal_Prove.f k 0 4).bind fun bt138 => ((equal_Prove.f k 1 2).bind fun bt143 => (if t136 = 0 then (if bt138.2.2.2 = 110 then (if bt143.2.2.2 = 100 then (if t133 = 64 then ((equal_Check.f 64 4 t133 t134 t135).bind fun t148 => (if t148 = true then ((equal_Check.f 0 1 1 t134 t135).bind fun t149 => (if t149 = true then (some false) else ((equal_Check.f 64 4 2 t134 t135).bind fun t150 => (some (!t150))))) else (some false))) else (some false)) else (some false)) else (some false)) else (some false)))) = some r := H
  have A1 := Aside0.mk A10
  clear A10
  replace H := Option.bind_eq_some_iff.mp H
  obtain ⟨⟨t138, t139, t140, t141⟩, A20, H⟩ := H
  replace H : ((equal_Prove.f k 1 2).bind fun bt143 => (if t136 = 0 then (if t141 = 110 then (if bt143.2.2.2 = 100 then (if t133 = 64 then ((equal_Check.f 64 4 t133 t134 t135).bind fun t148 => (if t148 = true then ((equal_Check.f 0 1 1 t134 t135).bind fun t149 => (if t149 = true then (some false) else ((equal_Check.f 64 4 2 t134 t135).bind fun t150 => (some (!t150))))) else (some false))) else (some false)) else (some false)) else (some false)) else (some false))) = some r := H
  have A2 := Aside0.mk A20
  clear A20
  replace H := Option.bind_eq_some_iff.mp H
  obtain ⟨⟨t143, t144, t145, t146⟩, A30, H⟩ := H
  replace H : (if t136 = 0 then (if t141 = 110 then (if t146 = 100 then (if t133 = 64 then ((equal_Check.f 64 4 t133 t134 t135).bind fun t148 => (if t148 = true then ((equal_Check.f 0 1 1 t134 t135).bind fun t149 => (if t149 = true then (some false) else ((equal_Check.f 64 4 2 t134 t135).bind fun t150 => (some (!t150))))) else (some false))) else (some false)) else (some false)) else (some false)) else (some false)) = some r := H
  have A3 := Aside0.mk A30
  clear A30
  by_cases c4 : t136 = 0
  · rw [if_pos c4] at H
    have c4b0 : (t136 == 0) = true := beq_iff_eq.mpr c4
    have c4b1 : (t136 != 0) = false := bne_eq_false_iff_eq.mpr c4
    clear c4
    by_cases c5 : t141 = 110
    · rw [if_pos c5] at H
      have c5b0 : (t141 == 110) = true := beq_iff_eq.mpr c5
      have c5b1 : (t141 != 110) = false := bne_eq_false_iff_eq.mpr c5
      clear c5
      by_cases c6 : t146 = 100
      · rw [if_pos c6] at H
        have c6b0 : (t146 == 100) = true := beq_iff_eq.mpr c6
        have c6b1 : (t146 != 100) = false := bne_eq_false_iff_eq.mpr c6
        clear c6
        by_cases c7 : t133 = 64
        · rw [if_pos c7] at H
          have c7b0 : (t133 == 64) = true := beq_iff_eq.mpr c7
          have c7b1 : (t133 != 64) = false := bne_eq_false_iff_eq.mpr c7
          clear c7
          replace H := Option.bind_eq_some_iff.mp H
          obtain ⟨t148, A80, H⟩ := H
          replace H : (if t148 = true then ((equal_Check.f 0 1 1 t134 t135).bind fun t149 => (if t149 = true then (some false) else ((equal_Check.f 64 4 2 t134 t135).bind fun t150 => (some (!t150))))) else (some false)) = some r := H
          have A8 := Aside0.mk A80
          clear A80
          by_cases c9 : t148 = true
          · subst c9
            have H1 : ((equal_Check.f 0 1 1 t134 t135).bind fun t149 => (if t149 = true then (some false) else ((equal_Check.f 64 4 2 t134 t135).bind fun t150 => (some (!t150))))) = some r := by rw [if_pos rfl] at H; exact H
            clear H
            have H := H1
            clear H1
            replace H := Option.bind_eq_some_iff.mp H
            obtain ⟨t149, A100, H⟩ := H
            replace H : (if t149 = true then (some false) else ((equal_Check.f 64 4 2 t134 t135).bind fun t150 => (some (!t150)))) = some r := H
            have A10 := Aside0.mk A100
            clear A100
            by_cases c11 : t149 = true
            · subst c11
              have H1 : (some false) = some r := by rw [if_pos rfl] at H; exact H
              clear H
              have H := H1
              clear H1
              exact absurd (H.trans (congrArg some HT.out)) (by simp)
            · replace c11 := Bool.eq_false_iff.mpr c11
              subst c11
              have H1 : ((equal_Check.f 64 4 2 t134 t135).bind fun t150 => (some (!t150))) = some r := by rw [if_neg (show ¬ (false = true) by decide)] at H; exact H
              clear H
              have H := H1
              clear H1
              replace H := Option.bind_eq_some_iff.mp H
              obtain ⟨t150, A120, H⟩ := H
              replace H : (some (!t150)) = some r := H
              have A12 := Aside0.mk A120
              clear A120
              obtain rfl := Option.some.inj H
              go_enter Tryd.func14, Tryd.ntmps14
              go_wp2_with (first | ((with_reducible refine gate_callee (f := 15) rfl ?_); refine goesL_ (some 12) rfl rfl Tryd.func15 (by kernel_rfl) rfl #[.int .i64 3, .int .i64 4] rfl (by (try simp only [List.map_toArray, List.map_cons, List.map_nil]); first | done | rfl | (simp only [List.length_drop, List.length_take]; rfl)) ?_; (with_reducible refine (equal_Prove.calls k 3 4 t133 t134 t135 t136 _ A1.out).mono ?_); rintro e w13 ⟨rfl, hb⟩; refine ⟨_, rfl, ?_⟩; have n0_ := Aside0.mk (below_step (by repeat (first | (with_reducible first | exact HB.out | apply below_alloc | apply pw_below_drewN | apply below_drew1) | exact HB.out)) hb); clear HB; have HB := n0_; clear n0_; (try clear hb); (try clear hb2); (try clear hk); (try clear hi)) | ((with_reducible refine gate_dst (N := 2) rfl ?_); refine box_event ?hg (N := 2) ?hd (cs := #[.int .i64 0, .int .i64 0]) (t := 23) ?hr ?_; (case hd => rfl); (case hg => rfl); (case hr => first | (go_simp; done) | (go_simp; rfl)); intro gb137 hg w14 hbox hb; have n0_ := Aside0.mk (below_step (by repeat (first | (with_reducible first | exact HB.out | apply below_alloc | apply pw_below_drewN | apply below_drew1) | exact HB.out)) hb); have n1_ := Aside0.mk (hbox); have n2_ := Aside0.mk ((by rw [hg]; exact (below_size (by repeat (first | (with_reducible first | exact HB.out | apply below_alloc | apply pw_below_drewN | apply below_drew1) | exact HB.out))) : w.heap.size ≤ gb137)); have n3_ := Aside0.mk ((by rw [hg]; exact (below_size (by repeat (first | (with_reducible first | exact HB.out | apply below_alloc | apply pw_below_drewN | apply below_drew1) | exact HB.out))) : w.heap.size ≤ gb137)); clear HB; have HB := n0_; have BK137 := n1_; have GW137 := n2_; have GE137 := n3_; clear n0_ n1_ n2_ n3_; clear hb hbox hg; have hcz15_0 : w14.cell? ⟨gb137, 0, none⟩ = some (.int .i64 0) := (blk_cell BK137.out 0).trans rfl; have hcz15_1 : w14.cell? ⟨gb137, 1, none⟩ = some (.int .i64 0) := (blk_cell BK137.out 1).trans rfl; have hfz15_0 := blk_frozen BK137.out 0; have hfz15_1 := blk_frozen BK137.out 1) | ((with_reducible refine gate_callee (f := 15) rfl ?_); refine goesL_ (some 17) rfl rfl Tryd.func15 (by kernel_rfl) rfl #[.int .i64 0, .int .i64 4] rfl (by (try simp only [List.map_toArray, List.map_cons, List.map_nil]); first | done | rfl | (simp only [List.length_drop, List.length_take]; rfl)) ?_; (with_reducible refine (equal_Prove.calls k 0 4 t138 t139 t140 t141 _ A2.out).mono ?_); rintro e w16 ⟨rfl, hb⟩; refine ⟨_, rfl, ?_⟩; have n0_ := Aside0.mk (blk_below (g := gb137) (o := .cells #[.int .i64 t134, .int .i64 t135] 23 (0, 0)) (by (with_reducible repeat (first | refine blk_drewN ?_ _ | refine blk_drew ?_ | refine blk_alloc ?_ _)); refine blk_put (cs := #[.int .i64 t134, .int .i64 0]) ?_ 1 _ rfl; (with_reducible repeat (first | refine blk_drewN ?_ _ | refine blk_drew ?_ | refine blk_alloc ?_ _)); refine blk_put (cs := #[.int .i64 0, .int .i64 0]) ?_ 0 _ rfl; (with_reducible repeat (first | refine blk_drewN ?_ _ | refine blk_drew ?_ | refine blk_alloc ?_ _)); exact BK137.out) hb); have n1_ := Aside0.mk (below_step (by repeat (first | (with_reducible first | exact HB.out | apply below_alloc | apply pw_below_drewN | apply below_drew1 | refine below_set ?_ GE137.out) | exact HB.out)) hb); clear BK137; clear HB; have BK137 := n0_; have HB := n1_; clear n0_ n1_; (try clear hb); (try clear hb2); (try clear hk); (try clear hi)) | ((with_reducible refine gate_dst (N := 5) rfl ?_); refine box_event ?hg (N := 5) ?hd (cs := #[.int .i64 0, .int .i64 0]) (t := 23) ?hr ?_; (case hd => rfl); (case hg => rfl); (case hr => first | (go_simp; done) | (go_simp; rfl)); intro gb142 hg w17 hbox hb; have n0_ := Aside0.mk (blk_below (g := gb137) (o := .cells #[.int .i64 t134, .int .i64 t135] 23 (0, 0)) (by (with_reducible repeat (first | refine blk_drewN ?_ _ | refine blk_drew ?_ | refine blk_alloc ?_ _)); exact BK137.out) hb); have n1_ := Aside0.mk (below_step (by repeat (first | (with_reducible first | exact HB.out | apply below_alloc | apply pw_below_drewN | apply below_drew1 | refine below_set ?_ GE137.out) | exact HB.out)) hb); have n2_ := Aside0.mk (hbox); have n3_ := Aside0.mk ((by rw [hg]; exact (below_size (by repeat (first | (with_reducible first | exact HB.out | apply below_alloc | apply pw_below_drewN | apply below_drew1 | refine below_set ?_ GE137.out) | exact HB.out))) : w.heap.size ≤ gb142)); have n4_ := Aside0.mk ((by rw [hg]; exact (below_size (by repeat (first | (with_reducible first | exact HB.out | apply below_alloc | apply pw_below_drewN | apply below_drew1 | refine below_set ?_ GE137.out) | exact HB.out))) : w.heap.size ≤ gb142)); have n5_ := Aside0.mk ((by rw [hg]; exact Nat.ne_of_lt (blk_lt (g := gb137) (o := .cells #[.int .i64 t134, .int .i64 t135] 23 (0, 0)) (by (with_reducible repeat (first | refine blk_drewN ?_ _ | refine blk_drew ?_ | refine blk_alloc ?_ _)); exact BK137.out)) : gb137 ≠ gb142)); have n6_ := Aside0.mk ((by rw [hg]; exact Nat.ne_of_gt (blk_lt (g := gb137) (o := .cells #[.int .i64 t134, .int .i64 t135] 23 (0, 0)) (by (with_reducible repeat (first | refine blk_drewN ?_ _ | refine blk_drew ?_ | refine blk_alloc ?_ _)); exact BK137.out)) : gb142 ≠ gb137)); clear BK137; clear HB; have BK137 := n0_; have HB := n1_; have BK142 := n2_; have GW142 := n3_; have GE142 := n4_; have NB137_142 := n5_; have NB142_137 := n6_; clear n0_ n1_ n2_ n3_ n4_ n5_ n6_; clear hb hbox hg; have hnb18 := NB142_137.out; have hnc18 := NB137_142.out; have hcz19_0 : w17.cell? ⟨gb142, 0, none⟩ = some (.int .i64 0) := (blk_cell BK142.out 0).trans rfl; have hcz19_1 : w17.cell? ⟨gb142, 1, none⟩ = some (.int .i64 0) := (blk_cell BK142.out 1).trans rfl; have hfz19_0 := blk_frozen BK142.out 0; have hfz19_1 := blk_frozen BK142.out 1) | ((with_reducible refine gate_callee (f := 15) rfl ?_); refine goesL_ (some 22) rfl rfl Tryd.func15 (by kernel_rfl) rfl #[.int .i64 1, .int .i64 2] rfl (by (try simp only [List.map_toArray, List.map_cons, List.map_nil]); first | done | rfl | (simp only [List.length_drop, List.length_take]; rfl)) ?_; (with_reducible refine (equal_Prove.calls k 1 2 t143 t144 t145 t146 _ A3.out).mono ?_); rintro e w20 ⟨rfl, hb⟩; refine ⟨_, rfl, ?_⟩; have n0_ := Aside0.mk (blk_below (g := gb137) (o := .cells #[.int .i64 t134, .int .i64 t135] 23 (0, 0)) (by (with_reducible repeat (first | refine blk_drewN ?_ _ | refine blk_drew ?_ | refine blk_alloc ?_ _)); refine blk_far ?_ NB137_142.out _; (with_reducible repeat (first | refine blk_drewN ?_ _ | refine blk_drew ?_ | refine blk_alloc ?_ _)); refine blk_far ?_ NB137_142.out _; (with_reducible repeat (first | refine blk_drewN ?_ _ | refine blk_drew ?_ | refine blk_alloc ?_ _)); exact BK137.out) hb); have n1_ := Aside0.mk (blk_below (g := gb142) (o := .cells #[.int .i64 t139, .int .i64 t140] 23 (0, 0)) (by (with_reducible repeat (first | refine blk_drewN ?_ _ | refine blk_drew ?_ | refine blk_alloc ?_ _)); refine blk_put (cs := #[.int .i64 t139, .int .i64 0]) ?_ 1 _ rfl; (with_reducible repeat (first | refine blk_drewN ?_ _ | refine blk_drew ?_ | refine blk_alloc ?_ _)); refine blk_put (cs := #[.int .i64 0, .int .i64 0]) ?_ 0 _ rfl; (with_reducible repeat (first | refine blk_drewN ?_ _ | refine blk_drew ?_ | refine blk_alloc ?_ _)); exact BK142.out) hb); have n2_ := Aside0.mk (below_step (by repeat (first | (with_reducible first | exact HB.out | apply below_alloc | apply pw_below_drewN | apply below_drew1 | refine below_set ?_ GE137.out | refine below_set ?_ GE142.out) | exact HB.out)) hb); clear BK137; clear BK142; clear HB; have BK137 := n0_; have BK142 := n1_; have HB := n2_; clear n0_ n1_ n2_; (try clear hb); (try clear hb2); (try clear hk); (try clear hi)) | ((with_reducible refine gate_dst (N := 8) rfl ?_); refine box_event ?hg (N := 8) ?hd (cs := #[.int .i64 0, .int .i64 0]) (t := 23) ?hr ?_; (case hd => rfl); (case hg => rfl); (case hr => first | (go_simp; done) | (go_simp; rfl)); intro gb147 hg w21 hbox hb; have n0_ := Aside0.mk (blk_below (g := gb137) (o := .cells #[.int .i64 t134, .int .i64 t135] 23 (0, 0)) (by (with_reducible repeat (first | refine blk_drewN ?_ _ | refine blk_drew ?_ | refine blk_alloc ?_ _)); exact BK137.out) hb); have n1_ := Aside0.mk (blk_below (g := gb142) (o := .cells #[.int .i64 t139, .int .i64 t140] 23 (0, 0)) (by (with_reducible repeat (first | refine blk_drewN ?_ _ | refine blk_drew ?_ | refine blk_alloc ?_ _)); exact BK142.out) hb); have n2_ := Aside0.mk (below_step (by repeat (first | (with_reducible first | exact HB.out | apply below_alloc | apply pw_below_drewN | apply below_drew1 | refine below_set ?_ GE137.out | refine below_set ?_ GE142.out) | exact HB.out)) hb); have n3_ := Aside0.mk (hbox); have n4_ := Aside0.mk ((by rw [hg]; exact (below_size (by repeat (first | (with_reducible first | exact HB.out | apply below_alloc | apply pw_below_drewN | apply below_drew1 | refine below_set ?_ GE137.out | refine below_set ?_ GE142.out) | exact HB.out))) : w.heap.size ≤ gb147)); have n5_ := Aside0.mk ((by rw [hg]; exact (below_size (by repeat (first | (with_reducible first | exact HB.out | apply below_alloc | apply pw_below_drewN | apply below_drew1 | refine below_set ?_ GE137.out | refine below_set ?_ GE142.out) | exact HB.out))) : w.heap.size ≤ gb147)); have n6_ := Aside0.mk ((by rw [hg]; exact Nat.ne_of_lt (blk_lt (g := gb137) (o := .cells #[.int .i64 t134, .int .i64 t135] 23 (0, 0)) (by (with_reducible repeat (first | refine blk_drewN ?_ _ | refine blk_drew ?_ | refine blk_alloc ?_ _)); exact BK137.out)) : gb137 ≠ gb147)); have n7_ := Aside0.mk ((by rw [hg]; exact Nat.ne_of_gt (blk_lt (g := gb137) (o := .cells #[.int .i64 t134, .int .i64 t135] 23 (0, 0)) (by (with_reducible repeat (first | refine blk_drewN ?_ _ | refine blk_drew ?_ | refine blk_alloc ?_ _)); exact BK137.out)) : gb147 ≠ gb137)); have n8_ := Aside0.mk ((by rw [hg]; exact Nat.ne_of_lt (blk_lt (g := gb142) (o := .cells #[.int .i64 t139, .int .i64 t140] 23 (0, 0)) (by (with_reducible repeat (first | refine blk_drewN ?_ _ | refine blk_drew ?_ | refine blk_alloc ?_ _)); exact BK142.out)) : gb142 ≠ gb147)); have n9_ := Aside0.mk ((by rw [hg]; exact Nat.ne_of_gt (blk_lt (g := gb142) (o := .cells #[.int .i64 t139, .int .i64 t140] 23 (0, 0)) (by (with_reducible repeat (first | refine blk_drewN ?_ _ | refine blk_drew ?_ | refine blk_alloc ?_ _)); exact BK142.out)) : gb147 ≠ gb142)); clear BK137; clear BK142; clear HB; have BK137 := n0_; have BK142 := n1_; have HB := n2_; have BK147 := n3_; have GW147 := n4_; have GE147 := n5_; have NB137_147 := n6_; have NB147_137 := n7_; have NB142_147 := n8_; have NB147_142 := n9_; clear n0_ n1_ n2_ n3_ n4_ n5_ n6_ n7_ n8_ n9_; clear hb hbox hg; have hnb22 := NB147_137.out; have hnc22 := NB137_147.out; have hnb23 := NB147_142.out; have hnc23 := NB142_147.out; have hcz24_0 : w21.cell? ⟨gb147, 0, none⟩ = some (.int .i64 0) := (blk_cell BK147.out 0).trans rfl; have hcz24_1 : w21.cell? ⟨gb147, 1, none⟩ = some (.int .i64 0) := (blk_cell BK147.out 1).trans rfl; have hfz24_0 := blk_frozen BK147.out 0; have hfz24_1 := blk_frozen BK147.out 1; have hcz25_0 : w21.cell? ⟨gb137, 0, none⟩ = some (.int .i64 t134) := (blk_cell BK137.out 0).trans rfl; have hcz25_1 : w21.cell? ⟨gb137, 1, none⟩ = some (.int .i64 t135) := (blk_cell BK137.out 1).trans rfl; have hfz25_0 := blk_frozen BK137.out 0; have hfz25_1 := blk_frozen BK137.out 1) | (go_at_call 17; (with_reducible refine (equal_Check.calls 64 4 t133 t134 t135 true _ A8.out).mono ?_); rintro e w26 ⟨rfl, hb⟩; have n0_ := Aside0.mk (blk_below (g := gb137) (o := .cells #[.int .i64 t134, .int .i64 t135] 23 (0, 0)) (by (with_reducible repeat (first | refine blk_drewN ?_ _ | refine blk_drew ?_ | refine blk_alloc ?_ _)); refine blk_far ?_ NB137_147.out _; (with_reducible repeat (first | refine blk_drewN ?_ _ | refine blk_drew ?_ | refine blk_alloc ?_ _)); refine blk_far ?_ NB137_147.out _; (with_reducible repeat (first | refine blk_drewN ?_ _ | refine blk_drew ?_ | refine blk_alloc ?_ _)); exact BK137.out) hb); have n1_ := Aside0.mk (blk_below (g := gb142) (o := .cells #[.int .i64 t139, .int .i64 t140] 23 (0, 0)) (by (with_reducible repeat (first | refine blk_drewN ?_ _ | refine blk_drew ?_ | refine blk_alloc ?_ _)); refine blk_far ?_ NB142_147.out _; (with_reducible repeat (first | refine blk_drewN ?_ _ | refine blk_drew ?_ | refine blk_alloc ?_ _)); refine blk_far ?_ NB142_147.out _; (with_reducible repeat (first | refine blk_drewN ?_ _ | refine blk_drew ?_ | refine blk_alloc ?_ _)); exact BK142.out) hb); have n2_ := Aside0.mk (blk_below (g := gb147) (o := .cells #[.int .i64 t144, .int .i64 t145] 23 (0, 0)) (by (with_reducible repeat (first | refine blk_drewN ?_ _ | refine blk_drew ?_ | refine blk_alloc ?_ _)); refine blk_put (cs := #[.int .i64 t144, .int .i64 0]) ?_ 1 _ rfl; (with_reducible repeat (first | refine blk_drewN ?_ _ | refine blk_drew ?_ | refine blk_alloc ?_ _)); refine blk_put (cs := #[.int .i64 0, .int .i64 0]) ?_ 0 _ rfl; (with_reducible repeat (first | refine blk_drewN ?_ _ | refine blk_drew ?_ | refine blk_alloc ?_ _)); exact BK147.out) hb); have n3_ := Aside0.mk (below_step (by repeat (first | (with_reducible first | exact HB.out | apply below_alloc | apply pw_below_drewN | apply below_drew1 | refine below_set ?_ GE137.out | refine below_set ?_ GE142.out | refine below_set ?_ GE147.out) | exact HB.out)) hb); clear BK137; clear BK142; clear BK147; clear HB; have BK137 := n0_; have BK142 := n1_; have BK147 := n2_; have HB := n3_; clear n0_ n1_ n2_ n3_; (try clear hb); (try clear hb2); (try clear hk); (try clear hi); have hcz27_0 : w26.cell? ⟨gb137, 0, none⟩ = some (.int .i64 t134) := (blk_cell BK137.out 0).trans rfl; have hcz27_1 : w26.cell? ⟨gb137, 1, none⟩ = some (.int .i64 t135) := (blk_cell BK137.out 1).trans rfl; have hfz27_0 := blk_frozen BK137.out 0; have hfz27_1 := blk_frozen BK137.out 1) | (go_at_call 17; (with_reducible refine (equal_Check.calls 0 1 1 t134 t135 false _ A10.out).mono ?_); rintro e w28 ⟨rfl, hb⟩; have n0_ := Aside0.mk (blk_below (g := gb137) (o := .cells #[.int .i64 t134, .int .i64 t135] 23 (0, 0)) (by (with_reducible repeat (first | refine blk_drewN ?_ _ | refine blk_drew ?_ | refine blk_alloc ?_ _)); exact BK137.out) hb); have n1_ := Aside0.mk (blk_below (g := gb142) (o := .cells #[.int .i64 t139, .int .i64 t140] 23 (0, 0)) (by (with_reducible repeat (first | refine blk_drewN ?_ _ | refine blk_drew ?_ | refine blk_alloc ?_ _)); exact BK142.out) hb); have n2_ := Aside0.mk (blk_below (g := gb147) (o := .cells #[.int .i64 t144, .int .i64 t145] 23 (0, 0)) (by (with_reducible repeat (first | refine blk_drewN ?_ _ | refine blk_drew ?_ | refine blk_alloc ?_ _)); exact BK147.out) hb); have n3_ := Aside0.mk (below_step (by repeat (first | (with_reducible first | exact HB.out | apply below_alloc | apply pw_below_drewN | apply below_drew1 | refine below_set ?_ GE137.out | refine below_set ?_ GE142.out | refine below_set ?_ GE147.out) | exact HB.out)) hb); clear BK137; clear BK142; clear BK147; clear HB; have BK137 := n0_; have BK142 := n1_; have BK147 := n2_; have HB := n3_; clear n0_ n1_ n2_ n3_; (try clear hb); (try clear hb2); (try clear hk); (try clear hi); have hcz29_0 : w28.cell? ⟨gb137, 0, none⟩ = some (.int .i64 t134) := (blk_cell BK137.out 0).trans rfl; have hcz29_1 : w28.cell? ⟨gb137, 1, none⟩ = some (.int .i64 t135) := (blk_cell BK137.out 1).trans rfl; have hfz29_0 := blk_frozen BK137.out 0; have hfz29_1 := blk_frozen BK137.out 1) | (go_at_call 17; (with_reducible refine (equal_Check.calls 64 4 2 t134 t135 t150 _ A12.out).mono ?_); rintro e w30 ⟨rfl, hb⟩; have n0_ := Aside0.mk (blk_below (g := gb137) (o := .cells #[.int .i64 t134, .int .i64 t135] 23 (0, 0)) (by (with_reducible repeat (first | refine blk_drewN ?_ _ | refine blk_drew ?_ | refine blk_alloc ?_ _)); exact BK137.out) hb); have n1_ := Aside0.mk (blk_below (g := gb142) (o := .cells #[.int .i64 t139, .int .i64 t140] 23 (0, 0)) (by (with_reducible repeat (first | refine blk_drewN ?_ _ | refine blk_drew ?_ | refine blk_alloc ?_ _)); exact BK142.out) hb); have n2_ := Aside0.mk (blk_below (g := gb147) (o := .cells #[.int .i64 t144, .int .i64 t145] 23 (0, 0)) (by (with_reducible repeat (first | refine blk_drewN ?_ _ | refine blk_drew ?_ | refine blk_alloc ?_ _)); exact BK147.out) hb); have n3_ := Aside0.mk (below_step (by repeat (first | (with_reducible first | exact HB.out | apply below_alloc | apply pw_below_drewN | apply below_drew1 | refine below_set ?_ GE137.out | refine below_set ?_ GE142.out | refine below_set ?_ GE147.out) | exact HB.out)) hb); clear BK137; clear BK142; clear BK147; clear HB; have BK137 := n0_; have BK142 := n1_; have BK147 := n2_; have HB := n3_; clear n0_ n1_ n2_ n3_; (try clear hb); (try clear hb2); (try clear hk); (try clear hi)))
              go_ret
              exact ⟨by first | rfl | (simp [errW_none, errW_some] <;> rfl) | (simp [*, errW_none, errW_some] <;> rfl), by repeat (first | (with_reducible first | exact HB.out | apply below_alloc | apply pw_below_drewN | apply below_drew1 | refine below_set ?_ GE137.out | refine below_set ?_ GE142.out | refine below_set ?_ GE147.out) | exact HB.out)⟩
          · replace c9 := Bool.eq_false_iff.mpr c9
            subst c9
            have H1 : (some false) = some r := by rw [if_neg (show ¬ (false = true) by decide)] at H; exact H
            clear H
            have H := H1
            clear H1
            exact absurd (H.trans (congrArg some HT.out)) (by simp)
        · rw [if_neg c7] at H
          have c7b0 : (t133 == 64) = false := beq_eq_false_iff_ne.mpr c7
          have c7b1 : (t133 != 64) = true := bne_iff_ne.mpr c7
          exact absurd (H.trans (congrArg some HT.out)) (by simp)
      · rw [if_neg c6] at H
        have c6b0 : (t146 == 100) = false := beq_eq_false_iff_ne.mpr c6
        have c6b1 : (t146 != 100) = true := bne_iff_ne.mpr c6
        exact absurd (H.trans (congrArg some HT.out)) (by simp)
    · rw [if_neg c5] at H
      have c5b0 : (t141 == 110) = false := beq_eq_false_iff_ne.mpr c5
      have c5b1 : (t141 != 110) = true := bne_iff_ne.mpr c5
      exact absurd (H.trans (congrArg some HT.out)) (by simp)
  · rw [if_neg c4] at H
    have c4b0 : (t136 == 0) = false := beq_eq_false_iff_ne.mpr c4
    have c4b1 : (t136 != 0) = true := bne_iff_ne.mpr c4
    exact absurd (H.trans (congrArg some HT.out)) (by simp)

end Go.Proofs.YthladfegmedpnaaDoor.P

/- Plain laws of the stage 'equal': what Prove and Check come to. -/
namespace Go.Proofs.YthladfegmedpnaaDoor.P
open Go.RowKit Go.Proofs.YthladfegmedpnaaDoorW.PrintWords Go.Proofs.YthladfegmedpnaaDoorW.PrintLast Go.Proofs.YthladfegmedpnaaDoorW.PrintMore Go.Proofs.YthladfegmedpnaaDoor
set_option linter.unusedVariables false
set_option linter.unusedSimpArgs false

def tagNonce : ByteArray := ⟨#[101, 113, 117, 97, 108, 32, 110, 111, 110, 99, 101]⟩
/-- the nonce. -/
def nonce (s a : Int) : Int := if hsh tagNonce (encInts [s, a]) = 0 then 1 else hsh tagNonce (encInts [s, a])
def prvE (s a : Int) : Int := chal (pwz 4 s) a (pwz a s) (pwz 4 (nonce s a)) (pwz a (nonce s a))
/-- what equal.Prove answers. -/
def prv (s a : Int) : Int × Int × Int × Int :=
  if isSecret s = true then (if vld a = true then (pwz a s, prvE s a, (nonce s a + prvE s a * s) % 1073741789, 0) else (0, 0, 0, 100)) else (0, 0, 0, 110)

theorem nonce_lt (s a : Int) : 1 ≤ nonce s a ∧ nonce s a < 1073741789 := by
  have := hsh_lt tagNonce (encInts [s, a])
  unfold nonce
  split <;> omega
theorem nonce_mx (s a : Int) : mx 1 (hsh tagNonce (encInts [s, a])) = nonce s a := by
  have := hsh_lt tagNonce (encInts [s, a])
  unfold nonce mx
  generalize hsh tagNonce (encInts [s, a]) = n at *
  by_cases h : n = 0
  · rw [if_pos h, if_neg (by omega)]
  · rw [if_neg h]; split <;> omega
theorem chal_lt (a b c d e : Int) : 0 ≤ chal a b c d e ∧ chal a b c d e < 1073741789 := hsh_lt _ _
theorem prvE_lt (s a : Int) : 0 ≤ prvE s a ∧ prvE s a < 1073741789 := chal_lt _ _ _ _ _
theorem secret_lt {s : Int} (h : isSecret s = true) : 1 ≤ s ∧ s < 1073741789 := by
  unfold isSecret at h
  simpa using h
theorem secret_i64 {s : Int} (h : isSecret s = true) : i64 s := by have := secret_lt h; exact ⟨by omega, by omega⟩

theorem mul_lt_Q {a b : Int} (ha : 0 ≤ a) (ha2 : a < 1073741789) (hb : 0 ≤ b) (hb2 : b < 1073741789) : 0 ≤ a * b ∧ a * b ≤ 1152921429450784944 := by
  refine ⟨Int.mul_nonneg ha hb, ?_⟩
  have h := Int.mul_le_mul (show a ≤ 1073741788 by omega) (show b ≤ 1073741788 by omega) hb (by omega)
  omega

/-- S, as Go reckons it. -/
theorem s_go {k e s : Int} (hk : 0 ≤ k ∧ k < 1073741789) (he : 0 ≤ e ∧ e < 1073741789) (hs : 0 ≤ s ∧ s < 1073741789) :
    Int.tmod (wrap64 (k + wrap64 (e * s))) 1073741789 = (k + e * s) % 1073741789 := by
  have h := mul_lt_Q he.1 he.2 hs.1 hs.2
  generalize e * s = m at h
  have e1 : wrap64 m = m := by unfold wrap64; omega
  have e2 : wrap64 (k + m) = k + m := by unfold wrap64; omega
  rw [e1, e2, Int.tmod_eq_emod_of_nonneg (by omega)]
theorem s_ref {k e s : Int} (hk : 0 ≤ k ∧ k < 1073741789) (he : 0 ≤ e ∧ e < 1073741789) (hs : 0 ≤ s ∧ s < 1073741789) :
    Int.tmod (wrap64 (k + Int.tmod (wrap64 (e * s)) 1073741789)) 1073741789 = (k + e * s) % 1073741789 := by
  have h := mul_lt_Q he.1 he.2 hs.1 hs.2
  generalize e * s = m at h
  have e1 : wrap64 m = m := by unfold wrap64; omega
  rw [e1, Int.tmod_eq_emod_of_nonneg (a := m) h.1]
  have e2 : wrap64 (k + m % 1073741789) = k + m % 1073741789 := by unfold wrap64; omega
  rw [e2, Int.tmod_eq_emod_of_nonneg (by omega)]
  omega

theorem equal_Prove_j0_no (k : Nat) (hk : 1 ≤ k) (s a x y : Int) : equal_Prove.j0 k s a true x y = some (0, x, y, 110) := by
  obtain ⟨k, rfl⟩ : ∃ j, k = j + 1 := ⟨k - 1, by omega⟩
  rw [equal_Prove.j0, if_pos rfl]

theorem equal_Prove_f (k : Nat) (hk : 20 ≤ k) (s a : Int) (ha : i64 a) : equal_Prove.f k s a = some (prv s a) := by
  unfold equal_Prove.f prv
  by_cases h1 : s < 1
  · rw [if_pos h1, equal_Prove_j0_no k (by omega), if_neg (fun e => by have := secret_lt e; omega)]
  · rw [if_neg h1]
    by_cases h2 : s ≥ 1073741789
    · rw [decide_eq_true h2, equal_Prove_j0_no k (by omega), if_neg (fun e => by have := secret_lt e; omega)]
    · have hs : isSecret s = true := by unfold isSecret; simp; omega
      have hsi := secret_i64 hs
      have hsl := secret_lt hs
      rw [decide_eq_false h2, if_pos hs]
      obtain ⟨k, rfl⟩ : ∃ j, k = j + 1 := ⟨k - 1, by omega⟩
      rw [equal_Prove.j0, if_neg (by decide)]
      unfold group_Pow.f
      rw [if_pos hsi]
      by_cases hv : vld a = true
      · rw [if_pos hv, if_pos hv, Option.bind_some]
        simp only
        rw [if_pos trivial, equal_pow_f 4 s hsi, if_pos vld_four, Option.bind_some, equal_text_f k [s, a] (by simp) (two hsi ha) (by simp; omega), Option.bind_some]
        rw [show (⟨#[101, 113, 117, 97, 108, 32, 110, 111, 110, 99, 101]⟩ : ByteArray) = tagNonce from rfl, hash_f tagNonce [s, a] (by decide) (by simp), Option.bind_some, nonce_mx]
        have hn := nonce_lt s a
        have hni : i64 (nonce s a) := ⟨by omega, by omega⟩
        rw [equal_pow_f 4 _ hni, if_pos vld_four, Option.bind_some, equal_pow_f a _ hni, if_pos hv, Option.bind_some]
        rw [equal_challenge_f k (by omega) _ _ _ _ _ (i64_vld (vld_pw vld_four _)) ha (i64_vld (vld_pw hv _)) (i64_vld (vld_pw vld_four _)) (i64_vld (vld_pw hv _)), Option.bind_some]
        rw [show chal (pwz 4 s) a (pwz a s) (pwz 4 (nonce s a)) (pwz a (nonce s a)) = prvE s a from rfl]
        rw [s_go ⟨by omega, by omega⟩ (prvE_lt s a) ⟨by omega, by omega⟩]
      · rw [if_neg hv, if_neg hv, Option.bind_some]
        simp only
        rw [if_neg (by decide)]

/-- Is a statement of elements, and a proof of numbers of the field? -/
def frm (key a d e s : Int) : Bool := vld key && vld a && vld d && inQ e && inQ s
theorem frm_iff {key a d e s : Int} : frm key a d e s = true ↔ vld key = true ∧ vld a = true ∧ vld d = true ∧ inQ e = true ∧ inQ s = true := by
  unfold frm; simp only [Bool.and_eq_true]
  constructor
  · rintro ⟨⟨⟨⟨h1, h2⟩, h3⟩, h4⟩, h5⟩; exact ⟨h1, h2, h3, h4, h5⟩
  · rintro ⟨h1, h2, h3, h4, h5⟩; exact ⟨⟨⟨⟨h1, h2⟩, h3⟩, h4⟩, h5⟩
theorem inQ_iff {e : Int} : inQ e = true ↔ 0 ≤ e ∧ e < 1073741789 := by unfold inQ; simp
theorem inQ_if (e : Int) (b : Option Bool) (hb : b = some false) (c : Option Bool) : (if e ≥ 0 then (if e < 1073741789 then c else b) else b) = if inQ e = true then c else some false := by
  subst hb
  by_cases h1 : e ≥ 0
  · rw [if_pos h1]
    by_cases h2 : e < 1073741789
    · rw [if_pos h2, if_pos (inQ_iff.2 ⟨h1, h2⟩)]
    · rw [if_neg h2, if_neg (fun h => h2 (inQ_iff.1 h).2)]
  · rw [if_neg h1, if_neg (fun h => h1 (inQ_iff.1 h).1)]
theorem inQ_some (e : Int) : (if e ≥ 0 then (some (decide (e < 1073741789))) else (some false)) = some (inQ e) := by
  unfold inQ
  by_cases h1 : e ≥ 0
  · rw [if_pos h1, decide_eq_true (show 0 ≤ e from h1), Bool.true_and]
  · rw [if_neg h1, decide_eq_false (show ¬ 0 ≤ e from h1), Bool.false_and]
theorem ref12_Formed_f (k : Nat) (hk : 40 ≤ k) (key a d e s : Int) : signatoryref12_Formed.f k key a d e s = some (frm key a d e s) := by
  unfold signatoryref12_Formed.f frm
  rw [ref10_Valid_f k hk, Option.bind_some, ref10_Valid_f k hk, Option.bind_some, ref10_Valid_f k hk, Option.bind_some, inQ_some s, inQ_if e _ rfl]
  cases vld key <;> cases vld a <;> cases vld d <;> cases inQ e <;> simp

/-- what is committed to. -/
def comR (key e s : Int) : Int := mulz (pwz 4 s) (pwz key (-e))
def comS (a d e s : Int) : Int := mulz (pwz a s) (pwz d (-e))
theorem ref12_Commits_f (k : Nat) (hk : 40 ≤ k) {key a d e s : Int} (h : frm key a d e s = true) : signatoryref12_Commits.f k key a d e s = some (comR key e s, comS a d e s) := by
  obtain ⟨h1, h2, h3, h4, h5⟩ := frm_iff.1 h
  have h4' := inQ_iff.1 h4
  have hw : wrap64 (-e) = -e := by unfold wrap64; omega
  unfold signatoryref12_Commits.f
  rw [hw, ref10_Pow_f k hk, if_pos vld_four, Option.bind_some, ref10_Pow_f k hk, if_pos h1, Option.bind_some, ref10_Pow_f k hk, if_pos h2, Option.bind_some, ref10_Pow_f k hk, if_pos h3, Option.bind_some]
  simp only
  rw [ref10_Mul_f k hk, if_pos ⟨vld_pw vld_four _, vld_pw h1 _⟩, Option.bind_some, ref10_Mul_f k hk, if_pos ⟨vld_pw h2 _, vld_pw h3 _⟩, Option.bind_some]
  rfl
theorem com_i64 {key a d e s : Int} (h : frm key a d e s = true) : i64 (comR key e s) ∧ i64 (comS a d e s) := by
  obtain ⟨h1, h2, h3, h4, h5⟩ := frm_iff.1 h
  exact ⟨i64_vld (vld_mul (vld_pw vld_four _) (vld_pw h1 _)), i64_vld (vld_mul (vld_pw h2 _) (vld_pw h3 _))⟩
theorem chk_frm (key a d e s : Int) : chk key a d e s = (frm key a d e s && (e == chal key a d (comR key e s) (comS a d e s))) := by
  unfold chk frm comR comS
  simp only [Bool.and_assoc]
/-- What Prove returns is right. -/
theorem com_prv {s a : Int} (n E S x : Int) (hx : vld x = true) (hS : S % 1073741789 = (n + E * s) % 1073741789) : mulz (pwz x S) (pwz (pwz x s) (-E)) = pwz x n := by
  rw [← pwz_mul hx, ← pwz_add hx]
  refine pwz_congr x ?_
  have e1 : S + s * -E = S - E * s := by rw [Int.mul_neg, Int.mul_comm s E]; omega
  rw [e1]
  generalize E * s = m at *
  omega
theorem prv_chk {s a : Int} (hs : isSecret s = true) (hv : vld a = true) : chk (pwz 4 s) a (pwz a s) (prvE s a) ((nonce s a + prvE s a * s) % 1073741789) = true := by
  have hE := prvE_lt s a
  rw [chk_frm, frm_iff.2 ⟨vld_pw vld_four s, hv, vld_pw hv s, inQ_iff.2 hE, inQ_iff.2 (by omega)⟩, Bool.true_and]
  unfold comR comS
  rw [com_prv (s := s) (a := a) (nonce s a) (prvE s a) _ 4 vld_four (Int.emod_emod _ _), com_prv (s := s) (a := a) (nonce s a) (prvE s a) _ a hv (Int.emod_emod _ _)]
  exact beq_self_eq_true _

theorem chk_no {key a d e s : Int} (h : vld key = false ∨ vld a = false ∨ vld d = false) : chk key a d e s = false := by
  unfold chk
  rcases h with h | h | h <;> rw [h] <;> simp

theorem prv_secret {s a : Int} (hs : isSecret s = true) (hv : vld a = true) : prv s a = (pwz a s, prvE s a, (nonce s a + prvE s a * s) % 1073741789, 0) := by
  unfold prv; rw [if_pos hs, if_pos hv]

theorem prv_zero : prv 0 4 = (0, 0, 0, 110) := by unfold prv; rw [if_neg (by decide)]
theorem prv_two : prv 1 2 = (0, 0, 0, 100) := by
  have h : isSecret 1 = true := by decide
  unfold prv
  rw [if_pos h, vld_two, if_neg Bool.false_ne_true]
theorem power12_f (k : Nat) (hk : 40 ≤ k) (a n : Int) (hv : vld a = true) (hn : i64 n) : signatorylaw12_power.f k a n = some (pwz a n, true) := by
  unfold signatorylaw12_power.f group_Pow.f
  rw [if_pos hn, if_pos hv, Option.bind_some]
  simp only
  rw [if_pos trivial, ref10_Valid_f k hk, Option.bind_some, vld_pw hv]
theorem power12_no (k : Nat) (a n : Int) (hv : vld a = false) (hn : i64 n) : signatorylaw12_power.f k a n = some (0, false) := by
  unfold signatorylaw12_power.f group_Pow.f
  rw [if_pos hn, if_neg (by rw [hv]; decide), Option.bind_some]
  simp only
  rw [if_neg (by decide)]

theorem mod_mul_Q (x j : Int) : x * j % 1073741789 = (x % 1073741789) * j % 1073741789 := by
  rw [Int.mul_emod, Int.mul_emod (x % 1073741789) j, Int.emod_emod]

theorem sane12_end (k : Nat) {E S : Int} (q1 : equal_Prove.f k 3 4 = some (64, E, S, 0)) (q2 : equal_Prove.f k 0 4 = some (0, 0, 0, 110)) (q3 : equal_Prove.f k 1 2 = some (0, 0, 0, 100))
    (hc : equal_Check.f 64 4 64 E S = some true) (c0 : equal_Check.f 0 1 1 E S = some false) (c1 : equal_Check.f 64 4 2 E S = some false) : signatorylaw12_sane.f k = some true := by
  unfold signatorylaw12_sane.f
  rw [q1, q2, q3]
  clear q1 q2 q3
  generalize equal_Check.f = C at hc c0 c1 ⊢
  rw [Option.bind_some, Option.bind_some, Option.bind_some]
  rw [if_pos rfl, if_pos rfl, if_pos rfl, if_pos rfl]
  rw [hc, Option.bind_some, if_pos rfl, c0, Option.bind_some, if_neg Bool.false_ne_true, c1, Option.bind_some]
  rfl

theorem sane12 (k : Nat) (hk : 20 ≤ k) : signatorylaw12_sane.f k = some true := by
  have h4 : i64 4 := ⟨by decide, by decide⟩
  have h2 : i64 2 := ⟨by decide, by decide⟩
  have h3 : isSecret 3 = true := by decide
  have hc := prv_chk h3 vld_four
  have hp := prv_secret h3 vld_four
  rw [pwz_four_three] at hc hp
  have q1 := equal_Prove_f k hk 3 4 h4
  rw [hp] at q1
  have q2 := equal_Prove_f k hk 0 4 h4
  rw [prv_zero] at q2
  have q3 := equal_Prove_f k hk 1 2 h2
  rw [prv_two] at q3
  clear hp
  generalize prvE 3 4 = E at hc q1
  generalize (nonce 3 4 + E * 3) % 1073741789 = S at hc q1
  have c0 : chk 0 1 1 E S = false := chk_no (.inl vld_zero)
  have c1 : chk 64 4 2 E S = false := chk_no (.inr (.inr vld_two))
  clear h4 h2 h3
  exact sane12_end k q1 q2 q3 (by unfold equal_Check.f; rw [hc]) (by unfold equal_Check.f; rw [c0]) (by unfold equal_Check.f; rw [c1])

end Go.Proofs.YthladfegmedpnaaDoor.P
