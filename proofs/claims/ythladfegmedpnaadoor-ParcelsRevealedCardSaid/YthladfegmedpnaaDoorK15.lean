import Derived.Test.YthladfegmedpnaaDoorK10
import Derived.Test.YthladfegmedpnaaDoorK3
import Derived.Test.YthladfegmedpnaaDoorK1
import Derived.Test.YthladfegmedpnaaDoorK4
import Derived.RangeFuncBox
import Derived.TacticsIn
import Derived.BigFrameIn
import Derived.LoopIn
set_option linter.unusedVariables false
set_option linter.unusedSimpArgs false

namespace Go.Proofs.YthladfegmedpnaaDoor.P
open Go.RowKit Go.Shelf Go.Proofs.YthladfegmedpnaaDoorW.PrintWords Go.Proofs.YthladfegmedpnaaDoorW.PrintLast Go.Proofs.YthladfegmedpnaaDoorW.PrintMore Go.Proofs.YthladfegmedpnaaDoor Go.Proofs.YthladfegmedpnaaDoor.Rg
set_option linter.unusedVariables false

attribute [local go_sem] Oper.semAt_some

theorem boxed_cell {W : World} {B : Nat} {t : TypeId} {v : Value} (h : Boxed W B t v) : W.cell? ⟨B, 0, none⟩ = some v := by simp [World.cell?, show W.heap[B]? = _ from h]
theorem boxed_frozen {W : World} {B : Nat} {t : TypeId} {v : Value} (h : Boxed W B t v) : W.frozen? ⟨B, 0, none⟩ = false := by simp [World.frozen?, show W.heap[B]? = _ from h]
theorem boxed_set {W : World} {B : Nat} {t : TypeId} {v : Value} (u : Value) (h : Boxed W B t v) : Boxed (W.setCell ⟨B, 0, none⟩ u) B t u := by
  have : W.heap[B]? = _ := h
  show (W.heap.modify B _)[B]? = _
  rw [Array.getElem?_modify, if_pos rfl, this]
  rfl
theorem boxed_far {W : World} {B : Nat} {t : TypeId} {v : Value} {a : Addr} (u : Value) (h : Boxed W B t v) (ne : B ≠ a.block) : Boxed (W.setCell a u) B t v := (Below.heap_setCell _ _ _ _ ne).trans h

def meas (b : Nat) (w : World) : Nat := match w.cell? ⟨b, 0, none⟩ with | some (.int _ q) => q.toNat | _ => 0
theorem meas_boxed {W : World} {B : Nat} {t : TypeId} {k : IntKind} {q : Int} (h : Boxed W B t (.int k q)) : meas B W = q.toNat := by unfold meas; rw [boxed_cell h]

theorem i64_and1 (m : Nat) (h : m < 1073741789) : bits .and .i64 (m : Int) 1 = ((m % 2 : Nat) : Int) := by
  have := bits_mask .i64 62 (by decide) (fun n h0 h1 => by rw [IntKind.wrap_i64]; omega) 1 (by decide) (m : Int) (by omega) (by omega)
  rw [Int.natCast_emod]
  exact this
theorem and1_beq (m : Nat) (h : m < 1073741789) : (bits .and .i64 (m : Int) 1 == 1) = (m % 2 == 1) := by
  rw [i64_and1 m h, Bool.eq_iff_iff, beq_iff_eq, beq_iff_eq]; omega

abbrev encSq (x : Nat × Bool) : Array Value := #[.int .i64 x.1, .bool x.2]

set_option maxHeartbeats 4000000 in
set_option maxRecDepth 100000 in
/-- the iterator: it yields the squares, with the bits. -/
theorem squares_all (bn ba a n k : Nat) (hne : bn ≠ ba) (hn : n < 2 ^ k) (hk : n < 1073741789) (ha : a < Nt.P) (w0 : World) (hbn : Boxed w0 bn 3 (.int .i64 n)) (hba : Boxed w0 ba 3 (.int .i64 a)) :
    SeqAll Tryd.prog 88 #[.pointer (some ⟨bn, 0, none⟩), .pointer (some ⟨ba, 0, none⟩)] encSq (fun b => b = bn ∨ b = ba) (fun b => b = bn ∨ b = ba) (Nt.sqs k a n) w0 := by
  intro l J W hW hsz hJ hY h0
  have HX : Aside0 ((∀ s A B, J s A → Kin (fun b => b = bn ∨ b = ba) A B → J s B) ∧ (∀ pre x rest A, Nt.sqs k a n = pre ++ x :: rest → J pre A → YieldAt Fence.wide 0 Tryd.prog l (encSq x) A fun e B => e = .returned (.bool true) ∧ J (pre ++ [x]) B ∧ Kout (fun b => b = bn ∨ b = ba) A B)) := ⟨hJ, hY⟩
  clear hJ hY
  have HN : Aside0 (Boxed W bn 3 (.int .i64 n) ∧ Boxed W ba 3 (.int .i64 a)) := ⟨(hW bn (.inl rfl)).trans hbn, (hW ba (.inr rfl)).trans hba⟩
  clear hW hbn hba
  have H0 := Aside0.mk h0
  have HA : Aside0 (n < 2 ^ k ∧ a < Nt.P ∧ bn ≠ ba) := ⟨hn, ha, hne⟩
  clear h0 hn ha hne hsz
  refine callsIn_of_wp Tryd.func88 rfl trivial ?_ rfl
  simp only [Tryd.ntmps88, List.size_toArray, List.length_cons, List.length_nil, Nat.reduceAdd, Nat.reduceSub, Array.replicate_succ, Array.replicate_zero, List.push_toArray, List.append_toArray, List.nil_append, List.cons_append]
  gi_wp2
  gi_loopw [] (fun wr => ∃ (pre : List (Nat × Bool)) (j b m : Nat), Aside0 (Nt.sqs k a n = pre ++ Nt.sqs j b m ∧ m < 2 ^ j ∧ b < Nt.P) ∧ m < 1073741789 ∧ Aside0 (Boxed wr bn 3 (.int .i64 m) ∧ Boxed wr ba 3 (.int .i64 b)) ∧ Aside0 (J pre wr))
    (fun wr => meas bn wr)
  case atStart => exact ⟨[], k, a, n, ⟨rfl, HA.out.1, HA.out.2.1⟩, hk, HN, H0⟩
  case round =>
    obtain ⟨pre, j, b, m, HS, hm, HB, HJ⟩ := hrel
    have cn := boxed_cell HB.out.1
    have ca := boxed_cell HB.out.2
    have fn_ := boxed_frozen HB.out.1
    have fa := boxed_frozen HB.out.2
    by_cases h0 : m = 0
    · have h0' : ¬ (0 : Int) < (m : Int) := by omega
      have HE : Aside0 (Nt.sqs k a n = pre) := ⟨by
        rw [HS.out.1, h0]
        cases j <;> simp [Nt.sqs]⟩
      clear h0
      gi_wp2
      go_end0
      exact ⟨⟨_, rfl⟩, by rw [HE.out]; exact HJ.out⟩
    · have h0' : (0 : Int) < (m : Int) := by omega
      obtain ⟨i, rfl⟩ : ∃ i, j = i + 1 := ⟨j - 1, by
        have : j ≠ 0 := by rintro rfl; have := HS.out.2.1; simp at this; omega
        omega⟩
      have HS2 : Aside0 (Nt.sqs k a n = pre ++ (b, m % 2 == 1) :: Nt.sqs i (b * b % Nt.P) (m / 2) ∧ m / 2 < 2 ^ i ∧ b * b % Nt.P < Nt.P) := ⟨by
        refine ⟨?_, ?_, Nat.mod_lt _ Nt.P_pos⟩
        · rw [HS.out.1]; simp only [Nt.sqs]; rw [if_neg h0]
        · have := HS.out.2.1; rw [Nat.pow_succ] at this; omega⟩
      obtain ⟨gfn, tmps, assign, body, hy, hR⟩ := HX.out.2 pre (b, m % 2 == 1) _ wr HS2.out.1 HJ.out
      have HR := Aside0.mk hR
      have he := and1_beq m hm
      dsimp only [encSq] at hy
      rw [← he] at hy
      have hb : b < 2147483579 := HS.out.2.2
      have hq1 : 0 ≤ (b : Int) * (b : Int) := by rw [← Int.natCast_mul]; omega
      have hq2 : (b : Int) * (b : Int) ≤ 4611686018427387904 := by
        have h1 : b * b ≤ 2147483579 * 2147483579 := Nat.mul_le_mul (by omega) (by omega)
        rw [← Int.natCast_mul]; omega
      clear h0 hR he
      gi_wp2
      refine ⟨rfl, HR.out.mono ?_⟩
      rintro e W3 ⟨rfl, hJ3, hk3⟩
      have HB3 : Aside0 (Boxed W3 bn 3 (.int .i64 m) ∧ Boxed W3 ba 3 (.int .i64 b)) := ⟨(hk3.block bn (.inl rfl)).trans HB.out.1, (hk3.block ba (.inr rfl)).trans HB.out.2⟩
      have HJ3 := Aside0.mk hJ3
      clear hJ3 hk3 hy cn ca fn_ fa
      have cn := boxed_cell HB3.out.1
      have ca := boxed_cell HB3.out.2
      have fn_ := boxed_frozen HB3.out.1
      have fa := boxed_frozen HB3.out.2
      have cn2 : ∀ v, (W3.setCell ⟨ba, 0, none⟩ v).cell? ⟨bn, 0, none⟩ = some (.int .i64 m) := fun v => boxed_cell (boxed_far (a := ⟨ba, 0, none⟩) v HB3.out.1 HA.out.2.2)
      have cf2 : ∀ v, (W3.setCell ⟨ba, 0, none⟩ v).frozen? ⟨bn, 0, none⟩ = false := fun v => boxed_frozen (boxed_far (a := ⟨ba, 0, none⟩) v HB3.out.1 HA.out.2.2)
      gi_wp2
      have HF : Aside0 (Boxed ((W3.setCell ⟨ba, 0, none⟩ (.int .i64 ((b : Int) * b % 2147483579))).setCell ⟨bn, 0, none⟩ (.int .i64 ((m : Int) / 2))) bn 3 (.int .i64 ((m / 2 : Nat) : Int)) ∧
          Boxed ((W3.setCell ⟨ba, 0, none⟩ (.int .i64 ((b : Int) * b % 2147483579))).setCell ⟨bn, 0, none⟩ (.int .i64 ((m : Int) / 2))) ba 3 (.int .i64 ((b * b % Nt.P : Nat) : Int))) := ⟨by
        have e1 : ((m : Int) / 2) = ((m / 2 : Nat) : Int) := by omega
        have e2 : ((b : Int) * b % 2147483579) = ((b * b % Nt.P : Nat) : Int) := by rw [Int.natCast_emod, Int.natCast_mul]; rfl
        rw [e1, e2]
        exact ⟨boxed_set _ (boxed_far _ HB3.out.1 HA.out.2.2), boxed_far _ (boxed_set _ HB3.out.2) (Ne.symm HA.out.2.2)⟩⟩
      have HM : Aside0 (meas bn wr = m) := ⟨by rw [meas_boxed HB.out.1]; omega⟩
      refine ⟨⟨pre ++ [(b, m % 2 == 1)], i, b * b % Nt.P, m / 2, ⟨?_, HS2.out.2.1, HS2.out.2.2⟩, by omega, HF, ⟨?_⟩⟩, ?_⟩
      · rw [HS2.out.1]; simp
      · exact HX.out.1 _ _ _ HJ3.out ((Kin.setCell _ _ _ (.inr rfl)).trans (Kin.setCell _ _ _ (.inl rfl)))
      · rw [meas_boxed HF.out.1, HM.out]; omega

set_option maxHeartbeats 1000000 in
theorem squares_makes (a n : Int) (w : World) : Calls Tryd.prog 66 #[.int .i64 a, .int .i64 n] w fun e w' =>
    e = .returned (.func (.func 88) #[] #[.pointer (some ⟨w.heap.size + 1, 0, none⟩), .pointer (some ⟨w.heap.size, 0, none⟩)]) ∧ w' = (w.alloc (.cells #[.int .i64 a] 3)).alloc (.cells #[.int .i64 n] 3) := by
  go_enter Tryd.func66, Tryd.ntmps66
  go_wp2
  go_ret
  exact ⟨rfl, rfl⟩

theorem tmod_q (n : Int) : -1073741789 < Int.tmod n 1073741789 ∧ Int.tmod n 1073741789 < 1073741789 ∧ Int.tmod n 1073741789 % 1073741789 = n % 1073741789 := by
  rcases Int.le_total 0 n with h | h
  · rw [Int.tmod_eq_emod_of_nonneg h]; omega
  · have e : Int.tmod n 1073741789 = -((-n) % 1073741789) := by
      rw [← Int.tmod_eq_emod_of_nonneg (show 0 ≤ -n by omega), Int.neg_tmod, Int.neg_neg]
    rw [e]; omega

theorem group_least_one (n : Int) (hn : -9223372036854775808 ≤ n) (hn2 : n ≤ 9223372036854775807) : group_least.f 2 [n] = some (Nt.xp n : Int) := by
  have hx := Nt.xp_lt n
  have hc := Nt.xp_cast n
  have e : ∀ z : Int, -1073741789 < z → z < 1073741789 → z % 1073741789 = n % 1073741789 → Int.tmod (wrap64 (1 * (wrap64 (z + 1073741789)))) 1073741789 = (Nt.xp n : Int) := by
    intro z h1 h2 h3
    rw [Int.one_mul]
    have e1 : wrap64 (z + 1073741789) = z + 1073741789 := by unfold wrap64; omega
    rw [e1, e1, Int.tmod_eq_emod_of_nonneg (by omega), hc]
    unfold Nt.Q
    omega
  unfold group_least.f
  simp only [group_least.l0, List.length_singleton]
  rw [if_pos (by decide), if_pos (by decide), if_pos (by decide)]
  have hr : rd [n] 0 = n := rfl
  have ht := tmod_q n
  rw [hr, e (Int.tmod n 1073741789) ht.1 ht.2.1 ht.2.2]
  have : wrap64 (0 + 1) = 1 := by unfold wrap64; omega
  rw [this, if_neg (by decide)]

set_option maxHeartbeats 2000000 in
theorem least_one (n : Int) (b : Nat) (w : World) (hn : -9223372036854775808 ≤ n) (hn2 : n ≤ 9223372036854775807) (hb : Boxed w b 3 (.int .i64 n)) :
    Calls Tryd.prog 67 #[.slice (some ⟨b, 0, none⟩) 1 1] w fun e w' => e = .returned (.int .i64 (Nt.xp n : Int)) ∧ Drawn0 w w' := by
  refine group_least.calls 2 (some ⟨b, 0, none⟩) 1 [n] _ w ⟨rfl, by simp, fun _ => ⟨_, rfl, fun j p hj => ?_⟩⟩ (by simp) (group_least_one n hn hn2)
  have h0 : j = 0 := by
    rcases Nat.eq_zero_or_pos j with h | h
    · exact h
    · rw [List.getElem?_eq_none (by simp; omega)] at hj; cases hj
  subst h0
  have hp : p = n := by simpa using hj.symm
  subst hp
  refine ⟨[.int .i64 p], rfl, rfl, fun i u hu => ?_⟩
  have h0 : i = 0 := by
    rcases Nat.eq_zero_or_pos i with h | h
    · exact h
    · rw [List.getElem?_eq_none (by simp; omega)] at hu; cases hu
  subst h0
  have hp : u = .int .i64 p := by simpa using hu.symm
  subst hp
  exact boxed_cell hb

/-- what holds between two rounds of Pow. -/
def PowInv (w : World) (pre : List (Nat × Bool)) (W : World) : Prop := Boxed W w.heap.size 3 (.int .i64 ((pre.foldl Nt.stepc 1 : Nat) : Int)) ∧ Below w.heap.size w W

set_option maxHeartbeats 4000000 in
set_option maxRecDepth 100000 in
theorem group_Pow.calls (a0 a1 r1 r2 : Int) (w : World) (h : group_Pow.f a0 a1 = some (r1, r2)) :
    Calls Tryd.prog 31 #[.int .i64 a0, .int .i64 a1] w fun e w' => e = .returned (.tuple #[.int .i64 r1, .int .i64 r2]) ∧ Below w.heap.size w w' := by
  have hi : i64 a1 := by
    unfold group_Pow.f at h
    split at h
    · assumption
    · cases h
  have HI := Aside0.mk hi
  rw [← callsIn_wide (n := 0)]
  refine callsIn_of_wp_marks Tryd.func31 rfl trivial ?_ rfl
  simp only [Tryd.ntmps31, List.size_toArray, List.length_cons, List.length_nil, Nat.reduceAdd, Nat.reduceSub, Array.replicate_succ, Array.replicate_zero, List.push_toArray, List.append_toArray, List.nil_append, List.cons_append]
  have hf : ∀ f, Fence.wide.fn f := fun _ => trivial
  have hd : Fence.wide.depth = none := rfl
  by_cases hv : vld a0 = true
  · have HV : Aside0 (pwz a0 a1 = r1 ∧ 0 = r2) := ⟨by unfold group_Pow.f at h; rw [if_pos hi, if_pos hv] at h; simpa using h⟩
    have HE : group_Valid.f a0 = some true := by unfold group_Valid.f; rw [hv]
    have HC := Aside0.mk (fun W => callsIn_wide (n := 0) |>.2 (group_Valid.calls a0 true W HE))
    have HA : Aside0 (Nt.El a0.toNat ∧ 0 ≤ a0) := ⟨by unfold vld at hv; simpa [and_comm] using hv⟩
    clear h hv HE hi
    gi_wp2_with (gi_at_call 47; refine (HC.out _).mono ?_; rintro e w' ⟨rfl, ⟨nd, rfl⟩⟩)
    obtain ⟨W4, hW4⟩ : ∃ W4, ((((w.alloc (.cells #[.int .i64 0] 3)).drewN nd).setCell ⟨w.heap.size, 0, none⟩ (.int .i64 1)).alloc (.cells #[.int .i64 a1] 3)) = W4 := ⟨_, rfl⟩
    have B0 : Boxed (w.alloc (.cells #[.int .i64 0] 3)) w.heap.size 3 (.int .i64 0) := World.alloc_heap_new w _
    have B1 : Boxed (((w.alloc (.cells #[.int .i64 0] 3)).drewN nd).setCell ⟨w.heap.size, 0, none⟩ (.int .i64 1)) w.heap.size 3 (.int .i64 1) := boxed_set _ B0
    have hs1 : (((w.alloc (.cells #[.int .i64 0] 3)).drewN nd).setCell ⟨w.heap.size, 0, none⟩ (.int .i64 1)).heap.size = w.heap.size + 1 := by simp [World.setCell, World.drewN]
    have B2 : Boxed W4 w.heap.size 3 (.int .i64 1) := by rw [← hW4]; exact (Below.heap_alloc _ _ _ (by omega)).trans B1
    have B3 : Boxed W4 (w.heap.size + 1) 3 (.int .i64 a1) := by
      rw [← hW4]
      have := World.alloc_heap_new (((w.alloc (.cells #[.int .i64 0] 3)).drewN nd).setCell ⟨w.heap.size, 0, none⟩ (.int .i64 1)) (.cells #[.int .i64 a1] 3)
      rwa [hs1] at this
    have hs4 : W4.heap.size = w.heap.size + 2 := by rw [← hW4]; simp [World.setCell, World.drewN]
    have hb4 : Below w.heap.size w W4 := by
      rw [← hW4]
      exact ((pw_below_drewN ((Below.refl _ _).alloc (Nat.le_refl _) _) nd).setCell (p := ⟨w.heap.size, 0, none⟩) (Nat.le_refl _) _).alloc (by omega) _
    rw [hW4]
    refine (callsIn_wide (n := 0) |>.2 (least_one a1 (w.heap.size + 1) W4 HI.out.1 HI.out.2 B3)).mono ?_
    rintro e w' ⟨rfl, ⟨nd2, rfl⟩⟩
    obtain ⟨W5, hW5⟩ : ∃ W5, W4.drewN nd2 = W5 := ⟨_, rfl⟩
    have B5 : Boxed W5 w.heap.size 3 (.int .i64 1) := hW5 ▸ B2
    have hs5 : W5.heap.size = w.heap.size + 2 := hW5 ▸ hs4
    have hb5 : Below w.heap.size w W5 := hW5 ▸ pw_below_drewN hb4 nd2
    rw [hW5]
    clear B0 B1 B2 B3 hs1 hs4 hb4 hW4 hW5
    have HW5 : Aside0 (Boxed W5 w.heap.size 3 (.int .i64 1) ∧ W5.heap.size = w.heap.size + 2 ∧ Below w.heap.size w W5) := ⟨B5, hs5, hb5⟩
    clear B5 hs5 hb5
    gi_wp2_with (gi_at_call 66; refine (callsIn_wide (n := 0) |>.2 (squares_makes _ _ _)).mono ?_; rintro e w' ⟨rfl, rfl⟩)
    obtain ⟨W6, hW6⟩ : ∃ W6, ((W5.alloc (.cells #[.int .i64 a0] 3)).alloc (.cells #[.int .i64 (Nt.xp a1 : Int)] 3)) = W6 := ⟨_, rfl⟩
    have hs6 : W6.heap.size = W5.heap.size + 2 := by rw [← hW6]; simp
    have Ba : Boxed W6 W5.heap.size 3 (.int .i64 ((a0.toNat : Nat) : Int)) := by
      rw [← hW6, Int.toNat_of_nonneg HA.out.2]
      exact (Below.heap_alloc _ _ _ (by simp)).trans (World.alloc_heap_new _ _)
    have Bn : Boxed W6 (W5.heap.size + 1) 3 (.int .i64 (Nt.xp a1 : Int)) := by
      rw [← hW6]
      have := World.alloc_heap_new (W5.alloc (.cells #[.int .i64 a0] 3)) (.cells #[.int .i64 (Nt.xp a1 : Int)] 3)
      rwa [World.size_alloc] at this
    have B6 : Boxed W6 w.heap.size 3 (.int .i64 1) := by
      rw [← hW6]
      have hz := HW5.out.2.1
      exact (Below.heap_alloc _ _ _ (by simp; omega)).trans ((Below.heap_alloc _ _ _ (by omega)).trans HW5.out.1)
    have hb6 : Below w.heap.size w W6 := by
      rw [← hW6]
      have hz := HW5.out.2.1
      exact (HW5.out.2.2.alloc (by omega) _).alloc (by simp; omega) _
    have hz5 := HW5.out.2.1
    rw [hW6]
    have hseq := squares_all (W5.heap.size + 1) W5.heap.size a0.toNat (Nt.xp a1) 30 (by omega) (Nat.lt_of_lt_of_le (Nt.xp_lt a1) (by decide)) (Nt.xp_lt a1) HA.out.1.2.1 W6 Bn Ba
    clear hW6 Bn Ba HC
    refine wpIn_range_all rfl (enters_of Tryd.func88 (by kernel_rfl) rfl) hseq (fun k hk => by rcases hk with rfl | rfl <;> omega) (fun k hk => by rcases hk with rfl | rfl <;> omega) (fun _ => rfl)
      (PowInv w)
      (fun s A B h hk => ⟨(hk.block _ (Boxed.lt h.1) (by omega)).trans h.1, h.2.trans ⟨hk.os, hk.tape, hk.output, hk.size, fun i hi => hk.block i (by have := h.2.size; omega) (by omega)⟩⟩)
      (fun s A l o o' h hl ho hc => ⟨(World.putObj_heap_other (by omega)).trans h.1, h.2.trans ⟨rfl, rfl, rfl, by simp, fun i hi => World.putObj_heap_other (by omega)⟩⟩)
      ⟨B6, hb6⟩
      (fun x => { tmps := #[.int .i64 a0, .int .i64 a1, undef, undef, .pointer (some ⟨w.heap.size, 0, none⟩), .int .i64 0, .int .i64 x.1, .bool x.2, .int .i64 a0, .bool true, .bool false, .int .i64 a0, .int .i64 a1, .slice (some ⟨w.heap.size + 1, 0, none⟩) 1 1, .int .i64 (Nt.xp a1 : Int), .func (.func 88) #[] #[.pointer (some ⟨W5.heap.size + 1, 0, none⟩), .pointer (some ⟨W5.heap.size, 0, none⟩)], .int .i64 x.1, .bool x.2, undef, undef, undef, undef, undef, undef], defers := [] }) ?assign ?body ?done
    all_goals (have HZ := Aside0.mk hz5; have HZ6 := Aside0.mk hs6; clear hz5 hs6)
    case assign =>
      intro l x W K hK
      gi_wp2
      exact hK
    case body =>
      rintro l pre ⟨q, b⟩ rest W hxs ⟨hB, hb⟩
      have hq : q < 2147483579 := Nt.sqs_lt 30 _ _ HA.out.1.2.1 (q, b) (by rw [hxs]; simp)
      have hc0 : pre.foldl Nt.stepc 1 < 2147483579 := Nt.foldl_lt _ _ (by decide)
      have HF : Aside0 ((pre ++ [(q, b)]).foldl Nt.stepc 1 = Nt.stepc (pre.foldl Nt.stepc 1) (q, b)) := ⟨by rw [List.foldl_append]; rfl⟩
      have Hb := Aside0.mk hb
      obtain ⟨c, hc⟩ : ∃ c, pre.foldl Nt.stepc 1 = c := ⟨_, rfl⟩
      rw [hc] at hB hc0
      have HC := Aside0.mk hc
      have HB := Aside0.mk hB
      have cc := boxed_cell hB
      have cf := boxed_frozen hB
      clear hxs hB hb hseq B6 hb6 hc
      have hq1 : 0 ≤ (c : Int) * (q : Int) := by rw [← Int.natCast_mul]; omega
      have hq2 : (c : Int) * (q : Int) ≤ 4611686018427387904 := by
        have h1 : c * q ≤ 2147483579 * 2147483579 := Nat.mul_le_mul (by omega) (by omega)
        rw [← Int.natCast_mul]; omega
      cases b with
      | true =>
        have HG : Aside0 (Nt.stepc c (q, true) = c * q % Nt.P) := ⟨rfl⟩
        have e2 : Aside0 (((c : Int) * q % 2147483579) = ((c * q % Nt.P : Nat) : Int)) := ⟨by rw [Int.natCast_emod, Int.natCast_mul]; rfl⟩
        gi_wp2
        have hz5 := HZ.out
        have hs6 := HZ6.out
        refine ⟨(KeepsOthers.setCell _ _ _).from _, ⟨by simp [World.setCell], fun k hk => Below.heap_setCell _ _ _ _ (by show k ≠ w.heap.size; rcases hk with rfl | rfl <;> omega)⟩, ?_, ?_⟩
        · rw [HF.out, HC.out, HG.out, e2.out]; exact boxed_set _ HB.out
        · exact Hb.out.setCell (p := ⟨w.heap.size, 0, none⟩) (Nat.le_refl _) _
      | false =>
        gi_wp2
        exact ⟨KeepsFrom.refl _ _, Kout.refl _ _, by rw [HF.out, HC.out]; exact HB.out, Hb.out⟩
    case done =>
      rintro D W hD ⟨hB, hb⟩ hK
      have HB := Aside0.mk hB
      have Hb := Aside0.mk hb
      have HK := Aside0.mk hK
      have cc := boxed_cell hB
      have cf := boxed_frozen hB
      have HX : Aside0 (((Nt.sqs 30 a0.toNat (Nt.xp a1)).foldl Nt.stepc 1 : Nat) = Nt.pw a0.toNat a1) := ⟨by
        rw [Nt.foldl_sqs 30 _ _ _ (Nat.lt_of_lt_of_le (Nt.xp_lt a1) (by decide)) (by decide), Nat.one_mul]; rfl⟩
      clear hB hb hK hseq B6 hb6
      gi_wp2
      have hK' := (KeepsOthers.setCell W ⟨w.heap.size, 0, none⟩ (.int .i64 ((List.foldl Nt.stepc 1 (Nt.sqs 30 a0.toNat (Nt.xp a1)) : Nat) : Int))).same D _ HK.out rfl
      have hc5 : ((W.setCell ⟨w.heap.size, 0, none⟩ (.int .i64 ((List.foldl Nt.stepc 1 (Nt.sqs 30 a0.toNat (Nt.xp a1)) : Nat) : Int))).putObj D (.deferred none)).cell? ⟨w.heap.size, 0, none⟩ = some (.int .i64 ((List.foldl Nt.stepc 1 (Nt.sqs 30 a0.toNat (Nt.xp a1)) : Nat) : Int)) :=
        boxed_cell ((World.putObj_heap_other (by have := HZ.out; have := HZ6.out; omega)).trans (boxed_set _ HB.out))
      refine ⟨by simp, .inl ⟨_, _, rfl, run_takeDeferred hK', ?_⟩⟩
      refine ⟨.tuple #[.int .i64 r1, .int .i64 r2], ?_, rfl, ?_⟩
      · rw [← HV.out.1, ← HV.out.2]
        simp [results, Tryd.f31, go_sem, hc5]
        rw [HX.out]; rfl
      · exact (Hb.out.setCell (p := ⟨w.heap.size, 0, none⟩) (Nat.le_refl _) _).trans ⟨rfl, rfl, rfl, by simp, fun i hi => World.putObj_heap_other (by have := HZ.out; have := HZ6.out; omega)⟩
  · have hv' : vld a0 = false := by simpa using hv
    have HV : Aside0 (0 = r1 ∧ 100 = r2) := ⟨by unfold group_Pow.f at h; rw [if_pos hi, if_neg hv] at h; simpa using h⟩
    have HE : group_Valid.f a0 = some false := by unfold group_Valid.f; rw [hv']
    have HC := Aside0.mk (fun W => callsIn_wide (n := 0) |>.2 (group_Valid.calls a0 false W HE))
    clear h hv hv' HE hi
    gi_wp2_with (gi_at_call 47; refine (HC.out _).mono ?_; rintro e w' ⟨rfl, ⟨nd, rfl⟩⟩)
    have B0 : Boxed (w.alloc (.cells #[.int .i64 0] 3)) w.heap.size 3 (.int .i64 0) := World.alloc_heap_new w _
    have hc5 : (((w.alloc (.cells #[.int .i64 0] 3)).drewN nd).setCell ⟨w.heap.size, 0, none⟩ (.int .i64 0)).cell? ⟨w.heap.size, 0, none⟩ = some (.int .i64 0) := boxed_cell (boxed_set _ B0)
    refine ⟨.tuple #[.int .i64 r1, .int .i64 r2], ?_, rfl, ?_⟩
    · rw [← HV.out.1, ← HV.out.2]
      simp [results, Tryd.f31, go_sem, hc5]
    · exact (pw_below_drewN ((Below.refl _ _).alloc (Nat.le_refl _) _) nd).setCell (p := ⟨w.heap.size, 0, none⟩) (Nat.le_refl _) _

end Go.Proofs.YthladfegmedpnaaDoor.P
namespace Go.Proofs.YthladfegmedpnaaDoor.P
open Go.RowKit Go.Proofs.YthladfegmedpnaaDoorW.PrintWords Go.Proofs.YthladfegmedpnaaDoorW.PrintLast Go.Proofs.YthladfegmedpnaaDoorW.PrintMore
attribute [local go_sem] max2_int min2_int max_two min_two max_three min_three max_four min_four
set_option linter.unusedVariables false
set_option linter.unusedSimpArgs false

/-! ### equal_pow: function 39 -/
def equal_pow.f (a0 : Int) (a1 : Int) : Option (Int) := (group_Pow.f a0 a1).bind fun bt101 => (some bt101.1)
set_option maxHeartbeats 8000000 in
set_option maxRecDepth 100000 in
theorem equal_pow.calls (a0 : Int) (a1 : Int) (r : Int) (w : World) (h : equal_pow.f a0 a1 = some r) :
    Calls Tryd.prog 39 #[.int .i64 a0, .int .i64 a1] w fun e w' => e = .returned (.int .i64 r) ∧ Below w.heap.size w w' := by
  have HB := Aside0.mk (Below.refl w.heap.size w)
  have H : ((group_Pow.f a0 a1).bind fun bt101 => (some bt101.1)) = some r := h
  clear h
  replace H := Option.bind_eq_some_iff.mp H
  obtain ⟨⟨t101, t102⟩, A30, H⟩ := H
  replace H : (some t101) = some r := H
  have A3 := Aside0.mk A30
  clear A30
  obtain rfl := Option.some.inj H
  go_enter Tryd.func39, Tryd.ntmps39
  go_wp2_with (first | ((with_reducible refine gate_callee (f := 31) rfl ?_); refine goesL_ (some 10) rfl rfl Tryd.func31 (by kernel_rfl) rfl #[.int .i64 a0, .int .i64 a1] rfl (by (try simp only [List.map_toArray, List.map_cons, List.map_nil]); first | done | rfl | (simp only [List.length_drop, List.length_take]; rfl)) ?_; (with_reducible refine (group_Pow.calls a0 a1 t101 t102 _ A3.out).mono ?_); rintro e w4 ⟨rfl, hb⟩; refine ⟨_, rfl, ?_⟩; have n0_ := Aside0.mk (below_step (by repeat (first | (with_reducible first | exact HB.out | apply below_alloc | apply pw_below_drewN | apply below_drew1) | exact HB.out)) hb); clear HB; have HB := n0_; clear n0_; (try clear hb); (try clear hb2); (try clear hk); (try clear hi)))
  go_ret
  exact ⟨by first | rfl | (simp [errW_none, errW_some] <;> rfl) | (simp [*, errW_none, errW_some] <;> rfl), by repeat (first | (with_reducible first | exact HB.out | apply below_alloc | apply pw_below_drewN | apply below_drew1) | exact HB.out)⟩

end Go.Proofs.YthladfegmedpnaaDoor.P

/- Plain laws: what the printed functions of the group come to. -/
namespace Go.Proofs.YthladfegmedpnaaDoor.P
open Go.RowKit Go.Proofs.YthladfegmedpnaaDoorW.PrintWords Go.Proofs.YthladfegmedpnaaDoorW.PrintLast Go.Proofs.YthladfegmedpnaaDoorW.PrintMore Go.Proofs.YthladfegmedpnaaDoor
set_option linter.unusedVariables false
set_option linter.unusedSimpArgs false

theorem P_lit : Nt.P = 2147483579 := rfl
theorem Q_lit : Nt.Q = 1073741789 := rfl

theorem mul_lt_sq {a b : Nat} (ha : a < 2147483579) (hb : b < 2147483579) : a * b ≤ 4611685756000000000 := by
  have h := Nat.mul_le_mul (show a ≤ 2147483578 by omega) (show b ≤ 2147483578 by omega)
  have e : (2147483578 : Nat) * 2147483578 ≤ 4611685756000000000 := by decide
  omega

/-- a product modulo P, as Go reckons it. -/
theorem tm_P (a b : Nat) (ha : a < Nt.P) (hb : b < Nt.P) : Int.tmod (wrap64 ((a : Int) * (b : Int))) 2147483579 = ((a * b % Nt.P : Nat) : Int) := by
  have h := mul_lt_sq (show a < 2147483579 from ha) (show b < 2147483579 from hb)
  rw [← Int.natCast_mul]
  generalize a * b = m at h
  have e : wrap64 (m : Int) = (m : Int) := by unfold wrap64; omega
  rw [e, Int.tmod_eq_emod_of_nonneg (by omega), P_lit]
  omega

theorem tdiv2 (n : Nat) (h : n < 4611686018427387904) : wrap64 (Int.tdiv (n : Int) 2) = ((n / 2 : Nat) : Int) := by
  rw [Int.tdiv_eq_ediv_of_nonneg (by omega)]
  unfold wrap64; omega
theorem tmod2 (n : Nat) : Int.tmod (n : Int) 2 = ((n % 2 : Nat) : Int) := by
  rw [Int.tmod_eq_emod_of_nonneg (by omega)]; omega

theorem power_l0 : ∀ (m k a n c : Nat), n < 2 ^ m → m < k → m ≤ 62 → a < Nt.P → c < Nt.P → signatoryref10_power.l0 k (a : Int) (n : Int) (c : Int) = some ((c * a ^ n % Nt.P : Nat) : Int)
  | 0, k, a, n, c, h, hk, hm, ha, hc => by
    obtain ⟨k, rfl⟩ : ∃ j, k = j + 1 := ⟨k - 1, by omega⟩
    obtain rfl : n = 0 := by simp at h; exact h
    rw [signatoryref10_power.l0, if_neg (by omega)]
    simp [Nat.mod_eq_of_lt hc]
  | m + 1, k, a, n, c, h, hk, hm, ha, hc => by
    obtain ⟨k, rfl⟩ : ∃ j, k = j + 1 := ⟨k - 1, by omega⟩
    have h62 : n < 4611686018427387904 := Nat.lt_of_lt_of_le h (Nat.pow_le_pow_right (by omega) hm)
    rw [signatoryref10_power.l0]
    by_cases h0 : n = 0
    · subst h0
      rw [if_neg (by omega)]
      simp [Nat.mod_eq_of_lt hc]
    · rw [if_pos (by omega), tmod2, tdiv2 n h62, tm_P a a ha ha, tm_P c a hc ha]
      have hlt : n / 2 < 2 ^ m := by rw [Nat.pow_succ] at h; omega
      have hp : ∀ c', c' * (a * a % Nt.P) ^ (n / 2) % Nt.P = c' * a ^ (2 * (n / 2)) % Nt.P := fun c' => by
        rw [Nat.mul_mod, ← Nat.pow_mod, ← Nat.mul_mod, ← Nat.pow_two, ← Nat.pow_mul]
      have ha2 : a * a % Nt.P < Nt.P := Nat.mod_lt _ Nt.P_pos
      by_cases ho : n % 2 = 1
      · rw [if_pos (by omega), power_l0 m k _ _ _ hlt (by omega) (by omega) ha2 (Nat.mod_lt _ Nt.P_pos), hp, Nat.mod_mul_mod, Nat.mul_assoc, ← Nat.pow_succ']
        have : (2 * (n / 2)).succ = n := by omega
        rw [this]
      · rw [if_neg (by omega), power_l0 m k _ _ _ hlt (by omega) (by omega) ha2 hc, hp]
        have : 2 * (n / 2) = n := by omega
        rw [this]

theorem power_f (k a n : Nat) (hk : 40 ≤ k) (hn : n < 2 ^ 32) (ha : a < Nt.P) : signatoryref10_power.f k (a : Int) (n : Int) = some ((a ^ n % Nt.P : Nat) : Int) := by
  have := power_l0 32 k a n 1 hn (by omega) (by omega) ha (by decide)
  rw [Nat.one_mul] at this
  exact this

theorem vld_nat (x : Nat) : vld (x : Int) = decide (Nt.El x) := by
  unfold vld
  rw [decide_eq_true (by omega), Bool.true_and, Int.toNat_natCast]

theorem vld_out {x : Int} (h : ¬ (1 ≤ x ∧ x < 2147483579)) : vld x = false := by
  unfold vld
  by_cases h0 : 0 ≤ x
  · rw [decide_eq_false (fun (e : Nt.El x.toNat) => ?_), Bool.and_false]
    have h1 := e.1
    have h2 := e.2.1
    rw [P_lit] at h2
    omega
  · rw [decide_eq_false h0, Bool.false_and]

theorem ref10_Valid_f (k : Nat) (hk : 40 ≤ k) (x : Int) : signatoryref10_Valid.f k x = some (vld x) := by
  unfold signatoryref10_Valid.f
  by_cases h1 : 1 ≤ x
  · rw [if_pos h1]
    by_cases h2 : x < 2147483579
    · rw [if_pos h2]
      obtain ⟨a, rfl⟩ := Int.eq_ofNat_of_zero_le (show 0 ≤ x by omega)
      have := power_f k a Nt.Q hk (by decide) (by rw [P_lit]; omega)
      rw [show ((Nt.Q : Nat) : Int) = 1073741789 from rfl] at this
      rw [this, Option.bind_some, vld_nat]
      congr 1
      rw [Bool.eq_iff_iff, beq_iff_eq, decide_eq_true_iff]
      constructor
      · intro h
        exact ⟨by omega, by rw [P_lit]; omega, by omega⟩
      · intro h
        have := h.2.2
        omega
    · rw [if_neg h2, vld_out (by omega)]
  · rw [if_neg h1, vld_out (by omega)]

theorem exponent_f (n : Int) : signatoryref10_exponent.f n = some (Nt.xp n : Int) := by
  have hx := Nt.xp_cast n
  rw [show ((Nt.Q : Nat) : Int) = 1073741789 from rfl] at hx
  have hq := Nt.xp_lt n
  rw [Q_lit] at hq
  unfold signatoryref10_exponent.f
  have h1 : Int.tmod n 1073741789 = n % 1073741789 ∨ Int.tmod n 1073741789 = n % 1073741789 - 1073741789 := by
    by_cases h0 : 0 ≤ n
    · left; exact Int.tmod_eq_emod_of_nonneg h0
    · rw [Int.tmod_eq_emod]
      split
      · left; omega
      · right; simp
  have hm := Int.emod_lt_of_pos n (show (0 : Int) < 1073741789 by decide)
  have hm0 := Int.emod_nonneg n (show (1073741789 : Int) ≠ 0 by decide)
  have h2 : Int.tmod n 1073741789 < 0 → Int.tmod n 1073741789 = n % 1073741789 - 1073741789 := fun h => by
    rcases h1 with e | e
    · omega
    · exact e
  have h3 : ¬ Int.tmod n 1073741789 < 0 → Int.tmod n 1073741789 = n % 1073741789 := fun h => by
    rcases h1 with e | e
    · exact e
    · omega
  generalize n % 1073741789 = r at *
  generalize Int.tmod n 1073741789 = t at *
  by_cases c : t < 0
  · rw [if_pos c, h2 c, hx]
    congr 1
    unfold wrap64; omega
  · rw [if_neg c, h3 c, hx]

theorem xp_lt32 (n : Int) : Nt.xp n < 2 ^ 32 := by
  have := Nt.xp_lt n
  rw [Q_lit] at this
  have e : (2 : Nat) ^ 32 = 4294967296 := by decide
  omega

theorem vld_el {x : Int} (h : vld x = true) : ∃ a : Nat, x = (a : Int) ∧ Nt.El a := by
  unfold vld at h
  simp only [Bool.and_eq_true, decide_eq_true_eq] at h
  exact ⟨x.toNat, by omega, h.2⟩
theorem el_vld {a : Nat} (h : Nt.El a) : vld (a : Int) = true := by rw [vld_nat]; exact decide_eq_true h

theorem ref10_Pow_f (k : Nat) (hk : 40 ≤ k) (a n : Int) : signatoryref10_Pow.f k a n = some (if vld a = true then (pwz a n, 0) else (0, 100)) := by
  unfold signatoryref10_Pow.f
  rw [ref10_Valid_f k hk, Option.bind_some]
  by_cases h : vld a = true
  · rw [if_pos h, if_pos h, exponent_f, Option.bind_some]
    obtain ⟨x, rfl, hx⟩ := vld_el h
    rw [power_f k x _ hk (xp_lt32 n) hx.2.1, Option.bind_some]
    rfl
  · rw [if_neg h, if_neg h]

theorem mulz_tm {a b : Int} (ha : vld a = true) (hb : vld b = true) : Int.tmod (wrap64 (a * b)) 2147483579 = mulz a b := by
  obtain ⟨x, rfl, hx⟩ := vld_el ha
  obtain ⟨y, rfl, hy⟩ := vld_el hb
  rw [tm_P x y hx.2.1 hy.2.1]
  unfold mulz
  rw [← Int.natCast_mul, P_lit]
  omega

theorem ref10_Mul_f (k : Nat) (hk : 40 ≤ k) (a b : Int) : signatoryref10_Mul.f k a b = some (if vld a = true ∧ vld b = true then (mulz a b, 0) else (0, 100)) := by
  unfold signatoryref10_Mul.f
  rw [ref10_Valid_f k hk, Option.bind_some, ref10_Valid_f k hk, Option.bind_some]
  by_cases h : vld a = true
  · by_cases h2 : vld b = true
    · rw [if_pos h, if_pos h2, if_pos ⟨h, h2⟩, mulz_tm h h2]
    · rw [if_pos h, if_neg h2, if_neg (fun e => h2 e.2)]
  · rw [if_neg h, if_neg (fun e => h e.1)]

theorem group_Mul_f (a b : Int) : group_Mul.f a b = some (if vld a = true ∧ vld b = true then (mulz a b, 0) else (0, 100)) := by
  unfold group_Mul.f group_Valid.f
  rw [Option.bind_some, Option.bind_some]
  by_cases h : vld a = true
  · by_cases h2 : vld b = true
    · rw [if_pos h, if_pos h2, if_pos ⟨h, h2⟩, mulz_tm h h2]
    · rw [if_pos h, if_neg h2, if_neg (fun e => h2 e.2)]
  · rw [if_neg h, if_neg (fun e => h e.1)]

theorem equal_pow_f (a n : Int) (hn : i64 n) : equal_pow.f a n = some (if vld a = true then pwz a n else 0) := by
  unfold equal_pow.f group_Pow.f
  rw [if_pos hn]
  by_cases h : vld a = true
  · rw [if_pos h, if_pos h]; rfl
  · rw [if_neg h, if_neg h]; rfl

/-! ### The group, over whole numbers -/
theorem vld_lt {x : Int} (h : vld x = true) : 1 ≤ x ∧ x < 2147483579 := by
  obtain ⟨a, rfl, ha⟩ := vld_el h
  have h1 := ha.1
  have h2 := ha.2.1
  rw [P_lit] at h2
  omega
theorem mulz_nat (x y : Nat) : mulz (x : Int) (y : Int) = ((x * y % Nt.P : Nat) : Int) := by
  unfold mulz
  rw [← Int.natCast_mul, P_lit]
  omega
theorem pwz_nat (x : Nat) (n : Int) : pwz (x : Int) n = (Nt.pw x n : Int) := by unfold pwz; rw [Int.toNat_natCast]
theorem vld_pw {a : Int} (h : vld a = true) (n : Int) : vld (pwz a n) = true := by
  obtain ⟨x, rfl, hx⟩ := vld_el h
  rw [pwz_nat]
  exact el_vld (Nt.el_pw hx n)
theorem vld_mul {a b : Int} (h : vld a = true) (h2 : vld b = true) : vld (mulz a b) = true := by
  obtain ⟨x, rfl, hx⟩ := vld_el h
  obtain ⟨y, rfl, hy⟩ := vld_el h2
  rw [mulz_nat]
  exact el_vld (Nt.el_mul hx hy)
theorem vld_one : vld 1 = true := el_vld Nt.el_one
theorem El_four : Nt.El 4 := by
  refine ⟨by decide, by decide, ?_⟩
  rw [Nt.el_iff_J (by decide) (by decide)]
  have h2 : Nat.Coprime 2 Nt.P := by decide
  have := Nt.J_mul (a := 2) (b := 2) Nt.P_odd h2 h2
  rw [show (2 : Nat) * 2 = 4 from rfl] at this
  rw [this]
  rcases Nt.J_cases 2 Nt.P with h | h <;> rw [h] <;> decide
theorem vld_four : vld 4 = true := el_vld El_four
theorem not_El_two : ¬ Nt.El 2 := by
  intro h
  have h3 := (Nt.el_iff_J (x := 2) (by decide) (by decide)).1 h.2.2
  rw [Nt.J_two Nt.P_odd, if_pos (by decide)] at h3
  exact absurd h3 (by decide)
theorem vld_two : vld 2 = false := by
  rw [show (2 : Int) = ((2 : Nat) : Int) from rfl, vld_nat]
  exact decide_eq_false not_El_two
theorem vld_zero : vld 0 = false := vld_out (by omega)

theorem pwz_add {a : Int} (h : vld a = true) (m n : Int) : pwz a (m + n) = mulz (pwz a m) (pwz a n) := by
  obtain ⟨x, rfl, hx⟩ := vld_el h
  rw [pwz_nat, pwz_nat, pwz_nat, mulz_nat, Nt.pw_add hx]
theorem pwz_mul {a : Int} (h : vld a = true) (m n : Int) : pwz a (m * n) = pwz (pwz a m) n := by
  obtain ⟨x, rfl, hx⟩ := vld_el h
  rw [pwz_nat, pwz_nat, pwz_nat, Nt.pw_mul hx]
theorem pwz_prod {a b : Int} (h : vld a = true) (h2 : vld b = true) (n : Int) : pwz (mulz a b) n = mulz (pwz a n) (pwz b n) := by
  obtain ⟨x, rfl, hx⟩ := vld_el h
  obtain ⟨y, rfl, hy⟩ := vld_el h2
  rw [mulz_nat, pwz_nat, pwz_nat, pwz_nat, mulz_nat, Nt.pw_prod]
theorem pwz_congr (a : Int) {m n : Int} (h : m % 1073741789 = n % 1073741789) : pwz a m = pwz a n := by
  unfold pwz
  rw [Nt.pw_congr a.toNat (m := m) (n := n) h]
theorem pwz_one {a : Int} (h : vld a = true) : pwz a 1 = a := by
  obtain ⟨x, rfl, hx⟩ := vld_el h
  rw [pwz_nat, Nt.pw_one hx.2.1]
theorem pwz_zero (a : Int) : pwz a 0 = 1 := by unfold pwz; rw [Nt.pw_zero]; rfl
theorem mulz_comm (a b : Int) : mulz a b = mulz b a := by unfold mulz; rw [Int.mul_comm]
theorem mulz_assoc (a b c : Int) : mulz (mulz a b) c = mulz a (mulz b c) := by
  unfold mulz
  rw [Int.mul_emod (a * b % 2147483579) c, Int.emod_emod, ← Int.mul_emod, Int.mul_emod a (b * c % 2147483579), Int.emod_emod, ← Int.mul_emod, Int.mul_assoc]
theorem mulz_one {a : Int} (h : vld a = true) : mulz 1 a = a := by
  have := vld_lt h
  unfold mulz
  rw [Int.one_mul]; omega
theorem mulz_cancel {a b c : Int} (ha : vld a = true) (hb : vld b = true) (hc : vld c = true) (h : mulz a b = mulz a c) : b = c := by
  obtain ⟨x, rfl, hx⟩ := vld_el ha
  obtain ⟨y, rfl, hy⟩ := vld_el hb
  obtain ⟨z, rfl, hz⟩ := vld_el hc
  rw [mulz_nat, mulz_nat] at h
  rw [Nt.mul_cancel hx hy.2.1 hz.2.1 (by omega)]
theorem pwz_inj {a : Int} (ha : vld a = true) (hne : a ≠ 1) {m n : Int} (h : pwz a m = pwz a n) : m % 1073741789 = n % 1073741789 := by
  obtain ⟨x, rfl, hx⟩ := vld_el ha
  rw [pwz_nat, pwz_nat] at h
  exact Nt.pw_inj hx (by omega) (by omega)
/-- What was divided away comes back: (b a^-n) a^n = b. -/
theorem pwz_neg {a : Int} (ha : vld a = true) (n : Int) : mulz (pwz a (-n)) (pwz a n) = 1 := by
  rw [← pwz_add ha, Int.add_left_neg, pwz_zero]
theorem pwz_four_three : pwz 4 3 = 64 := by
  unfold pwz Nt.pw
  rw [show Nt.xp 3 = 3 from by decide]
  decide

theorem rd2_0 (x y : Int) : rd [x, y] 0 = x := rfl
theorem rd2_1 (x y : Int) : rd [x, y] 1 = y := rfl
theorem equal_mul_f (k : Nat) (hk : 3 ≤ k) (x y : Int) (hx : vld x = true) (hy : vld y = true) : equal_mul.f k [x, y] = some (mulz x y) := by
  obtain ⟨k, rfl⟩ : ∃ j, k = j + 3 := ⟨k - 3, by omega⟩
  have hl : (([x, y] : List Int).length : Int) = 2 := rfl
  have w1 : wrap64 (0 + 1) = 1 := by unfold wrap64; omega
  have w2 : wrap64 (1 + 1) = 2 := by unfold wrap64; omega
  unfold equal_mul.f
  rw [hl, equal_mul.l0, if_pos (by omega), if_pos (by omega), hl, if_pos (by omega), group_Mul_f, rd2_0, if_pos ⟨vld_one, hx⟩, Option.bind_some, w1]
  rw [equal_mul.l0, if_pos (by omega), if_pos (by omega), hl, if_pos (by omega), group_Mul_f, rd2_1]
  simp only [mulz_one hx]
  rw [if_pos ⟨hx, hy⟩, Option.bind_some, w2, equal_mul.l0, if_neg (by omega)]

end Go.Proofs.YthladfegmedpnaaDoor.P
