import Derived.Test.YthladfegmedpnaaDoorKR4
import Derived.Test.YthladfegmedpnaaDoorKR2
import Derived.Test.YthladfegmedpnaaDoorKR5
import Derived.Test.YthladfegmedpnaaDoorKR1
import Derived.Test.YthladfegmedpnaaDoorK17
set_option linter.unusedVariables false
set_option linter.unusedSimpArgs false

namespace Go.Proofs.YthladfegmedpnaaDoor.P
open Go.RowKit Go.Proofs.YthladfegmedpnaaDoorW.PrintWords Go.Proofs.YthladfegmedpnaaDoorW.PrintLast Go.Proofs.YthladfegmedpnaaDoorW.PrintMore Go.Proofs.YthladfegmedpnaaDoor
set_option linter.unusedVariables false
set_option linter.unusedSimpArgs false

def signatoryref35_Pad.f (a0 a1 a2 : Int) : Option Int := if i64 a0 ∧ i64 a1 ∧ i64 a2 then some (padz a0 a1 a2) else none

/-- the cells of a value that is an integer. -/
def viCells (n : Int) : List Value := [.int .i64 1, .int .i64 n, .string ⟨#[]⟩, .slice none 0 0]

set_option maxHeartbeats 2000000 in
set_option maxRecDepth 100000 in
theorem ref01_Int_makes (n : Int) (w : World) : Calls Tryd.prog 86 #[.int .i64 n] w fun e w' => e = .returned (.agg #[.int .i64 1, .int .i64 n, .string ⟨#[]⟩, .slice none 0 0]) ∧ Below w.heap.size w w' := by
  go_enter Tryd.func86, Tryd.ntmps86
  go_wp2
  refine bodyPost_ret (v := .agg #[.int .i64 1, .int .i64 n, .string ⟨#[]⟩, .slice none 0 0]) (by simp [results, Tryd.results86, go_sem]) rfl ?_
  exact ⟨rfl, by repeat (first | exact Below.refl _ _ | apply below_alloc | refine below_set ?_ (Nat.le_refl _))⟩

set_option maxHeartbeats 2000000 in
set_option maxRecDepth 100000 in
theorem ref01_List_makes (A : Option Addr) (n c : Nat) (w : World) : Calls Tryd.prog 85 #[.slice A n c] w fun e w' => e = .returned (.agg #[.int .i64 3, .int .i64 0, .string ⟨#[]⟩, .slice A n c]) ∧ Below w.heap.size w w' := by
  go_enter Tryd.func85, Tryd.ntmps85
  go_wp2
  refine bodyPost_ret (v := .agg #[.int .i64 3, .int .i64 0, .string ⟨#[]⟩, .slice A n c]) (by simp [results, Tryd.results85, go_sem]) rfl ?_
  exact ⟨rfl, by repeat (first | exact Below.refl _ _ | apply below_alloc | refine below_set ?_ (Nat.le_refl _))⟩

theorem vi_K (w : World) (n : Int) : (k42).K w (vi n) (viCells n) :=
  k42_mk w (vi n) (A3 := none) (c3 := 0) (Nat.le_refl _) ⟨rfl, Nat.zero_le _, fun h => absurd h (Nat.lt_irrefl 0)⟩

/-- three values that are integers, in a row. -/
theorem row3 {w : World} {g : Nat} {t : TypeId} (a b c : Int) (h : w.heap[g]? = some (.cells (viCells a ++ viCells b ++ viCells c).toArray t (0, 0))) : Kd.C k42 w (some ⟨g, 0, none⟩) ([vi a, vi b, vi c] : List S42).length [vi a, vi b, vi c] := by
  refine ⟨rfl, by simp, fun _ => ⟨_, rfl, fun j p hj => ?_⟩⟩
  have hj2 : j < 3 := by have := (List.getElem?_eq_some_iff.1 hj).1; simpa using this
  match j, hj2, hj with
  | 0, _, hj =>
    obtain rfl := Option.some.inj hj
    refine ⟨viCells a, rfl, vi_K w a, fun i u hu => ?_⟩
    match i, hu with
    | 0, hu => obtain rfl := Option.some.inj hu; exact (blk_cell h 0).trans rfl
    | 1, hu => obtain rfl := Option.some.inj hu; exact (blk_cell h 1).trans rfl
    | 2, hu => obtain rfl := Option.some.inj hu; exact (blk_cell h 2).trans rfl
    | 3, hu => obtain rfl := Option.some.inj hu; exact (blk_cell h 3).trans rfl
  | 1, _, hj =>
    obtain rfl := Option.some.inj hj
    refine ⟨viCells b, rfl, vi_K w b, fun i u hu => ?_⟩
    match i, hu with
    | 0, hu => obtain rfl := Option.some.inj hu; exact (blk_cell h 4).trans rfl
    | 1, hu => obtain rfl := Option.some.inj hu; exact (blk_cell h 5).trans rfl
    | 2, hu => obtain rfl := Option.some.inj hu; exact (blk_cell h 6).trans rfl
    | 3, hu => obtain rfl := Option.some.inj hu; exact (blk_cell h 7).trans rfl
  | 2, _, hj =>
    obtain rfl := Option.some.inj hj
    refine ⟨viCells c, rfl, vi_K w c, fun i u hu => ?_⟩
    match i, hu with
    | 0, hu => obtain rfl := Option.some.inj hu; exact (blk_cell h 8).trans rfl
    | 1, hu => obtain rfl := Option.some.inj hu; exact (blk_cell h 9).trans rfl
    | 2, hu => obtain rfl := Option.some.inj hu; exact (blk_cell h 10).trans rfl
    | 3, hu => obtain rfl := Option.some.inj hu; exact (blk_cell h 11).trans rfl

set_option maxHeartbeats 8000000 in
set_option maxRecDepth 100000 in
theorem ref35_Pad_makes (d dealer row : Int) (w : World) (h1 : i64 d) (h2 : i64 dealer) (h3 : i64 row) :
    Calls Tryd.prog 63 #[.int .i64 d, .int .i64 dealer, .int .i64 row] w fun e w' => e = .returned (.int .i64 (padz d dealer row)) ∧ Below w.heap.size w w' := by
  have HE := Aside0.mk (ref_encode_vi [d, dealer, row] (by simp) (fun x hx => by
    simp only [List.mem_cons, List.not_mem_nil, or_false] at hx
    rcases hx with rfl | rfl | rfl <;> assumption))
  clear h1 h2 h3
  go_enter Tryd.func63, Tryd.ntmps63
  go_wp2_with fail
  refine (ref01_Int_makes d w).mono ?_
  rintro e w1 ⟨rfl, hb1⟩
  go_wp2_with fail
  refine (ref01_Int_makes dealer w1).mono ?_
  rintro e w2 ⟨rfl, hb2⟩
  go_wp2_with fail
  refine (ref01_Int_makes row w2).mono ?_
  rintro e w3 ⟨rfl, hb3⟩
  have HB3 := Aside0.mk (below_step (below_step hb1 hb2) hb3)
  clear hb1 hb2 hb3
  go_wp2_with fail
  have hrow : (w3.alloc (.cells (viCells d ++ viCells dealer ++ viCells row).toArray 42)).heap[w3.heap.size]? = some (.cells (viCells d ++ viCells dealer ++ viCells row).toArray 42 (0, 0)) := World.alloc_heap_new _ _
  change Calls _ _ _ (w3.alloc (.cells (viCells d ++ viCells dealer ++ viCells row).toArray 42)) _
  have HB4 := Aside0.mk (below_alloc HB3.out (.cells (viCells d ++ viCells dealer ++ viCells row).toArray 42))
  generalize w3.alloc (.cells (viCells d ++ viCells dealer ++ viCells row).toArray 42) = w4 at hrow HB4 ⊢
  generalize w3.heap.size = g at hrow ⊢
  have HROW := Aside0.mk hrow
  clear hrow HB3
  refine (ref01_List_makes (some ⟨g, 0, none⟩) 3 3 w4).mono ?_
  rintro e w5 ⟨rfl, hb5⟩
  go_wp2_with fail
  have hC := row3 d dealer row (blk_below HROW.out hb5)
  refine (signatoryref01_Encode.calls 3 0 ⟨#[]⟩ (some ⟨g, 0, none⟩) 3 [vi d, vi dealer, vi row] (encInts [d, dealer, row]) 0 w5 hC (by simp) HE.out).mono ?_
  clear hC
  rintro e w6 ⟨v, rfl, hR, hb6⟩
  obtain ⟨A6, c6, rfl, hl6, hC6⟩ := Kd.R_reads hR
  have HB6 := Aside0.mk (below_step (below_step HB4.out hb5) hb6)
  have HC6 := Aside0.mk hC6
  have HL6 := Aside0.mk hl6
  clear hb5 hb6 hR hC6 hl6 HROW HB4
  have HL : Aside0 (([d, dealer, row] : List Int).length ≤ 100) := ⟨by simp⟩
  obtain ⟨L, hL⟩ : ∃ L, L = [d, dealer, row] := ⟨_, rfl⟩
  rw [← hL] at HC6 HL6 HL ⊢
  have EL := Aside0.mk hL
  clear hL
  go_wp2_with fail
  refine (signatoryref10_Hash.calls ⟨#[112, 97, 100]⟩ A6 c6 (encInts L) _ w6 HC6.out HL6.out (ref_hash_f _ L (by decide) HL.out)).mono ?_
  rintro e w7 ⟨rfl, hb7⟩
  go_wp2_with fail
  go_ret
  exact ⟨by rw [EL.out]; rfl, below_step HB6.out hb7⟩

theorem signatoryref35_Pad.calls (a0 a1 a2 r : Int) (w : World) (h : signatoryref35_Pad.f a0 a1 a2 = some r) :
    Calls Tryd.prog 63 #[.int .i64 a0, .int .i64 a1, .int .i64 a2] w fun e w' => e = .returned (.int .i64 r) ∧ Below w.heap.size w w' := by
  unfold signatoryref35_Pad.f at h
  split at h
  · rename_i hh
    obtain rfl := Option.some.inj h
    exact ref35_Pad_makes a0 a1 a2 w hh.1 hh.2.1 hh.2.2
  · cases h

end Go.Proofs.YthladfegmedpnaaDoor.P

namespace Go.Proofs.YthladfegmedpnaaDoor.P
open Go.RowKit Go.Proofs.YthladfegmedpnaaDoorW.PrintWords Go.Proofs.YthladfegmedpnaaDoorW.PrintLast Go.Proofs.YthladfegmedpnaaDoorW.PrintMore Go.Proofs.YthladfegmedpnaaDoor
set_option linter.unusedVariables false
set_option linter.unusedSimpArgs false

theorem ref35_Pad_f {d dealer row : Int} (h1 : vld d = true) (h2 : isPers dealer = true) (h3 : isPers row = true) : signatoryref35_Pad.f d dealer row = some (padz d dealer row) := by
  unfold signatoryref35_Pad.f
  rw [if_pos ⟨i64_vld h1, pers_i64 h2, pers_i64 h3⟩]

end Go.Proofs.YthladfegmedpnaaDoor.P
