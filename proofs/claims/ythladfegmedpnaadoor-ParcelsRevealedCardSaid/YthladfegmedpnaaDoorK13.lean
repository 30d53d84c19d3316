import Derived.Test.YthladfegmedpnaaDoorK8
import Derived.Test.YthladfegmedpnaaDoorK2
import Derived.Outline
import Derived.StillTailTactics
import Derived.Laws.EntriesVeiled
import Derived.Laws.CopyRow
import Derived.Test.YthladfegmedpnaaDoorK11
import Derived.Laws.IdiomCopy
import Derived.Laws.MakeOwn
set_option linter.unusedVariables false
set_option linter.unusedSimpArgs false

namespace Go.Proofs.YthladfegmedpnaaDoor.P
open Go.RowKit Go.Proofs.YthladfegmedpnaaDoorW.PrintWords Go.Proofs.YthladfegmedpnaaDoorW.PrintLast Go.Proofs.YthladfegmedpnaaDoorW.PrintMore Go.Proofs.YthladfegmedpnaaDoor
set_option linter.unusedVariables false
set_option linter.unusedSimpArgs false

theorem wd_drop (b : List Int) (t : Nat) : Sha.wd (b.drop (4 * t)) 0 = Sha.wd b t := by
  simp [Sha.wd, List.getD_eq_getElem?_getD, List.getElem?_drop]

theorem rotl_q7 (x : Int) (w : World) (k : Nat) : Calls Tryd.prog 102 #[.int .u32 x, .int .i64 (-7)] (w.drewN k) fun e w'' => e = .returned (.int .u32 (Sha.rr x 7)) ∧ ∃ m, w'' = w.drewN m :=
  Calls.quiet_of ((bits_RotateLeft32.calls x (-7) (Sha.rr x 7) _ (rotl_f x 7 rfl)).mono fun _ _ h => ⟨h.1, h.2.out⟩)
theorem rotl_q18 (x : Int) (w : World) (k : Nat) : Calls Tryd.prog 102 #[.int .u32 x, .int .i64 (-18)] (w.drewN k) fun e w'' => e = .returned (.int .u32 (Sha.rr x 18)) ∧ ∃ m, w'' = w.drewN m :=
  Calls.quiet_of ((bits_RotateLeft32.calls x (-18) (Sha.rr x 18) _ (rotl_f x 18 rfl)).mono fun _ _ h => ⟨h.1, h.2.out⟩)
theorem rotl_q17 (x : Int) (w : World) (k : Nat) : Calls Tryd.prog 102 #[.int .u32 x, .int .i64 (-17)] (w.drewN k) fun e w'' => e = .returned (.int .u32 (Sha.rr x 17)) ∧ ∃ m, w'' = w.drewN m :=
  Calls.quiet_of ((bits_RotateLeft32.calls x (-17) (Sha.rr x 17) _ (rotl_f x 17 rfl)).mono fun _ _ h => ⟨h.1, h.2.out⟩)
theorem rotl_q19 (x : Int) (w : World) (k : Nat) : Calls Tryd.prog 102 #[.int .u32 x, .int .i64 (-19)] (w.drewN k) fun e w'' => e = .returned (.int .u32 (Sha.rr x 19)) ∧ ∃ m, w'' = w.drewN m :=
  Calls.quiet_of ((bits_RotateLeft32.calls x (-19) (Sha.rr x 19) _ (rotl_f x 19 rfl)).mono fun _ _ h => ⟨h.1, h.2.out⟩)
theorem rotated_q6 (x : Int) (w : World) (k : Nat) : Calls Tryd.prog 103 #[.int .u32 x, .int .i64 6, .int .i64 11, .int .i64 25] (w.drewN k) fun e w'' => e = .returned (.int .u32 (Sha.sg x 6 11 25)) ∧ ∃ m, w'' = w.drewN m :=
  Calls.quiet_of ((digest_rotated.calls x 6 11 25 (Sha.sg x 6 11 25) _ (rotated_f x 6 11 25 rfl rfl rfl)).mono fun _ _ h => ⟨h.1, h.2.out⟩)
theorem rotated_q2 (x : Int) (w : World) (k : Nat) : Calls Tryd.prog 103 #[.int .u32 x, .int .i64 2, .int .i64 13, .int .i64 22] (w.drewN k) fun e w'' => e = .returned (.int .u32 (Sha.sg x 2 13 22)) ∧ ∃ m, w'' = w.drewN m :=
  Calls.quiet_of ((digest_rotated.calls x 2 13 22 (Sha.sg x 2 13 22) _ (rotated_f x 2 13 22 rfl rfl rfl)).mono fun _ _ h => ⟨h.1, h.2.out⟩)

theorem Arr.eight {w : World} {g : Nat} {t : TypeId} {s : List Int} (h : Arr w g t s) (h8 : s.length = 8) : ∃ s0 s1 s2 s3 s4 s5 s6 s7 : Int, s = [s0, s1, s2, s3, s4, s5, s6, s7] ∧ w.cell? ⟨g, 0, none⟩ = some (.int .u32 s0) ∧ w.cell? ⟨g, 1, none⟩ = some (.int .u32 s1) ∧ w.cell? ⟨g, 2, none⟩ = some (.int .u32 s2) ∧ w.cell? ⟨g, 3, none⟩ = some (.int .u32 s3) ∧ w.cell? ⟨g, 4, none⟩ = some (.int .u32 s4) ∧ w.cell? ⟨g, 5, none⟩ = some (.int .u32 s5) ∧ w.cell? ⟨g, 6, none⟩ = some (.int .u32 s6) ∧ w.cell? ⟨g, 7, none⟩ = some (.int .u32 s7) := by
  match s, h8 with
  | [a, b, c, d, e, f, i, j], _ => exact ⟨a, b, c, d, e, f, i, j, rfl, h.cell 0 (by simp), h.cell 1 (by simp), h.cell 2 (by simp), h.cell 3 (by simp), h.cell 4 (by simp), h.cell 5 (by simp), h.cell 6 (by simp), h.cell 7 (by simp)⟩

theorem Only.setRow (g : Nat) (w : World) (cs : Array Value) : Only g w (w.setRow g cs) := ⟨rfl, rfl, rfl, by simp, fun k _ hk => setRow_other w g k cs hk⟩

theorem copy_eight {P : Program} {w : World} {g : Nat} {t : TypeId} {s0 s1 s2 s3 s4 s5 s6 s7 : Int} (dT ty elem : TypeId) (hu : P.underlying dT = some (.slice elem)) (hs : (P.info? elem).map (·.size) = some 1) (h : Arr w g t [s0, s1, s2, s3, s4, s5, s6, s7]) :
    ∃ w1, (Builtin.copy_ #[dT, dT] ty #[.slice (some ⟨g, 1, none⟩) 7 7, .slice (some ⟨g, 0, none⟩) 7 8]).run P w = .ok (.int .i64 7) w1 ∧ Arr w1 g t [s0, s0, s1, s2, s3, s4, s5, s6] ∧ Only g w w1 := by
  refine ⟨_, run_copy_row (P := P) w dT dT ty elem g 1 7 7 ⟨g, 0, none⟩ 7 8 (encW [s0, s1, s2, s3, s4, s5, s6, s7]) t [.int .u32 s0, .int .u32 s1, .int .u32 s2, .int .u32 s3, .int .u32 s4, .int .u32 s5, .int .u32 s6] hu hs h rfl ?_ ?_ ?_, ?_, Only.setRow _ _ _⟩
  · intro j v hj
    have hj7 : j < 7 := by
      have := (List.getElem?_eq_some_iff.1 hj).1
      simpa using this
    have ha : (⟨g, 0, none⟩ : Addr).add j = ⟨g, j, none⟩ := by unfold Addr.add; split <;> simp_all
    rw [ha, h.cell j (by simp; omega), ← hj]
    match j, hj7 with
    | 0, _ | 1, _ | 2, _ | 3, _ | 4, _ | 5, _ | 6, _ => rfl
  · simp [encW]
  · intro v hv
    simp only [List.mem_cons, List.not_mem_nil, or_false] at hv
    rcases hv with rfl | rfl | rfl | rfl | rfl | rfl | rfl <;> rfl
  · exact setRow_heap w g (encW [s0, s1, s2, s3, s4, s5, s6, s7]) _ t (0, 0) h

set_option maxHeartbeats 8000000 in
set_option maxRecDepth 100000 in
theorem absorb_makes (gs : Nat) (s : List Int) (A : Option Addr) (c : Nat) (b : List Int) (w : World) (hs : Arr w gs 105 s) (hs8 : s.length = 8) (hsu : Sha.U32 s) (hr : Kd.C (Kd.int .u8) w A b.length b) (hc : b.length ≤ c) (hb : b.length = 64) (hbb : Bytes b) (hG : Glob w) :
    Calls Tryd.prog 92 #[.pointer (some ⟨gs, 0, none⟩), .slice A b.length c] w fun e w' => e = .returned (.tuple #[]) ∧ Arr w' gs 105 (Sha.block s b) ∧ Only gs w w' := by
  have HS := Aside0.mk hs
  have HS8 := Aside0.mk hs8
  have HSU := Aside0.mk hsu
  have HR := Aside0.mk hr
  have HC := Aside0.mk hc
  have HBL := Aside0.mk hb
  have HBB := Aside0.mk hbb
  have HG := Aside0.mk hG
  clear hs hs8 hsu hr hc hb hbb hG
  go_enter Tryd.func92, Tryd.ntmps92
  go_wp2
  have HW0 : Aside0 (Arr (w.alloc (.cells (encW (Sha.first b 0)) 116)) w.heap.size 116 (Sha.first b 0)) := ⟨World.alloc_heap_new _ _⟩
  have HB0 := Aside0.mk (below_alloc (Below.refl w.heap.size w) (.cells (encW (Sha.first b 0)) 116))
  change Code.wp _ _ _ _ (w.alloc (.cells (encW (Sha.first b 0)) 116))
  generalize w.alloc (.cells (encW (Sha.first b 0)) 116) = w0 at HW0 HB0 ⊢
  obtain ⟨i03, hi03, _, hsz3, _⟩ := info_parts info5
  have HI := Aside0.mk (And.intro hi03 hsz3)
  clear hi03 hsz3
  go_loopw [14] (fun i wr => ∃ t : Nat, t ≤ 16 ∧ i = .int .i64 t ∧ Aside0 (Arr wr w.heap.size 116 (Sha.first b t)) ∧ Aside0 (Below w.heap.size w wr)) (fun i _ => 16 - (intOf i).toNat)
  case atStart => exact ⟨0, Nat.zero_le _, rfl, HW0, HB0⟩
  case round =>
    clear HW0 HB0
    obtain ⟨t, ht, rfl, HA, HB⟩ := hrel
    by_cases hlt : t < 16
    · have hlt' : decide ((t : Int) < 16) = true := decide_eq_true (by omega)
      have h4 : IntKind.i64.wrap (4 * (t : Int)) = 4 * (t : Int) := by rw [IntKind.wrap_i64]; omega
      obtain ⟨A', hcut, hA, hC⟩ := print_drop_of (P := Tryd.prog) (Value.int .u8) 0 43 5 .i64 Tryd.underlying43 HI.out.1 HI.out.2 A c b (4 * t) (by omega) (by rw [HBL.out]; omega) HC.out
      simp only [show (4 * (t : Int)).toNat = 4 * t from by omega] at hcut hA hC
      have HC4 := Aside0.mk hC
      have HR4 := Aside0.mk (Kd.C_of_reads (h1 := fun _ => rfl) (hA _ (Kd.reads_of_C (Kd.C_below HR.out HB.out))))
      clear hA hC
      go_wp2_with fail
      have hcall := digest_word.calls 6 A' (c - 4 * t) (b.drop (4 * t)) (Sha.wd b t) wr HR4.out HC4.out (by rw [digest_word_f (HBB.out.drop _) (by rw [List.length_drop, HBL.out]; omega), wd_drop])
      rw [List.length_drop] at hcall
      refine hcall.mono ?_
      clear hcall hcut
      rintro e w2 ⟨rfl, ⟨nd, rfl⟩⟩
      have hcl := HA.out.cell t (by rw [Sha.first_length]; omega)
      have hfr := HA.out.frozen t
      go_wp2
      have HA2 := Aside0.mk ((HA.out.drewN nd).set t (Sha.wd b t))
      rw [Sha.first_succ b t (by omega)] at HA2
      have HB2 := Aside0.mk (below_set (j := t) (v := .int .u32 (Sha.wd b t)) (pw_below_drewN HB.out nd) (Nat.le_refl _))
      clear hcl hfr HR4 HC4 h4
      go_roundw
      case rel => exact ⟨t + 1, by omega, by go_num, HA2, HB2⟩
      case measure => simp [intOf]; omega
    · have hlt' : decide ((t : Int) < 16) = false := decide_eq_false (by omega)
      have et : t = 16 := by omega
      subst et
      clear hlt
      simp only [Int.cast_ofNat_Int]
      have HA1 : Aside0 (Arr wr w.heap.size 116 (Sha.more (Sha.first b 16) (16 - 16))) := ⟨HA.out⟩
      clear HA hlt'
      go_wp2
      go_loopw [6] (fun i wr => ∃ t : Nat, t ≤ 64 ∧ 16 ≤ t ∧ i = .int .i64 t ∧ Aside0 (Arr wr w.heap.size 116 (Sha.more (Sha.first b 16) (t - 16))) ∧ Aside0 (Below w.heap.size w wr)) (fun i _ => 64 - (intOf i).toNat)
      case atStart => exact ⟨16, by omega, by omega, rfl, HA1, HB⟩
      case round =>
        clear HA1 HB
        obtain ⟨t, ht, ht2, rfl, HA, HB⟩ := hrel
        by_cases hlt : t < 64
        · have hlt' : decide ((t : Int) < 64) = true := decide_eq_true (by omega)
          have h15 : IntKind.i64.wrap ((t : Int) - 15) = ((t - 15 : Nat) : Int) := by rw [IntKind.wrap_i64]; omega
          have h2 : IntKind.i64.wrap ((t : Int) - 2) = ((t - 2 : Nat) : Int) := by rw [IntKind.wrap_i64]; omega
          have h16 : IntKind.i64.wrap ((t : Int) - 16) = ((t - 16 : Nat) : Int) := by rw [IntKind.wrap_i64]; omega
          have h7 : IntKind.i64.wrap ((t : Int) - 7) = ((t - 7 : Nat) : Int) := by rw [IntKind.wrap_i64]; omega
          have hln : (Sha.more (Sha.first b 16) (t - 16)).length = 64 := by rw [Sha.more_length, Sha.first_length]
          have EN := Aside0.mk (show (Sha.more (Sha.first b 16) (t - 16)).set t (Sha.nxt (Sha.more (Sha.first b 16) (t - 16)) t) = Sha.more (Sha.first b 16) (t + 1 - 16) from by
            rw [show t + 1 - 16 = (t - 16) + 1 from by omega]; simp only [Sha.more]; rw [show 16 + (t - 16) = t from by omega])
          generalize Sha.more (Sha.first b 16) (t - 16) = l at HA hln EN
          have c15 := HA.out.cell (t - 15) (by omega)
          have c2 := HA.out.cell (t - 2) (by omega)
          have c16 := HA.out.cell (t - 16) (by omega)
          have c7 := HA.out.cell (t - 7) (by omega)
          have b15 : ((t - 15 : Nat) : Int) < 64 := by omega
          have b2 : ((t - 2 : Nat) : Int) < 64 := by omega
          have b16 : ((t - 16 : Nat) : Int) < 64 := by omega
          have b7 : ((t - 7 : Nat) : Int) < 64 := by omega
          have bt : (t : Int) < 64 := by omega
          have EX : Aside0 (Sha.nxt l t = Sha.ad (Sha.ad (Sha.ad (l.getD (t - 16) 0) (Sha.xr (Sha.xr (Sha.rr (l.getD (t - 15) 0) 7) (Sha.rr (l.getD (t - 15) 0) 18)) (l.getD (t - 15) 0 / 8))) (l.getD (t - 7) 0)) (Sha.xr (Sha.xr (Sha.rr (l.getD (t - 2) 0) 17) (Sha.rr (l.getD (t - 2) 0) 19)) (l.getD (t - 2) 0 / 1024))) := ⟨rfl⟩
          generalize l.getD (t - 15) 0 = x at c15 EX
          generalize l.getD (t - 2) 0 = y at c2 EX
          generalize l.getD (t - 16) 0 = x16 at c16 EX
          generalize l.getD (t - 7) 0 = x7 at c7 EX
          have HLN := Aside0.mk hln
          clear hln
          go_wp2
          go_still (by kernel_rfl)
          change Exit.then _ _ _ _ wr.drew
          have HA2 : Aside0 (Arr wr.drew w.heap.size 116 l) := HA
          have HB2 : Aside0 (Below w.heap.size w wr.drew) := ⟨below_drew1 HB.out⟩
          have c16' : wr.drew.cell? ⟨w.heap.size, t - 16, none⟩ = some (.int .u32 x16) := c16
          have c7' : wr.drew.cell? ⟨w.heap.size, t - 7, none⟩ = some (.int .u32 x7) := c7
          have ct' := HA2.out.cell t (by have := HLN.out; omega)
          clear c16 c7 c15 c2 HA
          generalize wr.drew = wq at HA2 HB2 c16' c7' ct' ⊢
          go_wp2
          refine Go.YthladfegmedpnaaDoor.wp_region_quiet_tail 29 (by kernel_rfl) (by kernel_rfl) ?_
          simp only [List.take_succ_cons, List.take_zero, List.drop_succ_cons, List.drop_zero]
          repeat (quiet_step (first | with_reducible exact rotl_q7 _ _ _ | with_reducible exact rotl_q18 _ _ _ | with_reducible exact rotl_q17 _ _ _ | with_reducible exact rotl_q19 _ _ _))
          refine wpQuiet_nil ?_
          intro _ hw'
          obtain ⟨nq, hw''⟩ := hw'
          subst hw''
          have hfr := HA2.out.frozen t
          go_wp2
          have EV : Sha.nxt l t = (x16 + Go.bits .xor .u32 (Go.bits .xor .u32 (Sha.rr x 7) (Sha.rr x 18)) (x / 8) + x7 + Go.bits .xor .u32 (Go.bits .xor .u32 (Sha.rr y 17) (Sha.rr y 19)) (y / 1024)) % 4294967296 := by
            rw [EX.out]; simp only [Sha.ad, Sha.xr]; omega
          have HA3 := Aside0.mk ((HA2.out.drewN nq).set t (Sha.nxt l t))
          rw [EN.out, EV] at HA3
          have HB3 := Aside0.mk (below_set (j := t) (v := .int .u32 (Sha.nxt l t)) (pw_below_drewN HB2.out nq) (Nat.le_refl _))
          rw [EV] at HB3
          go_roundw
          case rel => exact ⟨t + 1, by omega, by omega, by go_num, HA3, HB3⟩
          case measure => simp [intOf]; omega
        · have hlt' : decide ((t : Int) < 64) = false := decide_eq_false (by omega)
          have et : t = 64 := by omega
          subst et
          clear hlt
          simp only [Int.cast_ofNat_Int]
          have HW1 : Aside0 (Arr wr w.heap.size 116 (Sha.sched b)) := ⟨HA.out⟩
          clear HA
          have HS1 := Aside0.mk (HS.out.below HB.out)
          obtain ⟨s0, s1, s2, s3, s4, s5, s6, s7, es, v0, v1, v2, v3, v4, v5, v6, v7⟩ := HS1.out.eight HS8.out
          have EA : Aside0 ((#[.int .u32 s0, .int .u32 s1, .int .u32 s2, .int .u32 s3, .int .u32 s4, .int .u32 s5, .int .u32 s6, .int .u32 s7] : Array Value) = encW s) := ⟨by rw [es]; rfl⟩
          have ES := Aside0.mk es
          clear es
          go_wp2
          rw [EA.out]
          have HV0 : Aside0 (Arr (wr.alloc (.cells (encW s) 105)) wr.heap.size 105 (Sha.rounds s (Sha.sched b) 0)) := ⟨World.alloc_heap_new _ _⟩
          have HW2 := Aside0.mk (HW1.out.alloc (.cells (encW s) 105))
          have HB2 := Aside0.mk (below_alloc HB.out (.cells (encW s) 105))
          have HVS := Aside0.mk HB.out.size
          have HNE := Aside0.mk (show w.heap.size ≠ wr.heap.size from by have := HW1.out.lt; omega)
          clear v0 v1 v2 v3 v4 v5 v6 v7 EA HW1 HS1 HB
          generalize wr.heap.size = gv at HV0 HVS HNE ⊢
          generalize wr.alloc (.cells (encW s) 105) = wq at HV0 HW2 HB2 ⊢
          go_loopw [69] (fun i wr => ∃ t : Nat, t ≤ 64 ∧ i = .int .i64 t ∧ Aside0 (Arr wr w.heap.size 116 (Sha.sched b)) ∧ Aside0 (Arr wr gv 105 (Sha.rounds s (Sha.sched b) t)) ∧ Aside0 (Below w.heap.size w wr)) (fun i _ => 64 - (intOf i).toNat)
          case atStart => exact ⟨0, by omega, rfl, HW2, HV0, HB2⟩
          case round =>
            clear HW2 HV0 HB2
            obtain ⟨t, ht, rfl, HWr, HVr, HBr⟩ := hrel
            by_cases hlt : t < 64
            · have hlt' : decide ((t : Int) < 64) = true := decide_eq_true (by omega)
              have EN : Aside0 (Sha.rnd (Sha.rounds s (Sha.sched b) t) (numL.getD t 0) ((Sha.sched b).getD t 0) = Sha.rounds s (Sha.sched b) (t + 1)) := ⟨rfl⟩
              have HU := Aside0.mk (Sha.rounds_u32 HSU.out (Sha.sched b) t)
              have hl8 := Sha.rounds_length HS8.out (Sha.sched b) t
              generalize Sha.rounds s (Sha.sched b) t = l at HVr EN HU hl8
              have HL8 := Aside0.mk hl8
              clear hl8
              obtain ⟨s0, s1, s2, s3, s4, s5, s6, s7, es, v0, v1, v2, v3, v4, v5, v6, v7⟩ := HVr.out.eight HL8.out
              have ES := Aside0.mk es
              clear es
              have ck := (HG.out.below HBr.out).2 t hlt
              have cw := HWr.out.cell t (by rw [Sha.sched_length]; exact hlt)
              generalize numL.getD t 0 = kt at ck EN
              generalize (Sha.sched b).getD t 0 = wt at cw EN
              have bt : (t : Int) < 64 := by omega
              go_wp2
              go_quiet (first | with_reducible exact rotated_q6 _ _ _ | with_reducible exact rotated_q2 _ _ _)
              have n0 : (wr.drewN nq).cell? ⟨gv, 0, none⟩ = some (.int .u32 s0) := v0
              have n1 : (wr.drewN nq).cell? ⟨gv, 1, none⟩ = some (.int .u32 s1) := v1
              have n2 : (wr.drewN nq).cell? ⟨gv, 2, none⟩ = some (.int .u32 s2) := v2
              have n3 : (wr.drewN nq).cell? ⟨gv, 3, none⟩ = some (.int .u32 s3) := v3
              have n4 : (wr.drewN nq).cell? ⟨gv, 4, none⟩ = some (.int .u32 s4) := v4
              have n5 : (wr.drewN nq).cell? ⟨gv, 5, none⟩ = some (.int .u32 s5) := v5
              have n6 : (wr.drewN nq).cell? ⟨gv, 6, none⟩ = some (.int .u32 s6) := v6
              have n7 : (wr.drewN nq).cell? ⟨gv, 7, none⟩ = some (.int .u32 s7) := v7
              have HW' : Aside0 (Arr (wr.drewN nq) w.heap.size 116 (Sha.sched b)) := HWr
              have HV' : Aside0 (Arr (wr.drewN nq) gv 105 l) := HVr
              have HB' : Aside0 (Below w.heap.size w (wr.drewN nq)) := ⟨pw_below_drewN HBr.out nq⟩
              clear v0 v1 v2 v3 v4 v5 v6 v7 HWr HVr HBr ck cw
              generalize wr.drewN nq = wa at n0 n1 n2 n3 n4 n5 n6 n7 HW' HV' HB' ⊢
              have v0 := n0
              have v1 := n1
              have v2 := n2
              have v3 := n3
              have v4 := n4
              have v5 := n5
              have v6 := n6
              have v7 := n7
              have HWr := HW'
              have HVr := HV'
              have HBr := HB'
              clear n0 n1 n2 n3 n4 n5 n6 n7 HW' HV' HB'
              go_wp2
              go_quiet (first | with_reducible exact rotated_q6 _ _ _ | with_reducible exact rotated_q2 _ _ _)
              have n0 : (wa.drewN nq).cell? ⟨gv, 0, none⟩ = some (.int .u32 s0) := v0
              have n1 : (wa.drewN nq).cell? ⟨gv, 1, none⟩ = some (.int .u32 s1) := v1
              have n2 : (wa.drewN nq).cell? ⟨gv, 2, none⟩ = some (.int .u32 s2) := v2
              have n3 : (wa.drewN nq).cell? ⟨gv, 3, none⟩ = some (.int .u32 s3) := v3
              have n4 : (wa.drewN nq).cell? ⟨gv, 4, none⟩ = some (.int .u32 s4) := v4
              have n5 : (wa.drewN nq).cell? ⟨gv, 5, none⟩ = some (.int .u32 s5) := v5
              have n6 : (wa.drewN nq).cell? ⟨gv, 6, none⟩ = some (.int .u32 s6) := v6
              have n7 : (wa.drewN nq).cell? ⟨gv, 7, none⟩ = some (.int .u32 s7) := v7
              have HW' : Aside0 (Arr (wa.drewN nq) w.heap.size 116 (Sha.sched b)) := HWr
              have HV' : Aside0 (Arr (wa.drewN nq) gv 105 l) := HVr
              have HB' : Aside0 (Below w.heap.size w (wa.drewN nq)) := ⟨pw_below_drewN HBr.out nq⟩
              clear v0 v1 v2 v3 v4 v5 v6 v7 HWr HVr HBr
              generalize wa.drewN nq = wb at n0 n1 n2 n3 n4 n5 n6 n7 HW' HV' HB' ⊢
              have v0 := n0
              have v1 := n1
              have v2 := n2
              have v3 := n3
              have v4 := n4
              have v5 := n5
              have v6 := n6
              have v7 := n7
              have HWr := HW'
              have HVr := HV'
              have HBr := HB'
              clear n0 n1 n2 n3 n4 n5 n6 n7 HW' HV' HB'
              go_wp2
              generalize hp : (((s7 + Sha.sg s4 6 11 25 + Go.bits .xor .u32 s6 (Go.bits .and .u32 s4 (Go.bits .xor .u32 s5 s6)) + kt) % 4294967296 + wt) % 4294967296) = pv
              generalize hq : ((Sha.sg s0 2 13 22 + Go.bits .or .u32 (Go.bits .and .u32 s0 s1) (Go.bits .and .u32 s2 (Go.bits .or .u32 s0 s1))) % 4294967296) = qv
              have HP := Aside0.mk hp
              have HQ := Aside0.mk hq
              clear hp hq
              go_still_tail 2, (by kernel_rfl)
              change wpList _ _ _ _ _ wb.drew
              have HVd : Aside0 (Arr wb.drew gv 105 [s0, s1, s2, s3, s4, s5, s6, s7]) := ⟨ES.out ▸ HVr.out⟩
              have HWd : Aside0 (Arr wb.drew w.heap.size 116 (Sha.sched b)) := HWr
              have HBd : Aside0 (Below w.heap.size w wb.drew) := ⟨below_drew1 HBr.out⟩
              clear v0 v1 v2 v3 v4 v5 v6 v7 HWr HVr HBr
              generalize wb.drew = wc at HVd HWd HBd ⊢
              obtain ⟨wd, hcopy, hvd, hod⟩ := copy_eight (P := Tryd.prog) 120 3 103 Tryd.underlying120 (by kernel_rfl) HVd.out
              have HWe := Aside0.mk (show Arr wd w.heap.size 116 (Sha.sched b) from (hod.block _ HWd.out.lt HNE.out).trans HWd.out)
              have HBe := Aside0.mk (show Below w.heap.size w wd from HBd.out.trans (hod.below HBd.out.size HVS.out))
              have c4 : wd.cell? ⟨gv, 4, none⟩ = some (.int .u32 s3) := hvd.cell 4 (by simp)
              have c0 : wd.cell? ⟨gv, 0, none⟩ = some (.int .u32 s0) := hvd.cell 0 (by simp)
              have f4 := hvd.frozen 4
              have f0 := hvd.frozen 0
              have HVe := Aside0.mk hvd
              clear hvd hod HWd HVd HBd
              go_wp2
              have EP : Sha.tp l kt wt = pv := by
                rw [ES.out] at HU ⊢
                have b4 := HU.out.getD 4
                have b5 := HU.out.getD 5
                have b6 := HU.out.getD 6
                have := ch_eq s4 s5 s6 b4 b5 b6
                rw [this] at HP
                show Sha.ad (Sha.ad (Sha.ad (Sha.ad s7 (Sha.sg s4 6 11 25)) (Sha.ch s4 s5 s6)) kt) wt = pv
                rw [← HP.out]; simp only [Sha.ad]; omega
              have EQ : Sha.tq l = qv := by
                rw [ES.out] at HU ⊢
                have b0 := HU.out.getD 0
                have b1 := HU.out.getD 1
                have b2 := HU.out.getD 2
                have := maj_eq s0 s1 s2 b0 b1 b2
                rw [this] at HQ
                show Sha.ad (Sha.sg s0 2 13 22) (Sha.maj s0 s1 s2) = qv
                rw [← HQ.out]; simp only [Sha.ad]
              have ER : [(pv + qv) % 4294967296, s0, s1, s2, (s3 + pv) % 4294967296, s4, s5, s6] = Sha.rounds s (Sha.sched b) (t + 1) := by
                rw [← EN.out]; unfold Sha.rnd; rw [EP, EQ, ES.out]; rfl
              have HV2 := Aside0.mk ((HVe.out.set 4 ((s3 + pv) % 4294967296)).set 0 ((pv + qv) % 4294967296))
              have HV3 : Aside0 (Arr ((wd.setCell ⟨gv, 4, none⟩ (.int .u32 ((s3 + pv) % 4294967296))).setCell ⟨gv, 0, none⟩ (.int .u32 ((pv + qv) % 4294967296))) gv 105 (Sha.rounds s (Sha.sched b) (t + 1))) := ⟨ER ▸ HV2.out⟩
              have HW2 := Aside0.mk ((HWe.out.far (p := ⟨gv, 4, none⟩) HNE.out (.int .u32 ((s3 + pv) % 4294967296))).far (p := ⟨gv, 0, none⟩) HNE.out (.int .u32 ((pv + qv) % 4294967296)))
              have HB2 := Aside0.mk (below_set (j := 0) (v := .int .u32 ((pv + qv) % 4294967296)) (below_set (j := 4) (v := .int .u32 ((s3 + pv) % 4294967296)) HBe.out HVS.out) HVS.out)
              refine ⟨⟨t + 1, by omega, by go_num, HW2, HV3, HB2⟩, ?_⟩
              simp [intOf]; omega
            · have hlt' : decide ((t : Int) < 64) = false := decide_eq_false (by omega)
              have et : t = 64 := by omega
              subst et
              clear hlt
              simp only [Int.cast_ofNat_Int]
              have HA0 : Aside0 (Arr wr gs 105 (Sha.adds s (Sha.rounds s (Sha.sched b) 64) 0)) := ⟨by rw [Sha.adds_zero HS8.out]; exact HS.out.below HBr.out⟩
              have HL := Aside0.mk (Sha.rounds_length HS8.out (Sha.sched b) 64)
              have HO0 := Aside0.mk (Only.of_below (g := gs) HBr.out)
              have HNS := Aside0.mk (show gv ≠ gs from by have := HS.out.lt; have := HVS.out; omega)
              have EB : Aside0 (Sha.adds s (Sha.rounds s (Sha.sched b) 64) 8 = Sha.block s b) := ⟨rfl⟩
              generalize Sha.rounds s (Sha.sched b) 64 = v at HVr HA0 HL EB
              clear HWr HBr
              go_wp2
              go_loopw [129] (fun i wr => ∃ t : Nat, t ≤ 8 ∧ i = .int .i64 t ∧ Aside0 (Arr wr gs 105 (Sha.adds s v t)) ∧ Aside0 (Arr wr gv 105 v) ∧ Aside0 (Only gs w wr)) (fun i _ => 8 - (intOf i).toNat)
              case atStart => exact ⟨0, by omega, rfl, HA0, HVr, HO0⟩
              case round =>
                clear HA0 HVr HO0
                obtain ⟨t, ht, rfl, HAr, HVr, HOr⟩ := hrel
                by_cases hlt : t < 8
                · have hlt' : decide ((t : Int) < 8) = true := decide_eq_true (by omega)
                  have EN := Aside0.mk (Sha.adds_succ s v t hlt)
                  have hla := Sha.adds_length s v t
                  generalize Sha.adds s v t = l at HAr EN hla
                  have HLA := Aside0.mk hla
                  clear hla
                  have bt : (t : Int) < 8 := by omega
                  have ca := HAr.out.cell t (by rw [HLA.out]; exact hlt)
                  have cv := HVr.out.cell t (by rw [HL.out]; exact hlt)
                  generalize l.getD t 0 = x at ca EN
                  generalize v.getD t 0 = y at cv EN
                  go_wp2
                  go_still_tail 11, (by kernel_rfl)
                  change wpList _ _ _ _ _ wr.drew
                  have HAd : Aside0 (Arr wr.drew gs 105 l) := HAr
                  have HVd : Aside0 (Arr wr.drew gv 105 v) := HVr
                  have HOd : Aside0 (Only gs w wr.drew) := ⟨HOr.out.drewN 1⟩
                  have cd : wr.drew.cell? ⟨gs, t, none⟩ = some (.int .u32 x) := ca
                  have fd := HAd.out.frozen t
                  clear ca cv HAr HVr HOr
                  generalize wr.drew = wc at HAd HVd HOd cd fd ⊢
                  go_wp2
                  have HA2 := Aside0.mk (HAd.out.set t (Sha.ad x y))
                  rw [EN.out] at HA2
                  have HV2 := Aside0.mk (HVd.out.far (p := ⟨gs, t, none⟩) HNS.out (.int .u32 (Sha.ad x y)))
                  have HO2 := Aside0.mk (HOd.out.setCell t (.int .u32 (Sha.ad x y)))
                  simp only [Sha.ad] at HA2 HV2 HO2
                  refine ⟨⟨t + 1, by omega, by go_num, HA2, HV2, HO2⟩, ?_⟩
                  simp [intOf]; omega
                · have hlt' : decide ((t : Int) < 8) = false := decide_eq_false (by omega)
                  have et : t = 8 := by omega
                  subst et
                  clear hlt
                  simp only [Int.cast_ofNat_Int]
                  rw [EB.out] at HAr
                  go_wp2
                  go_end0
                  exact ⟨rfl, HAr.out, HOr.out⟩

end Go.Proofs.YthladfegmedpnaaDoor.P

namespace Go.Proofs.YthladfegmedpnaaDoor.P
open Go.RowKit Go.Proofs.YthladfegmedpnaaDoorW.PrintWords Go.Proofs.YthladfegmedpnaaDoorW.PrintLast Go.Proofs.YthladfegmedpnaaDoorW.PrintMore Go.Proofs.YthladfegmedpnaaDoor
set_option linter.unusedVariables false
set_option linter.unusedSimpArgs false

/-- the state behind whole blocks. -/
def blocksF (s b : List Int) : List Int := Sha.blocks (b.length / 64) s b
theorem blocksF_step (s b : List Int) (h : 64 ≤ b.length) : blocksF s b = blocksF (Sha.block s (b.take 64)) (b.drop 64) := by
  unfold blocksF
  rw [show b.length / 64 = (b.drop 64).length / 64 + 1 from by rw [List.length_drop]; omega]
  rfl
theorem blocksF_done (s b : List Int) (h : b.length < 64) : blocksF s b = s := by
  unfold blocksF
  rw [show b.length / 64 = 0 from by omega]
  rfl
/-- what is put behind the bytes. -/
def tailB (n : Nat) : List Int := 128 :: (List.replicate (Sha.zeros n) 0 ++ Sha.be8 (n * 8 : Nat))
theorem padded_eq (l : List Int) : Sha.padded l = l ++ tailB l.length := rfl
theorem tailB_length (n : Nat) : (tailB n).length = Sha.zeros n + 9 := by simp [tailB, Sha.be8]

theorem tailB_bytes (n : Nat) : Bytes (tailB n) := by
  intro x hx
  unfold tailB at hx
  rcases List.mem_cons.1 hx with rfl | hx
  · omega
  · rcases List.mem_append.1 hx with hx | hx
    · have := (List.mem_replicate.1 hx).2; omega
    · simp only [Sha.be8, List.mem_cons, List.not_mem_nil, or_false] at hx
      omega
/-- the digest behind t of its words. -/
def digL (F : List Int) (t : Nat) : List Int := ((F.take t).map Sha.be4).flatten ++ List.replicate (32 - 4 * t) 0
theorem be4_flat_length (F : List Int) : ((F.map Sha.be4).flatten).length = 4 * F.length := by
  induction F with
  | nil => rfl
  | cons a F ih => simp [Sha.be4] at *; omega
theorem digL_length (F : List Int) (t : Nat) (ht : t ≤ 8) (hF : F.length = 8) : (digL F t).length = 32 := by
  unfold digL
  rw [List.length_append, be4_flat_length, List.length_take, List.length_replicate]; omega
theorem digL_put (F : List Int) (t : Nat) (ht : t < 8) (hF : F.length = 8) : putL (digL F t) (4 * t) 4 (F.getD t 0) 4 = digL F (t + 1) := by
  have hp : (((F.take t).map Sha.be4).flatten).length = 4 * t := by rw [be4_flat_length, List.length_take]; omega
  have e : digL F t = ((F.take t).map Sha.be4).flatten ++ List.replicate 4 0 ++ List.replicate (32 - 4 * (t + 1)) 0 := by
    unfold digL
    rw [show 32 - 4 * t = 4 + (32 - 4 * (t + 1)) from by omega, ← List.replicate_append_replicate]
    simp
  rw [e, ← hp, putL4 _ _ _ _ (by simp)]
  unfold digL
  rw [List.take_succ_eq_append_getElem (by omega : t < F.length), List.map_append, List.flatten_append]
  simp only [List.getD_eq_getElem?_getD, List.getElem?_eq_getElem (show t < F.length by omega), List.map_cons, List.map_nil, List.flatten_cons, List.flatten_nil, List.append_nil, Option.getD_some]
theorem digL_all (F : List Int) (hF : F.length = 8) : digL F 8 = (F.map Sha.be4).flatten := by
  unfold digL
  rw [List.take_of_length_le (by omega)]
  simp
theorem startL_u32 : Sha.U32 startL := by
  intro x hx
  simp only [startL, List.mem_cons, List.not_mem_nil, or_false] at hx
  omega

theorem make_end {P : Program} (t e : TypeId) (i : TypeInfo) (ht : P.underlying t = some (.slice e)) (hi : P.info? e = some i) (hz : i.zero = some (.int .u8 0)) (hs : i.size = 1) (hb : i.bytes = 1) (w : World) :
    ∃ w1, (Instr.makeSlice t (.int .i64 64) (.int .i64 128)).run P w = .ok (.slice (some ⟨w.heap.size, 0, none⟩) 64 128) w1 ∧ Brr w1 w.heap.size e (List.replicate 128 0) ∧ Below w.heap.size w w1 := by
  refine ⟨_, run_makeSlice (P := P) (w := w) t e i (.int .u8 0) ht hi hz .i64 .i64 64 128 (by omega) (by omega) (by rw [hs]; decide) (by rw [hb]; decide) (by omega), ?_, below_alloc (Below.refl _ _) _⟩
  rw [hs]
  have e : madeCells (Value.int .u8 0).cells (Int.toNat 128 * 1) = encB (List.replicate 128 0) := by kernel_rfl
  rw [e]
  exact World.alloc_heap_new _ _

/-- What stays where one block alone has turned. -/
theorem C_only {g o g' : Nat} {w w1 : World} {n : Nat} {xs : List Int} (h : Kd.C (Kd.int .u8) w (some ⟨g, o, none⟩) n xs) (ho : Only g' w w1) (hne : g ≠ g') : Kd.C (Kd.int .u8) w1 (some ⟨g, o, none⟩) n xs := by
  obtain ⟨hl, hm, hc⟩ := Kd.reads_of_C (enc := Value.int .u8) (d := (0 : Int)) (h1 := fun _ => rfl) h
  refine Kd.C_of_reads (enc := Value.int .u8) (d := (0 : Int)) (h1 := fun _ => rfl) ⟨hl, hm, fun hp => ?_⟩
  obtain ⟨ad, e, hcell⟩ := hc hp
  injection e with e
  subst e
  refine ⟨_, rfl, fun j hj => ?_⟩
  have := hcell j hj
  rw [addr_add] at this ⊢
  rw [← this]
  exact World.cell?_of_block (ho.block g (lt_of_cell this) hne)
theorem C_empty (w : World) (A : Option Addr) : Kd.C (Kd.int .u8) w A 0 [] := ⟨rfl, by decide, fun h => absurd h (by decide)⟩
theorem cut_low {P : Program} (t e : TypeId) (kl : IntKind) {i : TypeInfo} (ht : P.underlying t = some (.slice e)) (hi : P.info? e = some i) (hsz : i.size = 1) (A : Option Addr) (n c : Nat) (m : Int) (h0 : 0 ≤ m) (hm : m ≤ n) (W : World) :
    (Instr.slice t (.slice A n c) (some (.int kl m)) none none).run P W = .ok (.slice (if c = m.toNat then A else A.map (·.add m.toNat)) (n - m.toNat) (c - m.toNat)) W := by
  have hel : P.elem t = e := by simp [Program.elem, ht]
  have hu : P.underlying t = some (.slice (P.elem t)) := by rw [hel]; exact ht
  rw [run_slice_l W t A n c hu kl m h0 hm, hel]
  simp [sizeOf, typeInfo, hi, hsz, sliced, Result.andThen]
/-- what lies in the end's 128 bytes once the count is put. -/
theorem end_list (r : List Int) (n L : Nat) (hL : L = 64 ∨ L = 128) (hr : r.length + 9 ≤ L) (hz : Sha.zeros n + r.length + 9 = L) (x : Int) (hx : x = ((n * 8 : Nat) : Int)) :
    putL (r ++ 128 :: List.replicate (127 - r.length) 0) (L - 8) 8 x 8 = (r ++ tailB n) ++ List.replicate (128 - L) 0 := by
  have hL2 : L ≤ 128 := by omega
  have e : r ++ 128 :: List.replicate (127 - r.length) (0 : Int) = (r ++ 128 :: List.replicate (Sha.zeros n) 0) ++ List.replicate 8 0 ++ List.replicate (128 - L) 0 := by
    rw [show 127 - r.length = Sha.zeros n + (8 + (128 - L)) from by omega, ← List.replicate_append_replicate, ← List.replicate_append_replicate]
    simp
  have hp : (r ++ 128 :: List.replicate (Sha.zeros n) (0 : Int)).length = L - 8 := by simp; omega
  rw [e, ← hp, putL8 _ _ _ _ (by simp), hx]
  simp [tailB]

theorem copy_bytes {P : Program} (dT ty elem : TypeId) (hu : P.underlying dT = some (.slice elem)) (hs : (P.info? elem).map (·.size) = some 1) {w : World} {g : Nat} {t : TypeId} {A : Option Addr} {c : Nat} {r m : List Int} (h : Brr w g t m) (hr : Kd.C (Kd.int .u8) w A r.length r) (n cap : Nat) (hn : r.length ≤ n) (hm : n ≤ m.length) :
    ∃ w1, (Builtin.copy_ #[dT, dT] ty #[.slice (some ⟨g, 0, none⟩) n cap, .slice A r.length c]).run P w = .ok (.int .i64 r.length) w1 ∧ Brr w1 g t (r ++ m.drop r.length) ∧ Only g w w1 := by
  rcases Nat.eq_zero_or_pos r.length with h0 | h0
  · have : r = [] := List.length_eq_zero_iff.1 h0
    subst this
    exact ⟨w, run_copy_none (P := P) w dT dT ty elem _ _ n cap 0 c hu hs (by simp), by simpa using h, Only.refl _ _⟩
  · obtain ⟨hl, _, hc⟩ := Kd.reads_of_C (enc := Value.int .u8) (d := (0 : Int)) (h1 := fun _ => rfl) hr
    obtain ⟨ad, rfl, hcell⟩ := hc h0
    refine ⟨_, by
      have := run_copy_row (P := P) w dT dT ty elem g 0 n cap ad r.length c (encB m) t (r.map (Value.int .u8)) hu hs h (by rw [List.length_map]; exact (Nat.min_eq_left hn).symm) ?_ ?_ ?_
      · rw [List.length_map] at this; exact this
      · intro j v hj
        have hj2 : j < r.length := by have := (List.getElem?_eq_some_iff.1 hj).1; simpa using this
        rw [hcell j hj2, ← hj]
        simp [List.getD_eq_getElem?_getD, List.getElem?_eq_getElem hj2]
      · simp [encB]; omega
      · intro v hv
        obtain ⟨x, _, rfl⟩ := List.mem_map.1 hv
        rfl, ?_, Only.setRow _ _ _⟩
    have := setRow_heap w g (encB m) (((encB m).toList.take 0 ++ r.map (Value.int .u8) ++ (encB m).toList.drop (0 + (r.map (Value.int .u8)).length)).toArray) t (0, 0) h
    rw [List.length_map] at this
    refine this.trans ?_
    congr 2
    simp [encB, List.map_drop]

theorem index_eight (f0 f1 f2 f3 f4 f5 f6 f7 : Int) (t : Nat) (ht : t < 8) (W : World) : (Instr.index 105 (.agg #[.int .u32 f0, .int .u32 f1, .int .u32 f2, .int .u32 f3, .int .u32 f4, .int .u32 f5, .int .u32 f6, .int .u32 f7]) (.int .i64 t)).run Tryd.prog W = .ok (.int .u32 ([f0, f1, f2, f3, f4, f5, f6, f7].getD t 0)) W := by
  have hi : (Tryd.prog.info? 103).map (·.size) = some 1 := by kernel_rfl
  obtain ⟨i, hi1, hi2⟩ := Option.map_eq_some_iff.1 hi
  have hu : Tryd.prog.underlying 105 = some (.array 8 103) := by kernel_rfl
  simp only [Instr.index, asIntOf, Sem.run_bind, Sem.run_pure, Result.andThen_ok, run_underlying hu]
  match t, ht with
  | 0, _ | 1, _ | 2, _ | 3, _ | 4, _ | 5, _ | 6, _ | 7, _ => simp [sizeOf, typeInfo, hi1, hi2, part, isAgg, run_underlying Tryd.underlying103]

theorem encB_one (l : List Int) : ∀ v ∈ (encB l).toList, v.oneCell' = true := by
  intro v hv
  simp only [encB, List.mem_map] at hv
  obtain ⟨x, _, rfl⟩ := hv
  rfl
theorem slice_digest (g t : Nat) (ht : t < 8) (W : World) : (Instr.sliceAt 70 (.pointer (some ⟨g, 0, none⟩)) (some (.int .i64 (4 * (t : Int)))) (some (.int .i64 (4 * (t : Int) + 4))) none).run Tryd.prog W = .ok (.slice (some ⟨g, 4 * t, none⟩) 4 (32 - 4 * t)) W := by
  have hel : Tryd.prog.elem 70 = 5 := by kernel_rfl
  have hln : Tryd.prog.arrayLen 70 = 32 := by kernel_rfl
  have hi : (Tryd.prog.info? 5).map (·.size) = some 1 := by kernel_rfl
  obtain ⟨i, hi1, hi2⟩ := Option.map_eq_some_iff.1 hi
  have hu : Tryd.prog.underlying 70 = some (.array (Tryd.prog.arrayLen 70) (Tryd.prog.elem 70)) := by kernel_rfl
  rw [run_sliceAt_array_lh (ht := hu) (h0 := by omega) (h1 := by omega) (h2 := by rw [hln]; omega), hel, hln]
  have e1 : (4 * (t : Int)).toNat = 4 * t := by omega
  have e2 : (4 * (t : Int) + 4).toNat = 4 * t + 4 := by omega
  have e3 : ¬ 32 = 4 * t := by omega
  simp [sizeOf, typeInfo, hi1, hi2, slicedAt, e1, e2, e3, addr_add]

set_option maxHeartbeats 8000000 in
set_option maxRecDepth 100000 in
theorem digest_Sum_makes (A : Option Addr) (c : Nat) (l : List Int) (w : World) (hr : Kd.C (Kd.int .u8) w A l.length l) (hc : l.length ≤ c) (hl : l.length ≤ 100000) (hb : Bytes l) (hG : Glob w) :
    Calls Tryd.prog 78 #[.slice A l.length c] w fun e w' => e = .returned (.agg (encB (Sha.sum l))) ∧ Below w.heap.size w w' := by
  have HR := Aside0.mk hr
  have HC := Aside0.mk hc
  have HL := Aside0.mk hl
  have HBB := Aside0.mk hb
  have HG := Aside0.mk hG
  clear hr hc hl hb
  have k0 : (w.alloc (.cells #[.int .u8 0, .int .u8 0, .int .u8 0, .int .u8 0, .int .u8 0, .int .u8 0, .int .u8 0, .int .u8 0, .int .u8 0, .int .u8 0, .int .u8 0, .int .u8 0, .int .u8 0, .int .u8 0, .int .u8 0, .int .u8 0, .int .u8 0, .int .u8 0, .int .u8 0, .int .u8 0, .int .u8 0, .int .u8 0, .int .u8 0, .int .u8 0, .int .u8 0, .int .u8 0, .int .u8 0, .int .u8 0, .int .u8 0, .int .u8 0, .int .u8 0, .int .u8 0] 70)).cell? ⟨0, 0, none⟩ = some (.int .u32 1779033703) := (Below.cell (below_alloc (Below.refl _ _) _) (lt_of_cell (hG.1 0 (by decide)))).trans (hG.1 0 (by decide))
  have k1 : (w.alloc (.cells #[.int .u8 0, .int .u8 0, .int .u8 0, .int .u8 0, .int .u8 0, .int .u8 0, .int .u8 0, .int .u8 0, .int .u8 0, .int .u8 0, .int .u8 0, .int .u8 0, .int .u8 0, .int .u8 0, .int .u8 0, .int .u8 0, .int .u8 0, .int .u8 0, .int .u8 0, .int .u8 0, .int .u8 0, .int .u8 0, .int .u8 0, .int .u8 0, .int .u8 0, .int .u8 0, .int .u8 0, .int .u8 0, .int .u8 0, .int .u8 0, .int .u8 0, .int .u8 0] 70)).cell? ⟨0, 1, none⟩ = some (.int .u32 3144134277) := (Below.cell (below_alloc (Below.refl _ _) _) (lt_of_cell (hG.1 1 (by decide)))).trans (hG.1 1 (by decide))
  have k2 : (w.alloc (.cells #[.int .u8 0, .int .u8 0, .int .u8 0, .int .u8 0, .int .u8 0, .int .u8 0, .int .u8 0, .int .u8 0, .int .u8 0, .int .u8 0, .int .u8 0, .int .u8 0, .int .u8 0, .int .u8 0, .int .u8 0, .int .u8 0, .int .u8 0, .int .u8 0, .int .u8 0, .int .u8 0, .int .u8 0, .int .u8 0, .int .u8 0, .int .u8 0, .int .u8 0, .int .u8 0, .int .u8 0, .int .u8 0, .int .u8 0, .int .u8 0, .int .u8 0, .int .u8 0] 70)).cell? ⟨0, 2, none⟩ = some (.int .u32 1013904242) := (Below.cell (below_alloc (Below.refl _ _) _) (lt_of_cell (hG.1 2 (by decide)))).trans (hG.1 2 (by decide))
  have k3 : (w.alloc (.cells #[.int .u8 0, .int .u8 0, .int .u8 0, .int .u8 0, .int .u8 0, .int .u8 0, .int .u8 0, .int .u8 0, .int .u8 0, .int .u8 0, .int .u8 0, .int .u8 0, .int .u8 0, .int .u8 0, .int .u8 0, .int .u8 0, .int .u8 0, .int .u8 0, .int .u8 0, .int .u8 0, .int .u8 0, .int .u8 0, .int .u8 0, .int .u8 0, .int .u8 0, .int .u8 0, .int .u8 0, .int .u8 0, .int .u8 0, .int .u8 0, .int .u8 0, .int .u8 0] 70)).cell? ⟨0, 3, none⟩ = some (.int .u32 2773480762) := (Below.cell (below_alloc (Below.refl _ _) _) (lt_of_cell (hG.1 3 (by decide)))).trans (hG.1 3 (by decide))
  have k4 : (w.alloc (.cells #[.int .u8 0, .int .u8 0, .int .u8 0, .int .u8 0, .int .u8 0, .int .u8 0, .int .u8 0, .int .u8 0, .int .u8 0, .int .u8 0, .int .u8 0, .int .u8 0, .int .u8 0, .int .u8 0, .int .u8 0, .int .u8 0, .int .u8 0, .int .u8 0, .int .u8 0, .int .u8 0, .int .u8 0, .int .u8 0, .int .u8 0, .int .u8 0, .int .u8 0, .int .u8 0, .int .u8 0, .int .u8 0, .int .u8 0, .int .u8 0, .int .u8 0, .int .u8 0] 70)).cell? ⟨0, 4, none⟩ = some (.int .u32 1359893119) := (Below.cell (below_alloc (Below.refl _ _) _) (lt_of_cell (hG.1 4 (by decide)))).trans (hG.1 4 (by decide))
  have k5 : (w.alloc (.cells #[.int .u8 0, .int .u8 0, .int .u8 0, .int .u8 0, .int .u8 0, .int .u8 0, .int .u8 0, .int .u8 0, .int .u8 0, .int .u8 0, .int .u8 0, .int .u8 0, .int .u8 0, .int .u8 0, .int .u8 0, .int .u8 0, .int .u8 0, .int .u8 0, .int .u8 0, .int .u8 0, .int .u8 0, .int .u8 0, .int .u8 0, .int .u8 0, .int .u8 0, .int .u8 0, .int .u8 0, .int .u8 0, .int .u8 0, .int .u8 0, .int .u8 0, .int .u8 0] 70)).cell? ⟨0, 5, none⟩ = some (.int .u32 2600822924) := (Below.cell (below_alloc (Below.refl _ _) _) (lt_of_cell (hG.1 5 (by decide)))).trans (hG.1 5 (by decide))
  have k6 : (w.alloc (.cells #[.int .u8 0, .int .u8 0, .int .u8 0, .int .u8 0, .int .u8 0, .int .u8 0, .int .u8 0, .int .u8 0, .int .u8 0, .int .u8 0, .int .u8 0, .int .u8 0, .int .u8 0, .int .u8 0, .int .u8 0, .int .u8 0, .int .u8 0, .int .u8 0, .int .u8 0, .int .u8 0, .int .u8 0, .int .u8 0, .int .u8 0, .int .u8 0, .int .u8 0, .int .u8 0, .int .u8 0, .int .u8 0, .int .u8 0, .int .u8 0, .int .u8 0, .int .u8 0] 70)).cell? ⟨0, 6, none⟩ = some (.int .u32 528734635) := (Below.cell (below_alloc (Below.refl _ _) _) (lt_of_cell (hG.1 6 (by decide)))).trans (hG.1 6 (by decide))
  have k7 : (w.alloc (.cells #[.int .u8 0, .int .u8 0, .int .u8 0, .int .u8 0, .int .u8 0, .int .u8 0, .int .u8 0, .int .u8 0, .int .u8 0, .int .u8 0, .int .u8 0, .int .u8 0, .int .u8 0, .int .u8 0, .int .u8 0, .int .u8 0, .int .u8 0, .int .u8 0, .int .u8 0, .int .u8 0, .int .u8 0, .int .u8 0, .int .u8 0, .int .u8 0, .int .u8 0, .int .u8 0, .int .u8 0, .int .u8 0, .int .u8 0, .int .u8 0, .int .u8 0, .int .u8 0] 70)).cell? ⟨0, 7, none⟩ = some (.int .u32 1541459225) := (Below.cell (below_alloc (Below.refl _ _) _) (lt_of_cell (hG.1 7 (by decide)))).trans (hG.1 7 (by decide))
  clear hG
  go_enter Tryd.func78, Tryd.ntmps78
  go_wp2
  clear k0 k1 k2 k3 k4 k5 k6 k7
  have HD0 : Aside0 (Brr ((w.alloc (.cells (encB (List.replicate 32 0)) 70)).alloc (.cells (encW startL) 105)) w.heap.size 70 (List.replicate 32 0)) := ⟨blk_alloc (World.alloc_heap_new _ _) _⟩
  have HS0 : Aside0 (Arr ((w.alloc (.cells (encB (List.replicate 32 0)) 70)).alloc (.cells (encW startL) 105)) (w.heap.size + 1) 105 startL) := ⟨by have := World.alloc_heap_new (w.alloc (.cells (encB (List.replicate 32 0)) 70)) (.cells (encW startL) 105); rwa [World.size_alloc] at this⟩
  have HB0 := Aside0.mk (below_alloc (below_alloc (Below.refl _ w) (.cells (encB (List.replicate 32 0)) 70)) (.cells (encW startL) 105))
  change Code.wp _ _ _ _ ((w.alloc (.cells (encB (List.replicate 32 0)) 70)).alloc (.cells (encW startL) 105))
  generalize (w.alloc (.cells (encB (List.replicate 32 0)) 70)).alloc (.cells (encW startL) 105) = w0 at HD0 HS0 HB0 ⊢
  obtain ⟨i03, hi03, hz3, hsz3, hby3⟩ := info_parts info5
  have HI := Aside0.mk (And.intro hi03 hsz3)
  have HZ := Aside0.mk (And.intro hz3 hby3)
  clear hi03 hsz3 hz3 hby3
  have HF : Aside0 (blocksF startL (l ++ tailB l.length) = blocksF startL (Sha.padded l)) := ⟨rfl⟩
  generalize blocksF startL (Sha.padded l) = F at HF
  have HEQ : Aside0 (F = F) := ⟨rfl⟩
  have HF0 : Aside0 (Sha.sum l = (F.map Sha.be4).flatten) := ⟨by rw [← HF.out]; rfl⟩
  go_loopw [5] (fun v wr => ∃ (A' : Option Addr) (c' : Nat) (r s : List Int), v = .slice A' r.length c' ∧ r.length ≤ l.length ∧ Aside0 (r.length ≤ c') ∧ Aside0 (Kd.C (Kd.int .u8) w A' r.length r) ∧ Aside0 (Bytes r) ∧ Aside0 (r.length % 64 = l.length % 64) ∧ Aside0 (Arr wr (w.heap.size + 1) 105 s) ∧ Aside0 (s.length = 8) ∧ Aside0 (Sha.U32 s) ∧ Aside0 (blocksF s (r ++ tailB l.length) = F) ∧ Aside0 (Brr wr w.heap.size 70 (List.replicate 32 0)) ∧ Aside0 (Below w.heap.size w wr)) (fun v _ => match v with | .slice _ n _ => n | _ => 0)
  case atStart => exact ⟨A, c, l, startL, rfl, Nat.le_refl _, HC, HR, HBB, ⟨rfl⟩, HS0, ⟨rfl⟩, ⟨startL_u32⟩, HF, HD0, HB0⟩
  case round =>
    clear HS0 HD0 HB0 HF
    obtain ⟨A', c', r, s, rfl, hrl, HC', HR', HBr, HM, HS, HS8, HSU, HFr, HD, HB⟩ := hrel
    by_cases hlt : 64 ≤ r.length
    · have hlt' : decide ((64 : Int) ≤ (r.length : Int)) = true := decide_eq_true (by omega)
      obtain ⟨hcutT, hAT, hCT⟩ := print_take_of (P := Tryd.prog) (Value.int .u8) 0 43 5 .i64 Tryd.underlying43 HI.out.1 HI.out.2 A' c' r 64 (by omega) (by omega) HC'.out
      obtain ⟨A2, hcutD, hAD, hCD⟩ := print_drop_of (P := Tryd.prog) (Value.int .u8) 0 43 5 .i64 Tryd.underlying43 HI.out.1 HI.out.2 A' c' r 64 (by omega) (by omega) HC'.out
      have HAT := Aside0.mk hAT
      have HAD := Aside0.mk hAD
      have HCT := Aside0.mk hCT
      have HCD := Aside0.mk hCD
      clear hAT hAD hCT hCD
      have h64 : (r.take 64).length = 64 := by rw [List.length_take]; omega
      have HRw := Aside0.mk (Kd.C_below HR'.out HB.out)
      have HRt := Aside0.mk (Kd.C_take (m := 64) HRw.out hlt)
      have H64 := Aside0.mk h64
      clear h64
      go_wp2_with fail
      have hcall := absorb_makes (w.heap.size + 1) s A' c' (r.take 64) wr HS.out HS8.out HSU.out HRt.out (by have := HC'.out; rw [H64.out]; omega) H64.out (HBr.out.take 64) (HG.out.below HB.out)
      rw [H64.out] at hcall
      refine hcall.mono ?_
      clear hcall
      rintro e w2 ⟨rfl, hs2, ho2⟩
      have HS2 := Aside0.mk hs2
      have HB2 := Aside0.mk (HB.out.trans (ho2.below HB.out.size (Nat.le_succ _)))
      have HD2 := Aside0.mk (HD.out.only ho2 (by omega))
      have HR2 := Aside0.mk (Kd.C_of_reads (h1 := fun _ => rfl) (HAD.out w (Kd.reads_of_C HR'.out)))
      have HU2 := Aside0.mk (Sha.block_u32 HSU.out (r.take 64))
      have HF2 : Aside0 (blocksF (Sha.block s (r.take 64)) (r.drop 64 ++ tailB l.length) = F) := ⟨by
        rw [← HFr.out, blocksF_step s (r ++ tailB l.length) (by simp; omega)]
        rw [List.take_append_of_le_length hlt, List.drop_append_of_le_length hlt]⟩
      have hl2 : (r.drop 64).length = r.length - 64 := List.length_drop
      have hn64 : (64 : Int).toNat = 64 := rfl
      rw [hn64] at HR2 HCD hcutD
      have HL2 := Aside0.mk hl2
      clear hs2 ho2 hl2 hn64 HRw HRt HS HD HB
      go_wp2
      go_roundw
      case rel =>
        exact ⟨A2, c' - 64, r.drop 64, Sha.block s (r.take 64), by rw [HL2.out], by rw [HL2.out]; omega, HCD, HR2, ⟨HBr.out.drop 64⟩, ⟨by rw [HL2.out]; have := HM.out; omega⟩, HS2, ⟨Sha.block_length _ _⟩, HU2, HF2, HD2, HB2⟩
      case measure => simp; omega
    · have hlt' : decide ((64 : Int) ≤ (r.length : Int)) = false := decide_eq_false (by omega)
      obtain ⟨we, hmake, hbe, hwe⟩ := make_end (P := Tryd.prog) 43 5 i03 Tryd.underlying43 HI.out.1 HZ.out.1 HI.out.2 HZ.out.2 wr
      have HBe := Aside0.mk (HB.out.trans (hwe.mono HB.out.size))
      have HSe := Aside0.mk (HS.out.below hwe)
      have HDe := Aside0.mk (HD.out.below hwe)
      have HGE := Aside0.mk (show w.heap.size + 1 < wr.heap.size from HS.out.lt)
      generalize wr.heap.size = ge at hmake hbe HGE
      have HRe := Aside0.mk (Kd.C_below HR'.out HBe.out)
      obtain ⟨w3, hcopy, hb3, ho3⟩ := copy_bytes (P := Tryd.prog) 43 3 5 Tryd.underlying43 (by kernel_rfl) (c := c') hbe HRe.out 64 128 (by omega) (by simp)
      have HB3 := Aside0.mk (HBe.out.trans (ho3.below HBe.out.size (by have := HGE.out; omega)))
      have HS3 := Aside0.mk (HSe.out.only ho3 (by have := HGE.out; omega))
      have HD3 := Aside0.mk (HDe.out.only ho3 (by have := HGE.out; omega))
      have hr63 : (r.length : Int) < 64 := by omega
      have hcl := hb3.cell r.length (by simp; omega)
      have hfr := hb3.frozen r.length
      have HE3 := Aside0.mk hb3
      clear hb3 ho3 hbe hwe HBe HSe HDe HS HD HB HRe
      generalize (r ++ List.drop r.length (List.replicate 128 (0 : Int))).getD r.length 0 = z at hcl
      have HE4 := Aside0.mk (HE3.out.set r.length 128)
      have HB4 := Aside0.mk (below_set (j := r.length) (v := .int .u8 128) HB3.out (show w.heap.size ≤ ge from by have := HGE.out; omega))
      have HS4 := Aside0.mk (HS3.out.far (p := ⟨ge, r.length, none⟩) (by have := HGE.out; simp; omega) (.int .u8 128))
      have HD4 := Aside0.mk (HD3.out.far (p := ⟨ge, r.length, none⟩) (by have := HGE.out; simp; omega) (.int .u8 128))
      have EL : (r ++ List.drop r.length (List.replicate 128 (0 : Int))).set r.length 128 = r ++ 128 :: List.replicate (127 - r.length) 0 := by
        rw [List.drop_replicate, show 128 - r.length = (127 - r.length) + 1 from by omega, List.replicate_succ]
        simp
      rw [EL] at HE4
      clear EL HE3 HB3 HS3 HD3
      by_cases h55 : r.length ≤ 55
      · have h55' : decide ((55 : Int) < (r.length : Int)) = false := decide_eq_false (by omega)
        have hx : (IntKind.u64.wrap (IntKind.u64.wrap (l.length : Int) * 8)) = ((l.length * 8 : Nat) : Int) := by
          have := HL.out; rw [wrap_u64, wrap_u64]; omega
        have HX := Aside0.mk hx
        have hlen : (r ++ 128 :: List.replicate (127 - r.length) (0 : Int)).length = 128 := by simp; omega
        have HLN := Aside0.mk hlen
        clear hx hlen
        go_wp2_with fail
        refine (put_makes ge 56 8 72 5 _ _ _ HE4.out (by rw [HLN.out]; omega) (by omega) (by rw [HLN.out]; omega)).mono ?_
        rintro e w5 ⟨rfl, hb5, ho5⟩
        rw [end_list r l.length 64 (by omega) (by omega) (by unfold Sha.zeros; have := HM.out; omega) _ HX.out] at hb5
        have HB5 := Aside0.mk (HB4.out.trans (ho5.below HB4.out.size (by have := HGE.out; omega)))
        have HS5 := Aside0.mk (HS4.out.only ho5 (by have := HGE.out; omega))
        have HD5 := Aside0.mk (HD4.out.only ho5 (by have := HGE.out; omega))
        have HLT : Aside0 ((r ++ tailB l.length).length = 64) := ⟨by rw [List.length_append, tailB_length]; unfold Sha.zeros; have := HM.out; omega⟩
        have HE5 := Aside0.mk (hb5.row 0 64 (by rw [List.length_append, HLT.out]; omega) (by rw [List.length_append, HLT.out]; simp))
        rw [List.drop_zero, List.take_left' HLT.out] at HE5
        have HBT : Aside0 (Bytes (r ++ tailB l.length)) := ⟨HBr.out.append (tailB_bytes _)⟩
        clear hb5 ho5 HB4 HS4 HD4 HE4
        go_wp2
        generalize r ++ tailB l.length = T at HFr HLT HE5 HBT
        have HT0 : Aside0 (Kd.C (Kd.int .u8) w5 (some ⟨ge, 0, none⟩) T.length T) := HE5
        go_loopw [6] (fun v wr => ∃ (A2 : Option Addr) (c2 : Nat) (e s : List Int), v = .slice A2 e.length c2 ∧ e.length ≤ 128 ∧ Aside0 (e.length ≤ c2) ∧ Aside0 (Kd.C (Kd.int .u8) w5 A2 e.length e) ∧ Aside0 (e.length = 0 ∨ ∃ o, A2 = some ⟨ge, o, none⟩) ∧ Aside0 (Bytes e) ∧ Aside0 (e.length % 64 = 0) ∧ Aside0 (Arr wr (w.heap.size + 1) 105 s) ∧ Aside0 (s.length = 8) ∧ Aside0 (Sha.U32 s) ∧ Aside0 (blocksF s e = F) ∧ Aside0 (Brr wr w.heap.size 70 (List.replicate 32 0)) ∧ Aside0 (Only (w.heap.size + 1) w5 wr)) (fun v _ => match v with | .slice _ n _ => n | _ => 0)
        case atStart => exact ⟨some ⟨ge, 0, none⟩, 128, T, s, by rw [HLT.out], by rw [HLT.out]; omega, ⟨by rw [HLT.out]; omega⟩, HT0, ⟨Or.inr ⟨0, rfl⟩⟩, HBT, ⟨by rw [HLT.out]⟩, HS5, HS8, HSU, HFr, HD5, ⟨Only.refl _ _⟩⟩
        case round =>
          clear HT0 HBT HS5 HS8 HSU HFr HD5
          obtain ⟨A2, c2, e, s, rfl, hel, HC2, HR2, HA2, HBe, HM2, HS, HS8, HSU, HFr, HD, HO⟩ := hrel
          have HBw := Aside0.mk (HB5.out.trans (HO.out.below HB5.out.size (Nat.le_succ _)))
          by_cases h0 : 0 < e.length
          · have h0' : decide ((0 : Int) < (e.length : Int)) = true := decide_eq_true (by omega)
            have h64 : 64 ≤ e.length := by have := HM2.out; omega
            obtain ⟨hcutT, hAT, hCT⟩ := print_take_of (P := Tryd.prog) (Value.int .u8) 0 43 5 .i64 Tryd.underlying43 HI.out.1 HI.out.2 A2 c2 e 64 (by omega) (by omega) HC2.out
            obtain ⟨o, ea⟩ := HA2.out.resolve_left (by omega)
            subst ea
            have hcutD := cut_low (P := Tryd.prog) 43 5 .i64 Tryd.underlying43 HI.out.1 HI.out.2 (some ⟨ge, o, none⟩) e.length c2 64 (by omega) (by omega)
            have hif : (if c2 = 64 then some (⟨ge, o, none⟩ : Addr) else Option.map (fun x : Addr => x.add 64) (some (⟨ge, o, none⟩ : Addr))) = some (⟨ge, if c2 = 64 then o else o + 64, none⟩ : Addr) := by
              split <;> simp [addr_add]
            have hn64 : (64 : Int).toNat = 64 := rfl
            rw [hn64] at hcutD
            simp only [hif] at hcutD
            have HRD := Aside0.mk (Kd.C_drop (c := c2) (m := 64) HR2.out h64 HC2.out)
            have hsz : (Kd.int .u8).sz = 1 := rfl
            rw [hsz, Nat.mul_one, hif] at HRD
            have HRw := Aside0.mk (C_only HR2.out HO.out (by have := HGE.out; omega))
            have HRt := Aside0.mk (Kd.C_take (m := 64) HRw.out h64)
            have H64 : Aside0 ((e.take 64).length = 64) := ⟨by rw [List.length_take]; omega⟩
            have HLD : Aside0 ((e.drop 64).length = e.length - 64) := ⟨List.length_drop⟩
            clear hAT hCT hif hn64 hsz HR2 HRw
            generalize (if c2 = 64 then o else o + 64) = o2 at hcutD HRD
            go_wp2_with fail
            have hcall := absorb_makes (w.heap.size + 1) s (some ⟨ge, o, none⟩) c2 (e.take 64) wr HS.out HS8.out HSU.out HRt.out (by have := HC2.out; rw [H64.out]; omega) H64.out (HBe.out.take 64) (HG.out.below HBw.out)
            rw [H64.out] at hcall
            refine hcall.mono ?_
            clear hcall
            rintro e' w2 ⟨rfl, hs2, ho2⟩
            have HS2 := Aside0.mk hs2
            have HO2 := Aside0.mk (HO.out.trans ho2)
            have HD2 := Aside0.mk (HD.out.only ho2 (by omega))
            have HU2 := Aside0.mk (Sha.block_u32 HSU.out (e.take 64))
            have HF2 : Aside0 (blocksF (Sha.block s (e.take 64)) (e.drop 64) = F) := ⟨by rw [← HFr.out, blocksF_step s e h64]⟩
            clear hs2 ho2 HRt HS HD HO HBw
            go_wp2
            go_roundw
            case rel =>
              exact ⟨some ⟨ge, o2, none⟩, c2 - 64, e.drop 64, Sha.block s (e.take 64), by rw [HLD.out], by rw [HLD.out]; omega, ⟨by rw [HLD.out]; have := HC2.out; omega⟩, HRD, ⟨Or.inr ⟨o2, rfl⟩⟩, ⟨HBe.out.drop 64⟩, ⟨by rw [HLD.out]; have := HM2.out; omega⟩, HS2, ⟨Sha.block_length _ _⟩, HU2, HF2, HD2, HO2⟩
            case measure => simp; omega
          · have h0' : decide ((0 : Int) < (e.length : Int)) = false := decide_eq_false (by omega)
            have ee : e = [] := List.length_eq_zero_iff.1 (by omega)
            subst ee
            have es : s = F := by have := HFr.out; rwa [blocksF_done s [] (by simp)] at this
            subst es
            obtain ⟨f0, f1, f2, f3, f4, f5, f6, f7, ef, v0, v1, v2, v3, v4, v5, v6, v7⟩ := HS.out.eight HS8.out
            have EF := Aside0.mk ef
            clear ef h0 HC2 HR2 HA2 HBe HM2 HFr
            go_wp2
            simp only [List.length_nil]
            have HD0 : Aside0 (Brr wr w.heap.size 70 (digL s 0)) := ⟨HD.out⟩
            have HOw := HBw
            clear HD HS HO HBw v0 v1 v2 v3 v4 v5 v6 v7
            go_loopw [54] (fun i wr => ∃ t : Nat, t ≤ 8 ∧ i = .int .i64 t ∧ Aside0 (Brr wr w.heap.size 70 (digL s t)) ∧ Aside0 (Below w.heap.size w wr)) (fun i _ => 8 - (intOf i).toNat)
            case atStart => exact ⟨0, by omega, rfl, HD0, HOw⟩
            case round =>
              clear HD0 HOw
              obtain ⟨t, ht, rfl, HD, HB⟩ := hrel
              by_cases hlt : t < 8
              · have hlt' : decide ((t : Int) < 8) = true := decide_eq_true (by omega)
                have hidx := index_eight f0 f1 f2 f3 f4 f5 f6 f7 t hlt
                rw [← EF.out] at hidx
                have hsu := HSU.out.getD t
                have HPT := Aside0.mk (digL_put s t hlt HS8.out)
                generalize s.getD t 0 = x at hidx hsu HPT
                have hsl := slice_digest w.heap.size t hlt
                have e4 : IntKind.i64.wrap (4 * (t : Int)) = 4 * (t : Int) := by rw [IntKind.wrap_i64]; omega
                have e5 : IntKind.i64.wrap (4 * (t : Int) + 4) = 4 * (t : Int) + 4 := by rw [IntKind.wrap_i64]; omega
                have HX5 : Aside0 (IntKind.u64.wrap x = x) := ⟨by rw [wrap_u64]; omega⟩
                clear hsu
                go_wp2_with fail
                rw [HX5.out]
                refine (put_makes w.heap.size (4 * t) 4 (32 - 4 * t) 70 _ x _ HD.out (by rw [digL_length s t ht HS8.out]; omega) (by omega) (by rw [digL_length s t ht HS8.out]; omega)).mono ?_
                rintro e' w2 ⟨rfl, hd2, ho2⟩
                rw [HPT.out] at hd2
                have HD2 := Aside0.mk hd2
                have HB2 := Aside0.mk (HB.out.trans (ho2.below HB.out.size (Nat.le_refl _)))
                clear hd2 ho2 HD HB hidx hsl e4 e5
                go_wp2
                go_roundw
                case rel => exact ⟨t + 1, by omega, by go_num, HD2, HB2⟩
                case measure => simp [intOf]; omega
              · have hlt' : decide ((t : Int) < 8) = false := decide_eq_false (by omega)
                have et : t = 8 := by omega
                subst et
                clear hlt
                simp only [Int.cast_ofNat_Int]
                rw [digL_all s HS8.out, ← HF0.out] at HD
                have hls : (Sha.sum l).length = 32 := by rw [HF0.out, be4_flat_length, HS8.out]
                have HES : Aside0 ((encB (Sha.sum l)).size = 32) := ⟨by simp [encB, hls]⟩
                have HIS : Aside0 ((Tryd.prog.info? 70).map (·.size) = some (encB (Sha.sum l)).size) := ⟨by rw [HES.out]; kernel_rfl⟩
                have HON : Aside0 (∀ v ∈ (encB (Sha.sum l)).toList, v.oneCell' = true) := ⟨encB_one _⟩
                have HDD : Aside0 (wr.heap[w.heap.size]? = some (.cells (encB (Sha.sum l)) 70 (0, 0))) := ⟨HD.out⟩
                clear hls HD
                obtain ⟨dd, hdd⟩ : ∃ d, d = encB (Sha.sum l) := ⟨_, rfl⟩
                rw [← hdd] at HES HIS HON HDD
                have EDD := Aside0.mk hdd
                clear hdd
                go_wp2_with (first | ((with_reducible refine gate_dst (N := 68) rfl ?_); refine wpList_load_row rfl 70 (.tmp 2) rfl w.heap.size rfl 70 dd (0, 0) (.array 32 5) HDD.out (by kernel_rfl) rfl HIS.out ?_) | ((with_reducible refine gate_store (t := 70) (p := 2) rfl ?_); refine wpList_store_row rfl 70 (.tmp 2) (.tmp 68) rfl rfl w.heap.size rfl 70 dd dd rfl HDD.out HIS.out rfl HON.out ?_; rw [setRow_self wr _ dd _ _ HDD.out]))
                refine bodyPost_ret (results_cell_row rfl _ _ w.heap.size 70 dd (0, 0) (.array 32 5) rfl HDD.out (by kernel_rfl) rfl HIS.out) rfl ?_
                exact ⟨by rw [EDD.out], HB.out⟩
      · have h55' : decide ((55 : Int) < (r.length : Int)) = true := decide_eq_true (by omega)
        have hx : (IntKind.u64.wrap (IntKind.u64.wrap (l.length : Int) * 8)) = ((l.length * 8 : Nat) : Int) := by
          have := HL.out; rw [wrap_u64, wrap_u64]; omega
        have HX := Aside0.mk hx
        have hlen : (r ++ 128 :: List.replicate (127 - r.length) (0 : Int)).length = 128 := by simp; omega
        have HLN := Aside0.mk hlen
        clear hx hlen
        go_wp2_with fail
        refine (put_makes ge 120 8 8 5 _ _ _ HE4.out (by rw [HLN.out]; omega) (by omega) (by rw [HLN.out]; omega)).mono ?_
        rintro e w5 ⟨rfl, hb5, ho5⟩
        rw [end_list r l.length 128 (by omega) (by omega) (by unfold Sha.zeros; have := HM.out; omega) _ HX.out] at hb5
        have HB5 := Aside0.mk (HB4.out.trans (ho5.below HB4.out.size (by have := HGE.out; omega)))
        have HS5 := Aside0.mk (HS4.out.only ho5 (by have := HGE.out; omega))
        have HD5 := Aside0.mk (HD4.out.only ho5 (by have := HGE.out; omega))
        have HLT : Aside0 ((r ++ tailB l.length).length = 128) := ⟨by rw [List.length_append, tailB_length]; unfold Sha.zeros; have := HM.out; omega⟩
        have HE5 := Aside0.mk (hb5.row 0 128 (by rw [List.length_append, HLT.out]; omega) (by rw [List.length_append, HLT.out]; simp))
        rw [List.drop_zero, List.take_left' HLT.out] at HE5
        have HBT : Aside0 (Bytes (r ++ tailB l.length)) := ⟨HBr.out.append (tailB_bytes _)⟩
        clear hb5 ho5 HB4 HS4 HD4 HE4
        go_wp2
        generalize r ++ tailB l.length = T at HFr HLT HE5 HBT
        have HT0 : Aside0 (Kd.C (Kd.int .u8) w5 (some ⟨ge, 0, none⟩) T.length T) := HE5
        go_loopw [6] (fun v wr => ∃ (A2 : Option Addr) (c2 : Nat) (e s : List Int), v = .slice A2 e.length c2 ∧ e.length ≤ 128 ∧ Aside0 (e.length ≤ c2) ∧ Aside0 (Kd.C (Kd.int .u8) w5 A2 e.length e) ∧ Aside0 (e.length = 0 ∨ ∃ o, A2 = some ⟨ge, o, none⟩) ∧ Aside0 (Bytes e) ∧ Aside0 (e.length % 64 = 0) ∧ Aside0 (Arr wr (w.heap.size + 1) 105 s) ∧ Aside0 (s.length = 8) ∧ Aside0 (Sha.U32 s) ∧ Aside0 (blocksF s e = F) ∧ Aside0 (Brr wr w.heap.size 70 (List.replicate 32 0)) ∧ Aside0 (Only (w.heap.size + 1) w5 wr)) (fun v _ => match v with | .slice _ n _ => n | _ => 0)
        case atStart => exact ⟨some ⟨ge, 0, none⟩, 128, T, s, by rw [HLT.out], by rw [HLT.out]; omega, ⟨by rw [HLT.out]; omega⟩, HT0, ⟨Or.inr ⟨0, rfl⟩⟩, HBT, ⟨by rw [HLT.out]⟩, HS5, HS8, HSU, HFr, HD5, ⟨Only.refl _ _⟩⟩
        case round =>
          clear HT0 HBT HS5 HS8 HSU HFr HD5
          obtain ⟨A2, c2, e, s, rfl, hel, HC2, HR2, HA2, HBe, HM2, HS, HS8, HSU, HFr, HD, HO⟩ := hrel
          have HBw := Aside0.mk (HB5.out.trans (HO.out.below HB5.out.size (Nat.le_succ _)))
          by_cases h0 : 0 < e.length
          · have h0' : decide ((0 : Int) < (e.length : Int)) = true := decide_eq_true (by omega)
            have h64 : 64 ≤ e.length := by have := HM2.out; omega
            obtain ⟨hcutT, hAT, hCT⟩ := print_take_of (P := Tryd.prog) (Value.int .u8) 0 43 5 .i64 Tryd.underlying43 HI.out.1 HI.out.2 A2 c2 e 64 (by omega) (by omega) HC2.out
            obtain ⟨o, ea⟩ := HA2.out.resolve_left (by omega)
            subst ea
            have hcutD := cut_low (P := Tryd.prog) 43 5 .i64 Tryd.underlying43 HI.out.1 HI.out.2 (some ⟨ge, o, none⟩) e.length c2 64 (by omega) (by omega)
            have hif : (if c2 = 64 then some (⟨ge, o, none⟩ : Addr) else Option.map (fun x : Addr => x.add 64) (some (⟨ge, o, none⟩ : Addr))) = some (⟨ge, if c2 = 64 then o else o + 64, none⟩ : Addr) := by
              split <;> simp [addr_add]
            have hn64 : (64 : Int).toNat = 64 := rfl
            rw [hn64] at hcutD
            simp only [hif] at hcutD
            have HRD := Aside0.mk (Kd.C_drop (c := c2) (m := 64) HR2.out h64 HC2.out)
            have hsz : (Kd.int .u8).sz = 1 := rfl
            rw [hsz, Nat.mul_one, hif] at HRD
            have HRw := Aside0.mk (C_only HR2.out HO.out (by have := HGE.out; omega))
            have HRt := Aside0.mk (Kd.C_take (m := 64) HRw.out h64)
            have H64 : Aside0 ((e.take 64).length = 64) := ⟨by rw [List.length_take]; omega⟩
            have HLD : Aside0 ((e.drop 64).length = e.length - 64) := ⟨List.length_drop⟩
            clear hAT hCT hif hn64 hsz HR2 HRw
            generalize (if c2 = 64 then o else o + 64) = o2 at hcutD HRD
            go_wp2_with fail
            have hcall := absorb_makes (w.heap.size + 1) s (some ⟨ge, o, none⟩) c2 (e.take 64) wr HS.out HS8.out HSU.out HRt.out (by have := HC2.out; rw [H64.out]; omega) H64.out (HBe.out.take 64) (HG.out.below HBw.out)
            rw [H64.out] at hcall
            refine hcall.mono ?_
            clear hcall
            rintro e' w2 ⟨rfl, hs2, ho2⟩
            have HS2 := Aside0.mk hs2
            have HO2 := Aside0.mk (HO.out.trans ho2)
            have HD2 := Aside0.mk (HD.out.only ho2 (by omega))
            have HU2 := Aside0.mk (Sha.block_u32 HSU.out (e.take 64))
            have HF2 : Aside0 (blocksF (Sha.block s (e.take 64)) (e.drop 64) = F) := ⟨by rw [← HFr.out, blocksF_step s e h64]⟩
            clear hs2 ho2 HRt HS HD HO HBw
            go_wp2
            go_roundw
            case rel =>
              exact ⟨some ⟨ge, o2, none⟩, c2 - 64, e.drop 64, Sha.block s (e.take 64), by rw [HLD.out], by rw [HLD.out]; omega, ⟨by rw [HLD.out]; have := HC2.out; omega⟩, HRD, ⟨Or.inr ⟨o2, rfl⟩⟩, ⟨HBe.out.drop 64⟩, ⟨by rw [HLD.out]; have := HM2.out; omega⟩, HS2, ⟨Sha.block_length _ _⟩, HU2, HF2, HD2, HO2⟩
            case measure => simp; omega
          · have h0' : decide ((0 : Int) < (e.length : Int)) = false := decide_eq_false (by omega)
            have ee : e = [] := List.length_eq_zero_iff.1 (by omega)
            subst ee
            have es : s = F := by have := HFr.out; rwa [blocksF_done s [] (by simp)] at this
            subst es
            obtain ⟨f0, f1, f2, f3, f4, f5, f6, f7, ef, v0, v1, v2, v3, v4, v5, v6, v7⟩ := HS.out.eight HS8.out
            have EF := Aside0.mk ef
            clear ef h0 HC2 HR2 HA2 HBe HM2 HFr
            go_wp2
            simp only [List.length_nil]
            have HD0 : Aside0 (Brr wr w.heap.size 70 (digL s 0)) := ⟨HD.out⟩
            have HOw := HBw
            clear HD HS HO HBw v0 v1 v2 v3 v4 v5 v6 v7
            go_loopw [54] (fun i wr => ∃ t : Nat, t ≤ 8 ∧ i = .int .i64 t ∧ Aside0 (Brr wr w.heap.size 70 (digL s t)) ∧ Aside0 (Below w.heap.size w wr)) (fun i _ => 8 - (intOf i).toNat)
            case atStart => exact ⟨0, by omega, rfl, HD0, HOw⟩
            case round =>
              clear HD0 HOw
              obtain ⟨t, ht, rfl, HD, HB⟩ := hrel
              by_cases hlt : t < 8
              · have hlt' : decide ((t : Int) < 8) = true := decide_eq_true (by omega)
                have hidx := index_eight f0 f1 f2 f3 f4 f5 f6 f7 t hlt
                rw [← EF.out] at hidx
                have hsu := HSU.out.getD t
                have HPT := Aside0.mk (digL_put s t hlt HS8.out)
                generalize s.getD t 0 = x at hidx hsu HPT
                have hsl := slice_digest w.heap.size t hlt
                have e4 : IntKind.i64.wrap (4 * (t : Int)) = 4 * (t : Int) := by rw [IntKind.wrap_i64]; omega
                have e5 : IntKind.i64.wrap (4 * (t : Int) + 4) = 4 * (t : Int) + 4 := by rw [IntKind.wrap_i64]; omega
                have HX5 : Aside0 (IntKind.u64.wrap x = x) := ⟨by rw [wrap_u64]; omega⟩
                clear hsu
                go_wp2_with fail
                rw [HX5.out]
                refine (put_makes w.heap.size (4 * t) 4 (32 - 4 * t) 70 _ x _ HD.out (by rw [digL_length s t ht HS8.out]; omega) (by omega) (by rw [digL_length s t ht HS8.out]; omega)).mono ?_
                rintro e' w2 ⟨rfl, hd2, ho2⟩
                rw [HPT.out] at hd2
                have HD2 := Aside0.mk hd2
                have HB2 := Aside0.mk (HB.out.trans (ho2.below HB.out.size (Nat.le_refl _)))
                clear hd2 ho2 HD HB hidx hsl e4 e5
                go_wp2
                go_roundw
                case rel => exact ⟨t + 1, by omega, by go_num, HD2, HB2⟩
                case measure => simp [intOf]; omega
              · have hlt' : decide ((t : Int) < 8) = false := decide_eq_false (by omega)
                have et : t = 8 := by omega
                subst et
                clear hlt
                simp only [Int.cast_ofNat_Int]
                rw [digL_all s HS8.out, ← HF0.out] at HD
                have hls : (Sha.sum l).length = 32 := by rw [HF0.out, be4_flat_length, HS8.out]
                have HES : Aside0 ((encB (Sha.sum l)).size = 32) := ⟨by simp [encB, hls]⟩
                have HIS : Aside0 ((Tryd.prog.info? 70).map (·.size) = some (encB (Sha.sum l)).size) := ⟨by rw [HES.out]; kernel_rfl⟩
                have HON : Aside0 (∀ v ∈ (encB (Sha.sum l)).toList, v.oneCell' = true) := ⟨encB_one _⟩
                have HDD : Aside0 (wr.heap[w.heap.size]? = some (.cells (encB (Sha.sum l)) 70 (0, 0))) := ⟨HD.out⟩
                clear hls HD
                obtain ⟨dd, hdd⟩ : ∃ d, d = encB (Sha.sum l) := ⟨_, rfl⟩
                rw [← hdd] at HES HIS HON HDD
                have EDD := Aside0.mk hdd
                clear hdd
                go_wp2_with (first | ((with_reducible refine gate_dst (N := 68) rfl ?_); refine wpList_load_row rfl 70 (.tmp 2) rfl w.heap.size rfl 70 dd (0, 0) (.array 32 5) HDD.out (by kernel_rfl) rfl HIS.out ?_) | ((with_reducible refine gate_store (t := 70) (p := 2) rfl ?_); refine wpList_store_row rfl 70 (.tmp 2) (.tmp 68) rfl rfl w.heap.size rfl 70 dd dd rfl HDD.out HIS.out rfl HON.out ?_; rw [setRow_self wr _ dd _ _ HDD.out]))
                refine bodyPost_ret (results_cell_row rfl _ _ w.heap.size 70 dd (0, 0) (.array 32 5) rfl HDD.out (by kernel_rfl) rfl HIS.out) rfl ?_
                exact ⟨by rw [EDD.out], HB.out⟩

end Go.Proofs.YthladfegmedpnaaDoor.P
