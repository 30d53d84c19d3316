import Derived.Test.YthladfegmedpnaaDoorK8
import Derived.Test.YthladfegmedpnaaDoorK2
import Derived.Test.YthladfegmedpnaaDoorK13
import Derived.Test.YthladfegmedpnaaDoorK11
import Derived.Outline
import Derived.Laws.EntriesVeiled
import Derived.Deep.WholeRow
import Derived.Test.YthladfegmedpnaaDoorKR3
import Derived.Test.YthladfegmedpnaaDoorK14
import Derived.StillTailTactics
set_option linter.unusedVariables false
set_option linter.unusedSimpArgs false

namespace Go.Proofs.YthladfegmedpnaaDoor.P
open Go.RowKit Go.Proofs.YthladfegmedpnaaDoorW.PrintWords Go.Proofs.YthladfegmedpnaaDoorW.PrintLast Go.Proofs.YthladfegmedpnaaDoorW.PrintMore Go.Proofs.YthladfegmedpnaaDoor
set_option linter.unusedVariables false
set_option linter.unusedSimpArgs false

theorem encW_one (l : List Int) : ∀ v ∈ (encW l).toList, v.oneCell' = true := by
  intro v hv
  simp only [encW, List.mem_map] at hv
  obtain ⟨x, _, rfl⟩ := hv
  rfl

set_option maxHeartbeats 8000000 in
set_option maxRecDepth 100000 in
theorem ref02_numbers (w : World) : Calls Tryd.prog 106 #[] w fun e w' => e = .returned (.agg (encW numL)) ∧ Below w.heap.size w w' := by
  go_enter Tryd.func106, Tryd.ntmps106
  go_wp2_with (first | ((with_reducible refine gate_store (t := 116) (p := 0) rfl ?_); refine wpList_store_row rfl 116 (.tmp 0) (.tmp 1) rfl rfl w.heap.size rfl 116 (encW (List.replicate 64 0)) (encW numL) rfl (World.alloc_heap_new _ _) (by kernel_rfl) rfl (encW_one _) ?_; change wpList _ _ _ _ _ ((w.alloc (.cells (encW (List.replicate 64 0)) 116)).setRow w.heap.size (encW numL)); rw [World.setRow_alloc_new]) | fail)
  refine bodyPost_ret (results_cell_row rfl _ _ w.heap.size 116 (encW numL) (0, 0) (.array 64 103) rfl (World.alloc_heap_new _ _) (by kernel_rfl) rfl (by kernel_rfl)) rfl ?_
  exact ⟨rfl, below_alloc (Below.refl _ _) _⟩

end Go.Proofs.YthladfegmedpnaaDoor.P

namespace Go.Proofs.YthladfegmedpnaaDoor.P
open Go.RowKit Go.Proofs.YthladfegmedpnaaDoorW.PrintWords Go.Proofs.YthladfegmedpnaaDoorW.PrintLast Go.Proofs.YthladfegmedpnaaDoorW.PrintMore Go.Proofs.YthladfegmedpnaaDoor
set_option linter.unusedVariables false
set_option linter.unusedSimpArgs false

theorem ror_q7 (x : Int) (w : World) (k : Nat) : Calls Tryd.prog 105 #[.int .u32 x, .int .i64 7] (w.drewN k) fun e w'' => e = .returned (.int .u32 (Sha.rr x 7)) ∧ ∃ m, w'' = w.drewN m :=
  Calls.quiet_of ((signatoryref02_ror.calls x 7 (Sha.rr x 7) _ (ref02_ror_f x 7 (by omega) (by omega))).mono fun _ _ h => ⟨h.1, h.2.out⟩)
theorem ror_q18 (x : Int) (w : World) (k : Nat) : Calls Tryd.prog 105 #[.int .u32 x, .int .i64 18] (w.drewN k) fun e w'' => e = .returned (.int .u32 (Sha.rr x 18)) ∧ ∃ m, w'' = w.drewN m :=
  Calls.quiet_of ((signatoryref02_ror.calls x 18 (Sha.rr x 18) _ (ref02_ror_f x 18 (by omega) (by omega))).mono fun _ _ h => ⟨h.1, h.2.out⟩)
theorem ror_q17 (x : Int) (w : World) (k : Nat) : Calls Tryd.prog 105 #[.int .u32 x, .int .i64 17] (w.drewN k) fun e w'' => e = .returned (.int .u32 (Sha.rr x 17)) ∧ ∃ m, w'' = w.drewN m :=
  Calls.quiet_of ((signatoryref02_ror.calls x 17 (Sha.rr x 17) _ (ref02_ror_f x 17 (by omega) (by omega))).mono fun _ _ h => ⟨h.1, h.2.out⟩)
theorem ror_q19 (x : Int) (w : World) (k : Nat) : Calls Tryd.prog 105 #[.int .u32 x, .int .i64 19] (w.drewN k) fun e w'' => e = .returned (.int .u32 (Sha.rr x 19)) ∧ ∃ m, w'' = w.drewN m :=
  Calls.quiet_of ((signatoryref02_ror.calls x 19 (Sha.rr x 19) _ (ref02_ror_f x 19 (by omega) (by omega))).mono fun _ _ h => ⟨h.1, h.2.out⟩)
theorem ror_q6 (x : Int) (w : World) (k : Nat) : Calls Tryd.prog 105 #[.int .u32 x, .int .i64 6] (w.drewN k) fun e w'' => e = .returned (.int .u32 (Sha.rr x 6)) ∧ ∃ m, w'' = w.drewN m :=
  Calls.quiet_of ((signatoryref02_ror.calls x 6 (Sha.rr x 6) _ (ref02_ror_f x 6 (by omega) (by omega))).mono fun _ _ h => ⟨h.1, h.2.out⟩)
theorem ror_q11 (x : Int) (w : World) (k : Nat) : Calls Tryd.prog 105 #[.int .u32 x, .int .i64 11] (w.drewN k) fun e w'' => e = .returned (.int .u32 (Sha.rr x 11)) ∧ ∃ m, w'' = w.drewN m :=
  Calls.quiet_of ((signatoryref02_ror.calls x 11 (Sha.rr x 11) _ (ref02_ror_f x 11 (by omega) (by omega))).mono fun _ _ h => ⟨h.1, h.2.out⟩)
theorem ror_q25 (x : Int) (w : World) (k : Nat) : Calls Tryd.prog 105 #[.int .u32 x, .int .i64 25] (w.drewN k) fun e w'' => e = .returned (.int .u32 (Sha.rr x 25)) ∧ ∃ m, w'' = w.drewN m :=
  Calls.quiet_of ((signatoryref02_ror.calls x 25 (Sha.rr x 25) _ (ref02_ror_f x 25 (by omega) (by omega))).mono fun _ _ h => ⟨h.1, h.2.out⟩)
theorem ror_q2 (x : Int) (w : World) (k : Nat) : Calls Tryd.prog 105 #[.int .u32 x, .int .i64 2] (w.drewN k) fun e w'' => e = .returned (.int .u32 (Sha.rr x 2)) ∧ ∃ m, w'' = w.drewN m :=
  Calls.quiet_of ((signatoryref02_ror.calls x 2 (Sha.rr x 2) _ (ref02_ror_f x 2 (by omega) (by omega))).mono fun _ _ h => ⟨h.1, h.2.out⟩)
theorem ror_q13 (x : Int) (w : World) (k : Nat) : Calls Tryd.prog 105 #[.int .u32 x, .int .i64 13] (w.drewN k) fun e w'' => e = .returned (.int .u32 (Sha.rr x 13)) ∧ ∃ m, w'' = w.drewN m :=
  Calls.quiet_of ((signatoryref02_ror.calls x 13 (Sha.rr x 13) _ (ref02_ror_f x 13 (by omega) (by omega))).mono fun _ _ h => ⟨h.1, h.2.out⟩)
theorem ror_q22 (x : Int) (w : World) (k : Nat) : Calls Tryd.prog 105 #[.int .u32 x, .int .i64 22] (w.drewN k) fun e w'' => e = .returned (.int .u32 (Sha.rr x 22)) ∧ ∃ m, w'' = w.drewN m :=
  Calls.quiet_of ((signatoryref02_ror.calls x 22 (Sha.rr x 22) _ (ref02_ror_f x 22 (by omega) (by omega))).mono fun _ _ h => ⟨h.1, h.2.out⟩)
theorem not_eq (e : Int) (h0 : 0 ≤ e) (h1 : e < 4294967296) : Go.bits .xor .u32 IntKind.u32.max e = 4294967295 - e := by
  obtain ⟨E, rfl⟩ := Int.eq_ofNat_of_zero_le h0
  have hm : IntKind.u32.max = ((4294967295 : Nat) : Int) := by decide
  have h := BitVec.toNat_not (x := BitVec.ofNat 32 E)
  rw [BitVec.not_def] at h
  have h2 : (BitVec.allOnes 32).toNat = 4294967295 := by decide
  rw [BitVec.toNat_xor] at h
  simp only [BitVec.toNat_ofNat] at h
  rw [Nat.mod_eq_of_lt (show E < 2 ^ 32 by omega), h2, Nat.xor_comm] at h
  rw [hm, u32_xor_nat _ _ (by omega) (by omega), Nat.xor_comm, h]
  omega
theorem wd_mid (b : List Int) (t : Nat) (h : 4 * t + 4 ≤ b.length) : Sha.wd ((b.take (4 * t + 4)).drop (4 * t)) 0 = Sha.wd b t := by
  have e : ∀ i, i < 4 → ((b.take (4 * t + 4)).drop (4 * t)).getD i 0 = b.getD (4 * t + i) 0 := fun i hi => by
    simp only [List.getD_eq_getElem?_getD, List.getElem?_drop, List.getElem?_take]
    rw [if_pos (by omega)]
  simp only [Sha.wd]
  rw [show 4 * 0 = 0 from rfl, e 0 (by omega), e (0 + 1) (by omega), e (0 + 2) (by omega), e (0 + 3) (by omega)]
  rfl

set_option maxHeartbeats 8000000 in
set_option maxRecDepth 100000 in
theorem ref02_block_makes (s : List Int) (A : Option Addr) (c : Nat) (b : List Int) (w : World) (hs8 : s.length = 8) (hsu : Sha.U32 s) (hr : Kd.C (Kd.int .u8) w A b.length b) (hc : b.length ≤ c) (hb : b.length = 64) (hbb : Bytes b) :
    Calls Tryd.prog 96 #[.agg (encW s), .slice A b.length c] w fun e w' => e = .returned (.agg (encW (Sha.block s b))) ∧ Below w.heap.size w w' := by
  have HS8 := Aside0.mk hs8
  have HSU := Aside0.mk hsu
  have HR := Aside0.mk hr
  have HC := Aside0.mk hc
  have HBL := Aside0.mk hb
  have HBB := Aside0.mk hbb
  clear hs8 hsu hr hc hb hbb
  go_enter Tryd.func96, Tryd.ntmps96
  have hn2 : ((w.alloc (.cells (encW s) 104)).alloc (.cells (encW (List.replicate 8 0)) 104)).heap.size = w.heap.size + 1 + 1 := by rw [World.size_alloc, World.size_alloc]
  go_wp2_with (first | ((with_reducible refine gate_store (t := 116) (p := 5) rfl ?_); refine wpList_store_row rfl 116 (.tmp 5) (.tmp 22) rfl rfl (w.heap.size + 1 + 1) rfl 116 (encW (List.replicate 64 0)) (encW (List.replicate 64 0)) rfl (hn2 ▸ World.alloc_heap_new ((w.alloc (.cells (encW s) 104)).alloc (.cells (encW (List.replicate 8 0)) 104)) (.cells (encW (List.replicate 64 0)) 116)) (by kernel_rfl) rfl (encW_one _) ?_; rw [setRow_self _ _ _ _ _ (hn2 ▸ World.alloc_heap_new ((w.alloc (.cells (encW s) 104)).alloc (.cells (encW (List.replicate 8 0)) 104)) (.cells (encW (List.replicate 64 0)) 116))]) | fail)
  have hw0 := World.alloc_heap_new ((w.alloc (.cells (encW s) 104)).alloc (.cells (encW (List.replicate 8 0)) 104)) (.cells (encW (Sha.first b 0)) 116)
  rw [hn2] at hw0
  have HW0 : Aside0 (Arr (((w.alloc (.cells (encW s) 104)).alloc (.cells (encW (List.replicate 8 0)) 104)).alloc (.cells (encW (Sha.first b 0)) 116)) (w.heap.size + 1 + 1) 116 (Sha.first b 0)) := ⟨hw0⟩
  have hr0 : Arr ((w.alloc (.cells (encW s) 104)).alloc (.cells (encW (List.replicate 8 0)) 104)) (w.heap.size + 1) 104 (List.replicate 8 0) := by
    have := World.alloc_heap_new (w.alloc (.cells (encW s) 104)) (.cells (encW (List.replicate 8 0)) 104)
    rwa [World.size_alloc] at this
  have HR0 : Aside0 (Arr (((w.alloc (.cells (encW s) 104)).alloc (.cells (encW (List.replicate 8 0)) 104)).alloc (.cells (encW (Sha.first b 0)) 116)) (w.heap.size + 1) 104 (List.replicate 8 0)) := ⟨hr0.alloc _⟩
  have HS0 : Aside0 (Arr (((w.alloc (.cells (encW s) 104)).alloc (.cells (encW (List.replicate 8 0)) 104)).alloc (.cells (encW (Sha.first b 0)) 116)) w.heap.size 104 s) := ⟨(Arr.alloc (show Arr (w.alloc (.cells (encW s) 104)) w.heap.size 104 s from World.alloc_heap_new _ _) _).alloc _⟩
  have HB0 := Aside0.mk (below_alloc (below_alloc (below_alloc (Below.refl w.heap.size w) (.cells (encW s) 104)) (.cells (encW (List.replicate 8 0)) 104)) (.cells (encW (Sha.first b 0)) 116))
  clear hw0 hr0 hn2
  change Code.wp _ _ _ _ (((w.alloc (.cells (encW s) 104)).alloc (.cells (encW (List.replicate 8 0)) 104)).alloc (.cells (encW (Sha.first b 0)) 116))
  generalize ((w.alloc (.cells (encW s) 104)).alloc (.cells (encW (List.replicate 8 0)) 104)).alloc (.cells (encW (Sha.first b 0)) 116) = w0 at HW0 HR0 HS0 HB0 ⊢
  obtain ⟨gw, hgw⟩ : ∃ g, g = w.heap.size + 1 + 1 := ⟨_, rfl⟩
  rw [← hgw] at HW0
  simp only [← hgw]
  have HGW := Aside0.mk hgw
  clear hgw
  obtain ⟨i03, hi03, _, hsz3, _⟩ := info_parts info5
  have HI := Aside0.mk (And.intro hi03 hsz3)
  clear hi03 hsz3
  go_loopw [6] (fun i wr => ∃ t : Nat, t ≤ 16 ∧ i = .int .i64 t ∧ Aside0 (Arr wr gw 116 (Sha.first b t)) ∧ Aside0 (Arr wr (w.heap.size + 1) 104 (List.replicate 8 0)) ∧ Aside0 (Arr wr w.heap.size 104 s) ∧ Aside0 (Below w.heap.size w wr)) (fun i _ => 16 - (intOf i).toNat)
  case atStart => exact ⟨0, Nat.zero_le _, rfl, HW0, HR0, HS0, HB0⟩
  case round =>
    clear HW0 HB0 HR0 HS0
    obtain ⟨t, ht, rfl, HA, HRr, HS, HB⟩ := hrel
    by_cases hlt : t < 16
    · have hlt' : decide ((t : Int) < 16) = true := decide_eq_true (by omega)
      have h4 : IntKind.i64.wrap (4 * (t : Int)) = 4 * (t : Int) := by rw [IntKind.wrap_i64]; omega
      have h5 : IntKind.i64.wrap (4 * (t : Int) + 4) = 4 * (t : Int) + 4 := by rw [IntKind.wrap_i64]; omega
      obtain ⟨A', hcut, hA, hC⟩ := print_mid_of (P := Tryd.prog) (Value.int .u8) 0 43 5 .i64 .i64 Tryd.underlying43 HI.out.1 HI.out.2 A c b (4 * t) (4 * t + 4) (by omega) (by omega) (by rw [HBL.out]; omega) HC.out
      simp only [show (4 * (t : Int)).toNat = 4 * t from by omega, show (4 * (t : Int) + 4).toNat = 4 * t + 4 from by omega] at hcut hA hC
      have HC4 := Aside0.mk hC
      have HR4 := Aside0.mk (Kd.C_of_reads (h1 := fun _ => rfl) (hA _ (Kd.reads_of_C (Kd.C_below HR.out HB.out))))
      clear hA hC
      have hln : ((b.take (4 * t + 4)).drop (4 * t)).length = 4 := by rw [List.length_drop, List.length_take, HBL.out]; omega
      have HLN := Aside0.mk hln
      rw [hln] at hcut
      clear hln
      go_wp2_with fail
      have hcall := signatoryref02_word.calls A' (c - 4 * t) ((b.take (4 * t + 4)).drop (4 * t)) (Sha.wd b t) wr HR4.out HC4.out (by rw [ref02_word_f ((HBB.out.take _).drop _) (by rw [HLN.out]; omega), wd_mid b t (by rw [HBL.out]; omega)])
      rw [HLN.out] at hcall
      refine hcall.mono ?_
      clear hcall hcut
      rintro e w2 ⟨rfl, ⟨nd, rfl⟩⟩
      have hcl := HA.out.cell t (by rw [Sha.first_length]; omega)
      have hfr := HA.out.frozen t
      go_wp2
      have HA2 := Aside0.mk ((HA.out.drewN nd).set t (Sha.wd b t))
      rw [Sha.first_succ b t (by omega)] at HA2
      have HB2 := Aside0.mk (below_set (j := t) (v := .int .u32 (Sha.wd b t)) (pw_below_drewN HB.out nd) (show w.heap.size ≤ gw from by rw [HGW.out]; omega))
      have HR2 := Aside0.mk ((HRr.out.drewN nd).far (p := ⟨gw, t, none⟩) (by rw [HGW.out]; simp) (.int .u32 (Sha.wd b t)))
      have HS2 := Aside0.mk ((HS.out.drewN nd).far (p := ⟨gw, t, none⟩) (by rw [HGW.out]; simp; omega) (.int .u32 (Sha.wd b t)))
      clear hcl hfr HR4 HC4 h4
      go_roundw
      case rel => exact ⟨t + 1, by omega, by go_num, HA2, HR2, HS2, HB2⟩
      case measure => simp [intOf]; omega
    · have hlt' : decide ((t : Int) < 16) = false := decide_eq_false (by omega)
      have et : t = 16 := by omega
      subst et
      clear hlt
      simp only [Int.cast_ofNat_Int]
      have HA1 : Aside0 (Arr wr gw 116 (Sha.more (Sha.first b 16) (16 - 16))) := ⟨HA.out⟩
      clear HA hlt'
      go_wp2
      go_loopw [7] (fun i wr => ∃ t : Nat, t ≤ 64 ∧ 16 ≤ t ∧ i = .int .i64 t ∧ Aside0 (Arr wr gw 116 (Sha.more (Sha.first b 16) (t - 16))) ∧ Aside0 (Arr wr (w.heap.size + 1) 104 (List.replicate 8 0)) ∧ Aside0 (Arr wr w.heap.size 104 s) ∧ Aside0 (Below w.heap.size w wr)) (fun i _ => 64 - (intOf i).toNat)
      case atStart => exact ⟨16, by omega, by omega, rfl, HA1, HRr, HS, HB⟩
      case round =>
        clear HA1 HB HRr HS
        obtain ⟨t, ht, ht2, rfl, HA, HRr, HS, HB⟩ := hrel
        by_cases hlt : t < 64
        · have hlt' : decide ((t : Int) < 64) = true := decide_eq_true (by omega)
          have h15 : IntKind.i64.wrap ((t : Int) - 15) = ((t - 15 : Nat) : Int) := by rw [IntKind.wrap_i64]; omega
          have h2 : IntKind.i64.wrap ((t : Int) - 2) = ((t - 2 : Nat) : Int) := by rw [IntKind.wrap_i64]; omega
          have h16 : IntKind.i64.wrap ((t : Int) - 16) = ((t - 16 : Nat) : Int) := by rw [IntKind.wrap_i64]; omega
          have h7 : IntKind.i64.wrap ((t : Int) - 7) = ((t - 7 : Nat) : Int) := by rw [IntKind.wrap_i64]; omega
          have hln : (Sha.more (Sha.first b 16) (t - 16)).length = 64 := by rw [Sha.more_length, Sha.first_length]
          have EN := Aside0.mk (show (Sha.more (Sha.first b 16) (t - 16)).set t (Sha.nxt (Sha.more (Sha.first b 16) (t - 16)) t) = Sha.more (Sha.first b 16) (t + 1 - 16) from by
            rw [show t + 1 - 16 = (t - 16) + 1 from by omega]; simp only [Sha.more]; rw [show 16 + (t - 16) = t from by omega])
          generalize Sha.more (Sha.first b 16) (t - 16) = l at HA hln EN
          have c15 := HA.out.cell (t - 15) (by omega)
          have c2 := HA.out.cell (t - 2) (by omega)
          have c16 := HA.out.cell (t - 16) (by omega)
          have c7 := HA.out.cell (t - 7) (by omega)
          have b15 : ((t - 15 : Nat) : Int) < 64 := by omega
          have b2 : ((t - 2 : Nat) : Int) < 64 := by omega
          have b16 : ((t - 16 : Nat) : Int) < 64 := by omega
          have b7 : ((t - 7 : Nat) : Int) < 64 := by omega
          have bt : (t : Int) < 64 := by omega
          have EX : Aside0 (Sha.nxt l t = Sha.ad (Sha.ad (Sha.ad (l.getD (t - 16) 0) (Sha.xr (Sha.xr (Sha.rr (l.getD (t - 15) 0) 7) (Sha.rr (l.getD (t - 15) 0) 18)) (l.getD (t - 15) 0 / 8))) (l.getD (t - 7) 0)) (Sha.xr (Sha.xr (Sha.rr (l.getD (t - 2) 0) 17) (Sha.rr (l.getD (t - 2) 0) 19)) (l.getD (t - 2) 0 / 1024))) := ⟨rfl⟩
          generalize l.getD (t - 15) 0 = x at c15 EX
          generalize l.getD (t - 2) 0 = y at c2 EX
          generalize l.getD (t - 16) 0 = x16 at c16 EX
          generalize l.getD (t - 7) 0 = x7 at c7 EX
          have HLN := Aside0.mk hln
          clear hln
          go_wp2
          refine Go.YthladfegmedpnaaDoor.wp_region_quiet_tail 29 (by kernel_rfl) (by kernel_rfl) ?_
          simp only [List.take_succ_cons, List.take_zero, List.drop_succ_cons, List.drop_zero]
          repeat (quiet_step (first | with_reducible exact ror_q7 _ _ _ | with_reducible exact ror_q18 _ _ _ | with_reducible exact ror_q17 _ _ _ | with_reducible exact ror_q19 _ _ _))
          refine wpQuiet_nil ?_
          intro _ hw'
          obtain ⟨nq, hw''⟩ := hw'
          subst hw''
          have hfr := HA.out.frozen t
          have ct := HA.out.cell t (by have := HLN.out; omega)
          go_wp2
          have EV : Sha.nxt l t = (x16 + Go.bits .xor .u32 (Go.bits .xor .u32 (Sha.rr x 7) (Sha.rr x 18)) (x / 8) + x7 + Go.bits .xor .u32 (Go.bits .xor .u32 (Sha.rr y 17) (Sha.rr y 19)) (y / 1024)) % 4294967296 := by
            rw [EX.out]; simp only [Sha.ad, Sha.xr]; omega
          have HA3 := Aside0.mk ((HA.out.drewN nq).set t (Sha.nxt l t))
          rw [EN.out, EV] at HA3
          have HB3 := Aside0.mk (below_set (j := t) (v := .int .u32 (Sha.nxt l t)) (pw_below_drewN HB.out nq) (show w.heap.size ≤ gw from by rw [HGW.out]; omega))
          have HR3 := Aside0.mk ((HRr.out.drewN nq).far (p := ⟨gw, t, none⟩) (by rw [HGW.out]; simp) (.int .u32 (Sha.nxt l t)))
          have HS3 := Aside0.mk ((HS.out.drewN nq).far (p := ⟨gw, t, none⟩) (by rw [HGW.out]; simp; omega) (.int .u32 (Sha.nxt l t)))
          rw [EV] at HB3 HR3 HS3
          go_roundw
          case rel => exact ⟨t + 1, by omega, by omega, by go_num, HA3, HR3, HS3, HB3⟩
          case measure => simp [intOf]; omega
        · have hlt' : decide ((t : Int) < 64) = false := decide_eq_false (by omega)
          have et : t = 64 := by omega
          subst et
          clear hlt
          simp only [Int.cast_ofNat_Int]
          have HW1 : Aside0 (Arr wr gw 116 (Sha.sched b)) := ⟨HA.out⟩
          clear HA
          go_wp2_with fail
          refine (ref02_numbers wr).mono ?_
          rintro e w2 ⟨rfl, hbn⟩
          have HW2 := Aside0.mk (HW1.out.below hbn)
          have HR2 := Aside0.mk (HRr.out.below hbn)
          have HS2 := Aside0.mk (HS.out.below hbn)
          have HB2 := Aside0.mk (below_step HB.out hbn)
          clear hbn HW1 HRr HS HB
          have hzl := World.alloc_heap_new w2 (.cells (encW (List.replicate 64 0)) 116)
          have HZL := Aside0.mk hzl
          clear hzl
          go_wp2_with (first | ((with_reducible refine gate_store (t := 116) (p := 10) rfl ?_); refine wpList_store_row rfl 116 (.tmp 10) (.tmp 78) rfl rfl w2.heap.size rfl 116 (encW (List.replicate 64 0)) (encW numL) rfl HZL.out (by kernel_rfl) rfl (encW_one _) ?_; change wpList _ _ _ _ _ ((w2.alloc (.cells (encW (List.replicate 64 0)) 116)).setRow w2.heap.size (encW numL)); rw [World.setRow_alloc_new]) | fail)
          have HK3 : Aside0 (Arr (w2.alloc (.cells (encW numL) 116)) w2.heap.size 116 numL) := ⟨World.alloc_heap_new _ _⟩
          have HW3 := Aside0.mk (HW2.out.alloc (.cells (encW numL) 116))
          have HR3 := Aside0.mk (HR2.out.alloc (.cells (encW numL) 116))
          have HS3 := Aside0.mk (HS2.out.alloc (.cells (encW numL) 116))
          have HB3 := Aside0.mk (below_alloc HB2.out (.cells (encW numL) 116))
          clear HW2 HR2 HS2 HB2 HZL
          generalize w2.heap.size = gk at HK3 ⊢
          generalize w2.alloc (.cells (encW numL) 116) = w3 at HK3 HW3 HR3 HS3 HB3 ⊢
          obtain ⟨s0, s1, s2, s3, s4, s5, s6, s7, es, v0, v1, v2, v3, v4, v5, v6, v7⟩ := HS3.out.eight HS8.out
          have ES := Aside0.mk es
          clear es
          try go_wp2
          go_still (by kernel_rfl)
          change Exit.then _ _ _ _ w3.drew
          have HK4 : Aside0 (Arr w3.drew gk 116 numL) := HK3
          have HW4 : Aside0 (Arr w3.drew gw 116 (Sha.sched b)) := HW3
          have HR4 : Aside0 (Arr w3.drew (w.heap.size + 1) 104 (List.replicate 8 0)) := HR3
          have HS4 : Aside0 (Arr w3.drew w.heap.size 104 s) := HS3
          have HB4 : Aside0 (Below w.heap.size w w3.drew) := ⟨below_drew1 HB3.out⟩
          clear v0 v1 v2 v3 v4 v5 v6 v7 HK3 HW3 HR3 HS3 HB3
          generalize w3.drew = w4 at HK4 HW4 HR4 HS4 HB4 ⊢
          have ER0 : Aside0 (Sha.rounds s (Sha.sched b) 0 = [s0, s1, s2, s3, s4, s5, s6, s7]) := ⟨ES.out⟩
          go_wp2
          go_loopw [11, 12, 13, 14, 15, 16, 17, 18, 19] (fun a0 a1 a2 a3 a4 a5 a6 a7 i wr => ∃ (t : Nat) (v0 v1 v2 v3 v4 v5 v6 v7 : Int), t ≤ 64 ∧ i = .int .i64 t ∧ Aside0 (Sha.rounds s (Sha.sched b) t = [v0, v1, v2, v3, v4, v5, v6, v7]) ∧ a0 = .int .u32 v0 ∧ a1 = .int .u32 v1 ∧ a2 = .int .u32 v2 ∧ a3 = .int .u32 v3 ∧ a4 = .int .u32 v4 ∧ a5 = .int .u32 v5 ∧ a6 = .int .u32 v6 ∧ a7 = .int .u32 v7 ∧ Aside0 (Arr wr gk 116 numL) ∧ Aside0 (Arr wr gw 116 (Sha.sched b)) ∧ Aside0 (Arr wr (w.heap.size + 1) 104 (List.replicate 8 0)) ∧ Aside0 (Arr wr w.heap.size 104 s) ∧ Aside0 (Below w.heap.size w wr)) (fun _ _ _ _ _ _ _ _ i _ => 64 - (intOf i).toNat)
          case atStart => exact ⟨0, s0, s1, s2, s3, s4, s5, s6, s7, by omega, rfl, ER0, rfl, rfl, rfl, rfl, rfl, rfl, rfl, rfl, HK4, HW4, HR4, HS4, HB4⟩
          case round =>
            clear ER0 HK4 HW4 HR4 HS4 HB4
            obtain ⟨t, v0, v1, v2, v3, v4, v5, v6, v7, ht, rfl, ERt, rfl, rfl, rfl, rfl, rfl, rfl, rfl, rfl, HK, HW, HRr, HS, HB⟩ := hrel
            by_cases hlt : t < 64
            · have hlt' : decide ((t : Int) < 64) = true := decide_eq_true (by omega)
              have EN : Aside0 (Sha.rnd (Sha.rounds s (Sha.sched b) t) (numL.getD t 0) ((Sha.sched b).getD t 0) = Sha.rounds s (Sha.sched b) (t + 1)) := ⟨rfl⟩
              have HU := Aside0.mk (Sha.rounds_u32 HSU.out (Sha.sched b) t)
              rw [ERt.out] at EN HU
              have ck := HK.out.cell t (show t < 64 from hlt)
              have cw := HW.out.cell t (by rw [Sha.sched_length]; exact hlt)
              generalize numL.getD t 0 = kt at ck EN
              generalize (Sha.sched b).getD t 0 = wt at cw EN
              have bt : (t : Int) < 64 := by omega
              go_wp2
              go_quiet (first | with_reducible exact ror_q6 _ _ _ | with_reducible exact ror_q11 _ _ _ | with_reducible exact ror_q25 _ _ _)
              go_wp2_with fail
              refine (signatoryref02_ror.calls v0 2 (Sha.rr v0 2) _ (ref02_ror_f v0 2 (by omega) (by omega))).mono ?_
              rintro e w' ⟨rfl, ⟨n2, rfl⟩⟩
              go_wp2_with fail
              refine (signatoryref02_ror.calls v0 13 (Sha.rr v0 13) _ (ref02_ror_f v0 13 (by omega) (by omega))).mono ?_
              rintro e w' ⟨rfl, ⟨n13, rfl⟩⟩
              go_wp2_with fail
              refine (signatoryref02_ror.calls v0 22 (Sha.rr v0 22) _ (ref02_ror_f v0 22 (by omega) (by omega))).mono ?_
              rintro e w' ⟨rfl, ⟨n22, rfl⟩⟩
              go_wp2_with fail
              have HKd := Aside0.mk (HK.out.drewN (nq + n2 + n13 + n22))
              have HWd := Aside0.mk (HW.out.drewN (nq + n2 + n13 + n22))
              have HRd := Aside0.mk (HRr.out.drewN (nq + n2 + n13 + n22))
              have HSd := Aside0.mk (HS.out.drewN (nq + n2 + n13 + n22))
              have HBd := Aside0.mk (pw_below_drewN HB.out (nq + n2 + n13 + n22))
              have EP : Sha.tp [v0, v1, v2, v3, v4, v5, v6, v7] kt wt = (v7 + Go.bits .xor .u32 (Go.bits .xor .u32 (Sha.rr v4 6) (Sha.rr v4 11)) (Sha.rr v4 25) + Go.bits .xor .u32 (Go.bits .and .u32 v4 v5) (Go.bits .and .u32 (Go.bits .xor .u32 IntKind.u32.max v4) v6) + kt + wt) % 4294967296 := by
                have b4 : 0 ≤ v4 ∧ v4 < 4294967296 := HU.out.getD 4
                show Sha.ad (Sha.ad (Sha.ad (Sha.ad v7 (Sha.sg v4 6 11 25)) (Sha.ch v4 v5 v6)) kt) wt = _
                rw [not_eq v4 b4.1 b4.2]
                simp only [Sha.ad, Sha.sg, Sha.ch, Sha.xr, Sha.an]
                omega
              have EQ : Sha.tq [v0, v1, v2, v3, v4, v5, v6, v7] = (Go.bits .xor .u32 (Go.bits .xor .u32 (Sha.rr v0 2) (Sha.rr v0 13)) (Sha.rr v0 22) + Go.bits .xor .u32 (Go.bits .xor .u32 (Go.bits .and .u32 v0 v1) (Go.bits .and .u32 v0 v2)) (Go.bits .and .u32 v1 v2)) % 4294967296 := by
                show Sha.ad (Sha.sg v0 2 13 22) (Sha.maj v0 v1 v2) = _
                simp only [Sha.ad, Sha.sg, Sha.maj, Sha.xr, Sha.an]
              refine ⟨⟨t + 1, _, _, _, _, _, _, _, _, by omega, by go_num, ⟨?eq⟩, rfl, rfl, rfl, rfl, rfl, rfl, rfl, rfl, HKd, HWd, HRd, HSd, HBd⟩, ?m⟩
              case m => simp [intOf]; omega
              case eq =>
                rw [← EN.out]
                show [Sha.ad (Sha.tp [v0, v1, v2, v3, v4, v5, v6, v7] kt wt) (Sha.tq [v0, v1, v2, v3, v4, v5, v6, v7]), v0, v1, v2, Sha.ad v3 (Sha.tp [v0, v1, v2, v3, v4, v5, v6, v7] kt wt), v4, v5, v6] = _
                rw [EP, EQ]
                rfl
            · have hlt' : decide ((t : Int) < 64) = false := decide_eq_false (by omega)
              have et : t = 64 := by omega
              subst et
              clear hlt
              simp only [Int.cast_ofNat_Int]
              obtain ⟨s0, s1, s2, s3, s4, s5, s6, s7, es, c0, c1, c2, c3, c4, c5, c6, c7⟩ := HS.out.eight HS8.out
              have ES := Aside0.mk es
              clear es
              have HRD : Aside0 (wr.heap[w.heap.size + 1]? = some (.cells (encW (List.replicate 8 0)) 104 (0, 0))) := ⟨HRr.out⟩
              go_wp2_with (first | ((with_reducible refine gate_store (t := 104) (p := 4) rfl ?_); refine wpList_store_row rfl 104 (.tmp 4) (.tmp 190) rfl rfl (w.heap.size + 1) rfl 104 (encW (List.replicate 8 0)) (encW [(s0 + v0) % 4294967296, (s1 + v1) % 4294967296, (s2 + v2) % 4294967296, (s3 + v3) % 4294967296, (s4 + v4) % 4294967296, (s5 + v5) % 4294967296, (s6 + v6) % 4294967296, (s7 + v7) % 4294967296]) rfl HRD.out (by kernel_rfl) rfl (encW_one _) ?_) | fail)
              have HF := Aside0.mk (setRow_heap wr (w.heap.size + 1) (encW (List.replicate 8 0)) (encW [(s0 + v0) % 4294967296, (s1 + v1) % 4294967296, (s2 + v2) % 4294967296, (s3 + v3) % 4294967296, (s4 + v4) % 4294967296, (s5 + v5) % 4294967296, (s6 + v6) % 4294967296, (s7 + v7) % 4294967296]) 104 (0, 0) HRD.out)
              have HB7 := Aside0.mk (HB.out.trans ((Only.setRow (w.heap.size + 1) wr (encW [(s0 + v0) % 4294967296, (s1 + v1) % 4294967296, (s2 + v2) % 4294967296, (s3 + v3) % 4294967296, (s4 + v4) % 4294967296, (s5 + v5) % 4294967296, (s6 + v6) % 4294967296, (s7 + v7) % 4294967296])).below HB.out.size (Nat.le_succ _)))
              refine bodyPost_ret (results_cell_row rfl _ _ (w.heap.size + 1) 104 (encW [(s0 + v0) % 4294967296, (s1 + v1) % 4294967296, (s2 + v2) % 4294967296, (s3 + v3) % 4294967296, (s4 + v4) % 4294967296, (s5 + v5) % 4294967296, (s6 + v6) % 4294967296, (s7 + v7) % 4294967296]) (0, 0) (.array 8 103) rfl HF.out (by kernel_rfl) rfl (by kernel_rfl)) rfl ?_
              refine ⟨?_, HB7.out⟩
              rw [Sha.block, ERt.out, ES.out]
              rfl

end Go.Proofs.YthladfegmedpnaaDoor.P

namespace Go.Proofs.YthladfegmedpnaaDoor.P
open Go.RowKit Go.Proofs.YthladfegmedpnaaDoorW.PrintWords Go.Proofs.YthladfegmedpnaaDoorW.PrintLast Go.Proofs.YthladfegmedpnaaDoorW.PrintMore Go.Proofs.YthladfegmedpnaaDoor
set_option linter.unusedVariables false
set_option linter.unusedSimpArgs false

/-- byte i of eight words. -/
theorem word_byte (f0 f1 f2 f3 f4 f5 f6 f7 : Int) (i : Nat) (hi : i < 32) : (([f0, f1, f2, f3, f4, f5, f6, f7].map Sha.be4).flatten).getD i 0 = ([f0, f1, f2, f3, f4, f5, f6, f7] : List Int).getD (i / 4) 0 / 2 ^ (24 - 8 * (i % 4)) % 256 := by
  have key : ∀ q r : Nat, q < 8 → r < 4 → (([f0, f1, f2, f3, f4, f5, f6, f7].map Sha.be4).flatten).getD (4 * q + r) 0 = ([f0, f1, f2, f3, f4, f5, f6, f7] : List Int).getD q 0 / 2 ^ (24 - 8 * r) % 256 := fun q r hq hr => by
    match q, hq with
    | 0, _ =>
      match r, hr with
      | 0, _ | 1, _ | 2, _ => rfl
      | 3, _ => simp [Sha.be4]
    | 1, _ =>
      match r, hr with
      | 0, _ | 1, _ | 2, _ => rfl
      | 3, _ => simp [Sha.be4]
    | 2, _ =>
      match r, hr with
      | 0, _ | 1, _ | 2, _ => rfl
      | 3, _ => simp [Sha.be4]
    | 3, _ =>
      match r, hr with
      | 0, _ | 1, _ | 2, _ => rfl
      | 3, _ => simp [Sha.be4]
    | 4, _ =>
      match r, hr with
      | 0, _ | 1, _ | 2, _ => rfl
      | 3, _ => simp [Sha.be4]
    | 5, _ =>
      match r, hr with
      | 0, _ | 1, _ | 2, _ => rfl
      | 3, _ => simp [Sha.be4]
    | 6, _ =>
      match r, hr with
      | 0, _ | 1, _ | 2, _ => rfl
      | 3, _ => simp [Sha.be4]
    | 7, _ =>
      match r, hr with
      | 0, _ | 1, _ | 2, _ => rfl
      | 3, _ => simp [Sha.be4]
  have := key (i / 4) (i % 4) (by omega) (by omega)
  rwa [show 4 * (i / 4) + i % 4 = i from by omega] at this

/-- the first i bytes of d, zeros behind. -/
def upL (d : List Int) (i : Nat) : List Int := d.take i ++ List.replicate (32 - i) 0
theorem upL_length (d : List Int) (hd : d.length = 32) (i : Nat) (hi : i ≤ 32) : (upL d i).length = 32 := by
  unfold upL; rw [List.length_append, List.length_take, List.length_replicate]; omega
theorem upL_set (d : List Int) (hd : d.length = 32) (i : Nat) (hi : i < 32) : (upL d i).set i (d.getD i 0) = upL d (i + 1) := by
  have ht : (d.take i).length = i := by rw [List.length_take]; omega
  unfold upL
  rw [show 32 - i = (32 - (i + 1)) + 1 from by omega, List.replicate_succ, List.set_append_right _ _ (by omega), ht, Nat.sub_self]
  rw [List.take_succ_eq_append_getElem (by omega : i < d.length)]
  simp only [List.getD_eq_getElem?_getD, List.getElem?_eq_getElem (show i < d.length by omega), List.set_cons_zero, Option.getD_some, List.append_assoc, List.singleton_append]
theorem upL_all (d : List Int) (hd : d.length = 32) : upL d 32 = d := by unfold upL; rw [List.take_of_length_le (by omega)]; simp
theorem upL_zero (d : List Int) : upL d 0 = List.replicate 32 0 := by unfold upL; simp

theorem padded_64 (l : List Int) : (Sha.padded l).length % 64 = 0 ∧ (Sha.padded l).length ≤ l.length + 100 := by
  rw [padded_eq, List.length_append, tailB_length]; unfold Sha.zeros; omega
theorem padded_bytes {l : List Int} (h : Bytes l) : Bytes (Sha.padded l) := by rw [padded_eq]; exact h.append (tailB_bytes _)

theorem exec_build {P : Program} {ρ : Operand → Value} {o : Oper} (t : TypeId) (ho : o.op = .build t #[]) (cells : Array Value) (h : P.built t [] = some cells) (w : World) : (execOp ρ o).run P w = .ok (.value (.agg cells)) w := by
  have := run_build (P := P) w t #[] cells h
  unfold execOp
  simp [ho, this]

theorem exec_alloc {P : Program} {ρ : Operand → Value} {o : Oper} (t : TypeId) (ho : o.op = .alloc t) {w w1 : World} (v : Value) (h : (Instr.alloc t true (.tuple #[])).run P w = .ok v w1) : (execOp ρ o).run P w = .ok (.value v) w1 := by
  unfold execOp
  simp [ho, h]

set_option maxHeartbeats 8000000 in
set_option maxRecDepth 100000 in
theorem ref02_Sum_makes (A : Option Addr) (c : Nat) (l : List Int) (w : World) (hr : Kd.C (Kd.int .u8) w A l.length l) (hc : l.length ≤ c) (hl : l.length ≤ 100000) (hb : Bytes l) :
    Calls Tryd.prog 89 #[.slice A l.length c] w fun e w' => e = .returned (.agg (encB (Sha.sum l))) ∧ Below w.heap.size w w' := by
  have HR := Aside0.mk hr
  have HC := Aside0.mk hc
  have HL := Aside0.mk hl
  have HBB := Aside0.mk hb
  clear hr hc hl hb
  have hzl := World.alloc_heap_new (w.alloc (.cells (encB (List.replicate 32 0)) 70)) (.cells (encW (List.replicate 8 0)) 104)
  rw [World.size_alloc] at hzl
  have HZL := Aside0.mk hzl
  clear hzl
  go_enter Tryd.func89, Tryd.ntmps89
  go_wp2_with (first | ((with_reducible refine gate_store (t := 104) (p := 3) rfl ?_); refine wpList_store_row rfl 104 (.tmp 3) (.tmp 8) rfl rfl (w.heap.size + 1) rfl 104 (encW (List.replicate 8 0)) (encW startL) rfl HZL.out (by kernel_rfl) rfl (encW_one _) ?_) | fail)
  have HS0 : Aside0 (Arr (((w.alloc (.cells (encB (List.replicate 32 0)) 70)).alloc (.cells (encW (List.replicate 8 0)) 104)).setRow (w.heap.size + 1) (encW startL)) (w.heap.size + 1) 104 startL) := ⟨setRow_heap _ _ (encW (List.replicate 8 0)) _ _ _ HZL.out⟩
  have HD0 : Aside0 (Brr (((w.alloc (.cells (encB (List.replicate 32 0)) 70)).alloc (.cells (encW (List.replicate 8 0)) 104)).setRow (w.heap.size + 1) (encW startL)) w.heap.size 70 (List.replicate 32 0)) := ⟨(setRow_other _ (w.heap.size + 1) w.heap.size _ (by omega)).trans (blk_alloc (World.alloc_heap_new _ _) _)⟩
  have HB0 : Aside0 (Below w.heap.size w (((w.alloc (.cells (encB (List.replicate 32 0)) 70)).alloc (.cells (encW (List.replicate 8 0)) 104)).setRow (w.heap.size + 1) (encW startL))) := ⟨(below_alloc (below_alloc (Below.refl _ w) _) _).trans ((Only.setRow (w.heap.size + 1) ((w.alloc (.cells (encB (List.replicate 32 0)) 70)).alloc (.cells (encW (List.replicate 8 0)) 104)) (encW startL)).below (by rw [World.size_alloc, World.size_alloc]; omega) (Nat.le_succ _))⟩
  clear HZL
  change Calls _ _ _ (((w.alloc (.cells (encB (List.replicate 32 0)) 70)).alloc (.cells (encW (List.replicate 8 0)) 104)).setRow (w.heap.size + 1) (encW startL)) _
  generalize ((w.alloc (.cells (encB (List.replicate 32 0)) 70)).alloc (.cells (encW (List.replicate 8 0)) 104)).setRow (w.heap.size + 1) (encW startL) = w1 at HS0 HD0 HB0 ⊢
  refine (signatoryref02_padded.calls 100 A c l (Sha.padded l) w1 (Kd.C_below HR.out HB0.out) HC.out (padded_f l HL.out)).mono ?_
  rintro e w2 ⟨v2, rfl, hR2, hb2⟩
  have hP64 := padded_64 l
  have hPl : 0 < (Sha.padded l).length := by rw [padded_eq, List.length_append, tailB_length]; omega
  have HF : Aside0 (blocksF startL (Sha.padded l) = blocksF startL (Sha.padded l)) := ⟨rfl⟩
  have HSM : Aside0 (Sha.sum l = ((blocksF startL (Sha.padded l)).map Sha.be4).flatten) := ⟨rfl⟩
  have HPB : Aside0 (Bytes (Sha.padded l)) := ⟨padded_bytes HBB.out⟩
  generalize hFF : blocksF startL (Sha.padded l) = F at HSM
  have HFF := Aside0.mk hFF
  clear hFF HF
  generalize Sha.padded l = P at hR2 hP64 hPl HPB HFF
  obtain ⟨gp, cp, rfl, hgb, hgl, hcl, hgh⟩ := Kd.R_form hR2 hPl
  obtain ⟨_, hcp, hcp2⟩ := Kd.R_reads' hR2
  have HCP := Aside0.mk hcp
  have HCR := Aside0.mk hcp2
  have HGP := Aside0.mk (show w.heap.size + 1 < gp from by have := HS0.out.lt; omega)
  have HP := Aside0.mk hP64
  have HS2 := Aside0.mk (HS0.out.below hb2)
  have HD2 := Aside0.mk (HD0.out.below hb2)
  have HB2 := Aside0.mk (below_step HB0.out hb2)
  clear hR2 hgb hgl hgh hcl hcp hcp2 hP64 hPl hb2 HS0 HD0 HB0
  obtain ⟨i03, hi03, _, hsz3, _⟩ := info_parts info5
  have HI := Aside0.mk (And.intro hi03 hsz3)
  clear hi03 hsz3
  go_wp2
  go_loopw [5] (fun v wr => ∃ (n : Nat) (s : List Int), v = .int .i64 n ∧ n ≤ P.length ∧ Aside0 (n % 64 = 0) ∧ Aside0 (Arr wr (w.heap.size + 1) 104 s) ∧ Aside0 (s.length = 8) ∧ Aside0 (Sha.U32 s) ∧ Aside0 (blocksF s (P.drop (n)) = F) ∧ Aside0 (Brr wr w.heap.size 70 (List.replicate 32 0)) ∧ Aside0 (Only (w.heap.size + 1) w2 wr)) (fun v _ => P.length - (intOf v).toNat)
  case atStart => exact ⟨0, startL, rfl, Nat.zero_le _, ⟨rfl⟩, HS2, ⟨rfl⟩, ⟨startL_u32⟩, HFF, HD2, ⟨Only.refl _ _⟩⟩
  case round =>
    clear HS2 HFF HD2
    obtain ⟨n, s, rfl, hk, HN, HS, HS8, HSU, HFr, HD, HO⟩ := hrel
    by_cases hlt : n < P.length
    · have hlt' : decide ((n : Int) < (P.length : Int)) = true := decide_eq_true (by omega)
      have h64 : n + 64 ≤ P.length := by have := HP.out; have := HN.out; omega
      have e64 : IntKind.i64.wrap ((n : Int) + 64) = (n : Int) + 64 := by have := HP.out; have := HL.out; rw [IntKind.wrap_i64]; omega
      obtain ⟨A', hcut, hA, hC⟩ := print_mid_of (P := Tryd.prog) (Value.int .u8) 0 43 5 .i64 .i64 Tryd.underlying43 HI.out.1 HI.out.2 (some ⟨gp, 0, none⟩) cp P (n : Int) ((n : Int) + 64) (by omega) (by omega) (by omega) HCP.out
      simp only [Int.toNat_natCast, show ((n : Int) + 64).toNat = n + 64 from by omega] at hcut hA hC
      have HBw := Aside0.mk (HB2.out.trans (HO.out.below HB2.out.size (Nat.le_succ _)))
      have HCw := Aside0.mk (C_only HCR.out HO.out (by have := HGP.out; omega))
      have HC4 := Aside0.mk hC
      have HR4 := Aside0.mk (Kd.C_of_reads (h1 := fun _ => rfl) (hA _ (Kd.reads_of_C HCw.out)))
      clear hA hC
      have hln : ((P.take (n + 64)).drop (n)).length = 64 := by rw [List.length_drop, List.length_take]; omega
      have HLN := Aside0.mk hln
      rw [hln] at hcut
      clear hln HCw
      obtain ⟨s0, s1, s2, s3, s4, s5, s6, s7, es, v0, v1, v2, v3, v4, v5, v6, v7⟩ := HS.out.eight HS8.out
      have ES := Aside0.mk es
      clear es
      go_wp2
      go_still_tail 6, (by kernel_rfl)
      change wpList _ _ _ _ _ wr.drew
      go_wp2_with fail
      have hag : (#[.int .u32 s0, .int .u32 s1, .int .u32 s2, .int .u32 s3, .int .u32 s4, .int .u32 s5, .int .u32 s6, .int .u32 s7] : Array Value) = encW s := by rw [ES.out]; rfl
      rw [hag]
      clear hag v0 v1 v2 v3 v4 v5 v6 v7
      have hcall := ref02_block_makes s A' (cp - n) ((P.take (n + 64)).drop n) wr.drew HS8.out HSU.out (Kd.C_below HR4.out (below_drew1 (Below.refl _ _))) HC4.out HLN.out ((HPB.out.take _).drop _)
      rw [HLN.out] at hcall
      refine hcall.mono ?_
      clear hcall hcut
      rintro e w3 ⟨rfl, hb3⟩
      have eb : (P.take (n + 64)).drop n = (P.drop n).take 64 := by rw [List.drop_take, show n + 64 - n = 64 from by omega]
      rw [eb]
      have HF2 : Aside0 (blocksF (Sha.block s ((P.drop n).take 64)) (P.drop (n + 64)) = F) := ⟨by
        rw [← HFr.out, blocksF_step s (P.drop n) (by rw [List.length_drop]; omega), List.drop_drop]⟩
      have HU2 := Aside0.mk (Sha.block_u32 HSU.out ((P.drop n).take 64))
      have HL2 := Aside0.mk (Sha.block_length s ((P.drop n).take 64))
      generalize Sha.block s ((P.drop n).take 64) = s2 at HF2 HU2 HL2 ⊢
      have hb4 : Below wr.heap.size wr w3 := below_step (W := wr.drew) (below_drew1 (Below.refl _ _)) hb3
      have HS3 := Aside0.mk (HS.out.below hb4)
      have HD3 := Aside0.mk (HD.out.below hb4)
      have HO3 := Aside0.mk (HO.out.trans (Only.of_below hb4))
      have HIS : Aside0 ((Tryd.prog.info? 104).map (·.size) = some (encW s2).size) := ⟨by rw [show (encW s2).size = 8 from by simp [encW, HL2.out]]; kernel_rfl⟩
      have HSZ : Aside0 ((encW s2).size = (encW s).size) := ⟨by simp [encW, HL2.out, HS8.out]⟩
      clear hb3 hb4 eb HS HD HO HR4 HC4
      go_wp2_with (first | ((with_reducible refine gate_store (t := 104) (p := 3) rfl ?_); refine wpList_store_row rfl 104 (.tmp 3) (.tmp 23) rfl rfl (w.heap.size + 1) rfl 104 (encW s) (encW s2) rfl HS3.out HIS.out HSZ.out (encW_one _) ?_) | fail)
      have HS4 : Aside0 (Arr (w3.setRow (w.heap.size + 1) (encW s2)) (w.heap.size + 1) 104 s2) := ⟨setRow_heap _ _ (encW s) _ _ _ HS3.out⟩
      have HD4 : Aside0 (Brr (w3.setRow (w.heap.size + 1) (encW s2)) w.heap.size 70 (List.replicate 32 0)) := ⟨(setRow_other _ (w.heap.size + 1) w.heap.size _ (by omega)).trans HD3.out⟩
      have HO4 := Aside0.mk (HO3.out.trans (Only.setRow (w.heap.size + 1) w3 (encW s2)))
      refine ⟨⟨n + 64, s2, by go_num, by omega, ⟨by have := HN.out; omega⟩, HS4, HL2, HU2, HF2, HD4, HO4⟩, ?_⟩
      simp [intOf]; omega
    · have hlt' : decide ((n : Int) < (P.length : Int)) = false := decide_eq_false (by omega)
      have en : n = P.length := by omega
      subst en
      have es : s = F := by have := HFr.out; rwa [List.drop_length, blocksF_done s [] (by simp)] at this
      subst es
      clear hlt HFr
      have hzl := World.alloc_heap_new wr (.cells (encB (List.replicate 32 0)) 70)
      have HZL := Aside0.mk hzl
      clear hzl
      have hbt : Tryd.prog.built 70 [] = some (encB (List.replicate 32 0)) := by kernel_rfl
      have hal : ∀ W : World, (Instr.alloc 70 true (.tuple #[])).run Tryd.prog W = .ok (.pointer (some ⟨W.heap.size, 0, none⟩)) (W.alloc (.cells (encB (List.replicate 32 0)) 70)) := fun W => by kernel_rfl
      go_upto_region 7 with (fail)
      refine wp_region_lit ?_
      refine Kd.event_run rfl (exec_build 70 rfl _ hbt _) ?_
      simp only [Act.put, List.setIfInBounds_toArray, List.set_cons_zero, List.set_cons_succ]
      refine Kd.event_run rfl (exec_alloc 70 rfl _ (hal _)) ?_
      simp only [Act.put, List.setIfInBounds_toArray, List.set_cons_zero, List.set_cons_succ]
      clear hbt hal
      refine wpList_store_row rfl 70 (.tmp 6) (.tmp 24) rfl rfl wr.heap.size rfl 70 (encB (List.replicate 32 0)) (encB (List.replicate 32 0)) rfl HZL.out (by kernel_rfl) rfl (encB_one _) ?_
      rw [setRow_self _ _ _ _ _ HZL.out]
      go_wp2_with fail
      have HBw := Aside0.mk (HB2.out.trans (HO.out.below HB2.out.size (Nat.le_succ _)))
      have HLD : Aside0 ((Sha.sum l).length = 32) := ⟨Sha_sum_length l⟩
      have HE0 : Aside0 (Brr (wr.alloc (.cells (encB (upL (Sha.sum l) 0)) 70)) wr.heap.size 70 (upL (Sha.sum l) 0)) := ⟨World.alloc_heap_new _ _⟩
      have HD5 : Aside0 (Brr (wr.alloc (.cells (encB (upL (Sha.sum l) 0)) 70)) w.heap.size 70 (List.replicate 32 0)) := ⟨blk_alloc HD.out _⟩
      have HS5 := Aside0.mk (HS.out.alloc (.cells (encB (upL (Sha.sum l) 0)) 70))
      have HB5 := Aside0.mk (below_alloc HBw.out (.cells (encB (upL (Sha.sum l) 0)) 70))
      have HGG := Aside0.mk (show w.heap.size + 1 < wr.heap.size from HS.out.lt)
      have hu0 : encB (List.replicate 32 0) = encB (upL (Sha.sum l) 0) := by rw [upL_zero]
      change Code.wp _ _ _ _ (wr.alloc (.cells (encB (List.replicate 32 0)) 70))
      rw [hu0]
      generalize wr.heap.size = gd at HE0 HGG ⊢
      generalize wr.alloc (.cells (encB (upL (Sha.sum l) 0)) 70) = w4 at HE0 HD5 HS5 HB5 ⊢
      clear HZL HD HO HS HBw hu0
      go_loopw [7] (fun v wr => ∃ i : Nat, i ≤ 32 ∧ v = .int .i64 i ∧ Aside0 (Brr wr gd 70 (upL (Sha.sum l) i)) ∧ Aside0 (Brr wr w.heap.size 70 (List.replicate 32 0)) ∧ Aside0 (Arr wr (w.heap.size + 1) 104 s) ∧ Aside0 (Below w.heap.size w wr)) (fun v _ => 32 - (intOf v).toNat)
      case atStart => exact ⟨0, by omega, rfl, HE0, HD5, HS5, HB5⟩
      case round =>
        clear HE0 HD5 HS5 HB5
        obtain ⟨i, hi, rfl, HE, HD, HS, HB⟩ := hrel
        by_cases hlt : i < 32
        · have hlt' : decide ((i : Int) < 32) = true := decide_eq_true (by omega)
          have EB : Aside0 ((Sha.sum l).getD i 0 = s.getD (i / 4) 0 / 2 ^ (24 - 8 * (i % 4)) % 256) := ⟨by
            rw [HSM.out]
            match s, HS8.out with
            | [f0, f1, f2, f3, f4, f5, f6, f7], _ => exact word_byte f0 f1 f2 f3 f4 f5 f6 f7 i hlt⟩
          have ck := HS.out.cell (i / 4) (by rw [HS8.out]; omega)
          have b4 : ((i / 4 : Nat) : Int) < 8 := by omega
          have b5 : (i : Int) < 32 := by omega
          generalize s.getD (i / 4) 0 = x at ck EB
          have cd := HE.out.cell i (by rw [upL_length _ HLD.out i hi]; exact hlt)
          have fd := HE.out.frozen i
          go_wp2
          have HE2 := Aside0.mk (HE.out.set i ((Sha.sum l).getD i 0))
          rw [upL_set _ HLD.out i hlt, EB.out] at HE2
          have HD2 := Aside0.mk (HD.out.far (p := ⟨gd, i, none⟩) (show w.heap.size ≠ gd from by have := HGG.out; omega) (.int .u8 (x / 2 ^ (24 - 8 * (i % 4)) % 256)))
          have HS2 := Aside0.mk (HS.out.far (p := ⟨gd, i, none⟩) (show w.heap.size + 1 ≠ gd from by have := HGG.out; omega) (.int .u8 (x / 2 ^ (24 - 8 * (i % 4)) % 256)))
          have HB2 := Aside0.mk (below_set (j := i) (v := .int .u8 (x / 2 ^ (24 - 8 * (i % 4)) % 256)) HB.out (show w.heap.size ≤ gd from by have := HGG.out; omega))
          refine ⟨⟨i + 1, by omega, by go_num, HE2, HD2, HS2, HB2⟩, ?_⟩
          simp [intOf]; omega
        · have hlt' : decide ((i : Int) < 32) = false := decide_eq_false (by omega)
          have ei : i = 32 := by omega
          subst ei
          clear hlt
          simp only [Int.cast_ofNat_Int]
          rw [upL_all _ HLD.out] at HE
          obtain ⟨dd, hdd⟩ : ∃ d, d = encB (Sha.sum l) := ⟨_, rfl⟩
          have HES : Aside0 (dd.size = 32) := ⟨by rw [hdd]; simp [encB, HLD.out]⟩
          have HIS : Aside0 ((Tryd.prog.info? 70).map (·.size) = some dd.size) := ⟨by rw [HES.out]; kernel_rfl⟩
          have HON : Aside0 (∀ v ∈ dd.toList, v.oneCell' = true) := ⟨by rw [hdd]; exact encB_one _⟩
          have HDD : Aside0 (wr.heap[gd]? = some (.cells dd 70 (0, 0))) := ⟨by rw [hdd]; exact HE.out⟩
          have HD2 : Aside0 (wr.heap[w.heap.size]? = some (.cells (encB (List.replicate 32 0)) 70 (0, 0))) := ⟨HD.out⟩
          have EDD := Aside0.mk hdd
          clear hdd HE HD HS
          go_wp2_with (first | ((with_reducible refine gate_dst (N := 41) rfl ?_); refine wpList_load_row rfl 70 (.tmp 6) rfl gd rfl 70 dd (0, 0) (.array 32 5) HDD.out (by kernel_rfl) rfl HIS.out ?_) | ((with_reducible refine gate_store (t := 70) (p := 2) rfl ?_); refine wpList_store_row rfl 70 (.tmp 2) (.tmp 41) rfl rfl w.heap.size rfl 70 (encB (List.replicate 32 0)) dd rfl HD2.out HIS.out (by rw [HES.out]; rfl) HON.out ?_) | fail)
          have HF := Aside0.mk (setRow_heap wr w.heap.size (encB (List.replicate 32 0)) dd 70 (0, 0) HD2.out)
          have HB7 := Aside0.mk (HB.out.trans ((Only.setRow w.heap.size wr dd).below HB.out.size (Nat.le_refl _)))
          refine bodyPost_ret (results_cell_row rfl _ _ w.heap.size 70 dd (0, 0) (.array 32 5) rfl HF.out (by kernel_rfl) rfl HIS.out) rfl ?_
          exact ⟨by rw [EDD.out], HB7.out⟩

end Go.Proofs.YthladfegmedpnaaDoor.P

namespace Go.Proofs.YthladfegmedpnaaDoor.P
open Go.RowKit Go.Proofs.YthladfegmedpnaaDoorW.PrintWords Go.Proofs.YthladfegmedpnaaDoorW.PrintLast Go.Proofs.YthladfegmedpnaaDoorW.PrintMore Go.Proofs.YthladfegmedpnaaDoor
set_option linter.unusedVariables false
set_option linter.unusedSimpArgs false

set_option maxHeartbeats 8000000 in
set_option maxRecDepth 100000 in
theorem ref02_Tagged_makes (tag : ByteArray) (A : Option Addr) (c : Nat) (l : List Int) (w : World) (ht : tag.size ≤ 64) (hr : Kd.C (Kd.int .u8) w A l.length l) (hc : l.length ≤ c) (hl : l.length ≤ 4096) (hb : Bytes l) :
    Calls Tryd.prog 69 #[.string tag, .slice A l.length c] w fun e w' => e = .returned (.agg (encB (Sha.sum (Sha.sum (bytesOf tag) ++ l)))) ∧ Below w.heap.size w w' := by
  have HR := Aside0.mk hr
  have HC := Aside0.mk hc
  have HL := Aside0.mk hl
  have HT := Aside0.mk ht
  have HBB := Aside0.mk hb
  clear hr hc hl hb ht
  have kb := fun W => print_bytes (P := Tryd.prog) 9 43 5 Tryd.underlying9 Tryd.underlying43 Tryd.underlying5 tag W
  go_enter Tryd.func69, Tryd.ntmps69
  go_wp2_with fail
  change Calls _ _ #[.slice (some ⟨w.heap.size + 1, 0, none⟩) tag.size (grownCap (w.alloc (.cells (encB (List.replicate 32 0)) 70)) tag.size 0 5)] (Lib.bytesWorld (w.alloc (.cells (encB (List.replicate 32 0)) 70)) 5 tag) _
  clear kb
  have HD0 : Aside0 (Brr (w.alloc (.cells (encB (List.replicate 32 0)) 70)) w.heap.size 70 (List.replicate 32 0)) := ⟨World.alloc_heap_new _ _⟩
  have HB0 := Aside0.mk (below_alloc (Below.refl _ w) (.cells (encB (List.replicate 32 0)) 70))
  have hrd := bytes_reads (w.alloc (.cells (encB (List.replicate 32 0)) 70)) 5 tag (by have := HT.out; omega)
  have hb1 := bytes_below (Below.refl (w.alloc (.cells (encB (List.replicate 32 0)) 70)).heap.size (w.alloc (.cells (encB (List.replicate 32 0)) 70))) (Nat.le_refl _) 5 tag
  rw [World.size_alloc] at hrd
  have hcap : tag.size ≤ grownCap (w.alloc (.cells (encB (List.replicate 32 0)) 70)) tag.size 0 5 := by first | exact grownCap_ge _ _ _ _ | exact le_grownCap _ _ _ _
  have HCP := Aside0.mk hcap
  have HRT := Aside0.mk (Kd.C_of_reads (h1 := fun _ => rfl) (show ReadsOf (Value.int .u8) 0 _ (some ⟨w.heap.size + 1, 0, none⟩) (bytesOf tag).length (bytesOf tag) from by rw [bytesOf_length]; exact hrd))
  have HD1 := Aside0.mk (HD0.out.below hb1)
  have HB1 := Aside0.mk (below_step HB0.out hb1)
  clear hrd hb1 hcap HD0 HB0
  generalize grownCap (w.alloc (.cells (encB (List.replicate 32 0)) 70)) tag.size 0 5 = cp at HCP ⊢
  generalize Lib.bytesWorld (w.alloc (.cells (encB (List.replicate 32 0)) 70)) 5 tag = w1 at HRT HD1 HB1 ⊢
  have hcall := ref02_Sum_makes (some ⟨w.heap.size + 1, 0, none⟩) cp (bytesOf tag) w1 HRT.out (by rw [bytesOf_length]; exact HCP.out) (by rw [bytesOf_length]; have := HT.out; omega) (bytesOf_bytes tag)
  rw [bytesOf_length] at hcall
  refine hcall.mono ?_
  clear hcall
  rintro e w2 ⟨rfl, hb2⟩
  have HD2 := Aside0.mk (HD1.out.below hb2)
  have HB2 := Aside0.mk (below_step HB1.out hb2)
  clear hb2 HD1 HB1 HRT
  have HS1 : Aside0 ((Sha.sum (bytesOf tag)).length = 32) := ⟨Sha_sum_length _⟩
  have HIS : Aside0 ((Tryd.prog.info? 70).map (·.size) = some (encB (Sha.sum (bytesOf tag))).size) := ⟨by rw [show (encB (Sha.sum (bytesOf tag))).size = 32 from by simp [encB, HS1.out]]; kernel_rfl⟩
  have HSB : Aside0 (Bytes (Sha.sum (bytesOf tag))) := ⟨Sha_sum_bytes _⟩
  obtain ⟨S1, hS1⟩ : ∃ s, s = Sha.sum (bytesOf tag) := ⟨_, rfl⟩
  rw [← hS1] at HS1 HIS HSB ⊢
  have ES1 := Aside0.mk hS1
  clear hS1
  go_upto_region 2 with (first | ((with_reducible refine gate_store (t := 70) (p := 5) rfl ?_); refine wpList_store_row rfl 70 (.tmp 5) (.tmp 8) rfl rfl w2.heap.size rfl 70 (encB (List.replicate 32 0)) (encB S1) rfl (World.alloc_heap_new _ _) HIS.out (by simp [encB, HS1.out]) (encB_one _) ?_; change wpList _ _ _ _ _ ((w2.alloc (.cells (encB (List.replicate 32 0)) 70)).setRow w2.heap.size (encB S1)); rw [World.setRow_alloc_new]) | fail)
  have HD3 := Aside0.mk (HD2.out.below (below_alloc (Below.refl _ _) (.cells (encB S1) 70)))
  have HB3 := Aside0.mk (below_alloc HB2.out (.cells (encB S1) 70))
  have hq1 : Brr (w2.alloc (.cells (encB S1) 70)) w2.heap.size 70 S1 := World.alloc_heap_new _ _
  have hrow := hq1.row 0 32 (by rw [HS1.out]; omega) (by rw [HS1.out]; omega)
  rw [List.drop_zero, List.take_of_length_le (by rw [HS1.out]; omega)] at hrow
  have HR0 := Aside0.mk (Kd.C_below HR.out HB3.out)
  have HR1 : Aside0 (Kd.C (Kd.int .u8) (w2.alloc (.cells (encB S1) 70)) (some ⟨w2.heap.size, 0, none⟩) 32 S1) := ⟨by rw [HS1.out] at hrow; exact hrow⟩
  clear hq1 hrow HD2 HB2 HR
  generalize hgt : w2.heap.size = gt at HR1 ⊢
  clear hgt
  obtain ⟨w3, hw3⟩ : ∃ x, x = w2.alloc (.cells (encB S1) 70) := ⟨_, rfl⟩
  rw [← hw3] at HD3 HB3 HR0 HR1 ⊢
  clear hw3
  have HBQ := Aside0.mk (Below.refl w3.heap.size w3)
  have HN0 : Aside0 (([] : List Int).length + S1.length < 140737488355328) := ⟨by rw [HS1.out]; simp⟩
  have HN1 : Aside0 (([] ++ S1 : List Int).length + l.length < 140737488355328) := ⟨by simp only [List.nil_append]; rw [HS1.out]; have := HL.out; omega⟩
  have HB := HBQ
  clear HBQ
  go_wp2_with (first | ((with_reducible refine gate_dst (N := 9) rfl ?_); refine Kd.R_lit (Kd.int .u8) _ 5 ?hg (N := 9) ?hd (xs := ([] : List Int)) (inner := []) (ok := fun _ => True) (okp := fun _ => True) ?hr ?hp (fun _ hk => hk) trivial (Below.refl _ _) (Nat.le_refl _) (by simp) ?_; (case hd => rfl); (case hg => rfl); (case hr => first | (go_simp; done) | (go_simp; rfl)); (case hp => exact (Reps.none _ _)); intro v9 w9 ho5 hb hg_ hnew_; clear hg_ hnew_; (try simp only [Int.reduceToNat] at ho5); clear HB; have HO := Aside0.mk ho5; have HB := Aside0.mk hb; clear hb ho5) | ((with_reducible refine gate_builtin (b := .append) (xs := #[.tmp 9, .tmp 10]) rfl ?_); at_builtin; refine Kd.R_append_rows (Kd.int .u8) (w0 := w3) w3.heap.size rfl (.tmp 9) (.tmp 10) 43 5 (.int .u8 0) 1 rfl Tryd.underlying43 info5 rfl (by decide) (by omega) v9 ([] : List Int) S1 _ _ _ (fun _ => True) (fun _ => False) rfl rfl ?aO ?aR (fun _ _ h => h) (fun _ h => h.elim) ?aF ?aB ?aS ?aL ?_; (case aR => exact (Kd.C_below HR1.out HB.out)); (case aB => exact HB.out); (case aF => exact (fun _ _ => trivial)); (case aO => exact HO.out); (case aS => exact (below_size HB.out)); (case aL => simp); intro v11 w11 ho hb hg hat; have n0_ := Aside0.mk hb; have n1_ := Aside0.mk ho; clear HB HO; have HB := n0_; have HO := n1_; clear n0_ n1_ ho hb hg hat) | ((with_reducible refine gate_builtin (b := .append) (xs := #[.tmp 11, .tmp 12]) rfl ?_); at_builtin; refine Kd.R_append_rows (Kd.int .u8) (w0 := w3) w3.heap.size rfl (.tmp 11) (.tmp 12) 43 5 (.int .u8 0) 1 rfl Tryd.underlying43 info5 rfl (by decide) (by omega) v11 ([] ++ S1 : List Int) l _ _ _ (fun _ => True) (fun _ => False) rfl rfl ?aO ?aR (fun _ _ h => h) (fun _ h => h.elim) ?aF ?aB ?aS ?aL ?_; (case aR => exact (Kd.C_below HR0.out HB.out)); (case aB => exact HB.out); (case aF => exact (fun _ _ => trivial)); (case aO => exact HO.out); (case aS => exact (below_size HB.out)); (case aL => have := HN1.out; omega); intro v13 w13 ho hb hg hat; have n0_ := Aside0.mk hb; have n1_ := Aside0.mk ho; clear HB HO; have HB := n0_; have HO := n1_; clear n0_ n1_ ho hb hg hat) | fail)
  have hR5 := HO.out
  rw [List.nil_append] at hR5
  have hb5 := HB.out
  clear HO HB HR0 HR1
  generalize v13 = v5 at hR5 ⊢
  generalize w13 = w5 at hR5 hb5 ⊢
  obtain ⟨A5, c5, rfl, hl5, hC5⟩ := Kd.R_reads hR5
  have HC5 := Aside0.mk hC5
  have HL5 := Aside0.mk hl5
  have HD5 := Aside0.mk (HD3.out.below hb5)
  have HB5 := Aside0.mk (below_step HB3.out hb5)
  clear hR5 hC5 hl5 hb5 HD3 HB3
  have HLL : Aside0 ((S1 ++ l).length ≤ 100000) := ⟨by rw [List.length_append, HS1.out]; have := HL.out; omega⟩
  have HBY : Aside0 (Bytes (S1 ++ l)) := ⟨HSB.out.append HBB.out⟩
  obtain ⟨L5, hL5⟩ : ∃ x, x = S1 ++ l := ⟨_, rfl⟩
  rw [← hL5] at HC5 HL5 HLL HBY ⊢
  have EL5 := Aside0.mk hL5
  clear hL5
  refine (ref02_Sum_makes A5 c5 L5 w5 HC5.out HL5.out HLL.out HBY.out).mono ?_
  rintro e w6 ⟨rfl, hb6⟩
  have HD6 := Aside0.mk (HD5.out.below hb6)
  have HB6 := Aside0.mk (below_step HB5.out hb6)
  clear hb6 HD5 HB5
  have HS6 : Aside0 ((Sha.sum L5).length = 32) := ⟨Sha_sum_length _⟩
  have HIS6 : Aside0 ((Tryd.prog.info? 70).map (·.size) = some (encB (Sha.sum L5)).size) := ⟨by rw [show (encB (Sha.sum L5)).size = 32 from by simp [encB, HS6.out]]; kernel_rfl⟩
  obtain ⟨S2, hS2⟩ : ∃ s, s = Sha.sum L5 := ⟨_, rfl⟩
  rw [← hS2] at HS6 HIS6 ⊢
  have ES2 := Aside0.mk hS2
  clear hS2
  go_wp2_with (first | ((with_reducible refine gate_store (t := 70) (p := 4) rfl ?_); refine wpList_store_row rfl 70 (.tmp 4) (.tmp 14) rfl rfl w.heap.size rfl 70 (encB (List.replicate 32 0)) (encB S2) rfl HD6.out HIS6.out (by simp [encB, HS6.out]) (encB_one _) ?_) | fail)
  have HF := Aside0.mk (setRow_heap w6 w.heap.size (encB (List.replicate 32 0)) (encB S2) 70 (0, 0) HD6.out)
  have HB7 := Aside0.mk (HB6.out.trans ((Only.setRow w.heap.size w6 (encB S2)).below HB6.out.size (Nat.le_refl _)))
  refine bodyPost_ret (results_cell_row rfl _ _ w.heap.size 70 (encB S2) (0, 0) (.array 32 5) rfl HF.out (by kernel_rfl) rfl HIS6.out) rfl ?_
  exact ⟨by rw [ES2.out, EL5.out, ES1.out], HB7.out⟩

end Go.Proofs.YthladfegmedpnaaDoor.P

namespace Go.Proofs.YthladfegmedpnaaDoor.P
open Go.RowKit Go.Proofs.YthladfegmedpnaaDoorW.PrintWords Go.Proofs.YthladfegmedpnaaDoorW.PrintLast Go.Proofs.YthladfegmedpnaaDoorW.PrintMore Go.Proofs.YthladfegmedpnaaDoor
set_option linter.unusedVariables false
set_option linter.unusedSimpArgs false

/-- the number that the first t + 1 bytes are, without the highest bit. -/
def numR (d : List Int) : Nat → Int
  | 0 => d.getD 0 0 % 128
  | t + 1 => numR d t * 256 + d.getD (t + 1) 0
theorem number_numR (d : List Int) : Sha.number d = numR d 7 := by simp [Sha.number, numR, List.range_succ]
theorem numR_bound (d : List Int) (hd : Bytes d) : ∀ t, 0 ≤ numR d t ∧ numR d t < 128 * 256 ^ t
  | 0 => by
    show 0 ≤ d.getD 0 0 % 128 ∧ d.getD 0 0 % 128 < 128 * 256 ^ 0
    rw [show (256 : Int) ^ 0 = 1 from rfl]
    omega
  | t + 1 => by
    have h := numR_bound d hd t
    have hb := bytes_getD hd (t + 1)
    rw [Int.pow_succ]
    show 0 ≤ numR d t * 256 + d.getD (t + 1) 0 ∧ numR d t * 256 + d.getD (t + 1) 0 < _
    generalize numR d t = X at h
    generalize (256 : Int) ^ t = Q at h
    generalize d.getD (t + 1) 0 = y at hb
    omega

set_option maxHeartbeats 8000000 in
set_option maxRecDepth 100000 in
theorem ref10_Hash_makes (tag : ByteArray) (A : Option Addr) (c : Nat) (l : List Int) (w : World) (ht : tag.size ≤ 64) (hr : Kd.C (Kd.int .u8) w A l.length l) (hc : l.length ≤ c) (hl : l.length ≤ 4096) (hb : Bytes l) :
    Calls Tryd.prog 43 #[.string tag, .slice A l.length c] w fun e w' => e = .returned (.int .i64 (hsh tag l)) ∧ Below w.heap.size w w' := by
  have HR := Aside0.mk hr
  have HC := Aside0.mk hc
  have HL := Aside0.mk hl
  have HT := Aside0.mk ht
  have HBB := Aside0.mk hb
  clear hr hc hl hb ht
  go_enter Tryd.func43, Tryd.ntmps43
  go_wp2_with fail
  refine (ref02_Tagged_makes tag A c l w HT.out HR.out HC.out HL.out HBB.out).mono ?_
  rintro e w2 ⟨rfl, hb2⟩
  have HB2 := Aside0.mk hb2
  clear hb2
  have HD : Aside0 (hsh tag l = Sha.number (Sha.sum (Sha.sum (bytesOf tag) ++ l)) % 1073741789) := ⟨rfl⟩
  have HS1 : Aside0 ((Sha.sum (Sha.sum (bytesOf tag) ++ l)).length = 32) := ⟨Sha_sum_length _⟩
  have HBY : Aside0 (Bytes (Sha.sum (Sha.sum (bytesOf tag) ++ l))) := ⟨Sha_sum_bytes _⟩
  generalize Sha.sum (Sha.sum (bytesOf tag) ++ l) = d at HD HS1 HBY ⊢
  have HIS : Aside0 ((Tryd.prog.info? 70).map (·.size) = some (encB d).size) := ⟨by rw [show (encB d).size = 32 from by simp [encB, HS1.out]]; kernel_rfl⟩
  have HW : Aside0 (Brr (w2.alloc (.cells (encB d) 70)) w2.heap.size 70 d) := ⟨World.alloc_heap_new _ _⟩
  have c0 := HW.out.cell 0 (by rw [HS1.out]; omega)
  have HB3 := Aside0.mk (below_alloc HB2.out (.cells (encB d) 70))
  have EN : Aside0 (Sha.number d = numR d 7) := ⟨number_numR d⟩
  have HGE := Aside0.mk HB2.out.size
  have hx := bytes_getD HBY.out 0
  have E0 : Aside0 (numR d 0 = d.getD 0 0 % 128) := ⟨rfl⟩
  generalize hx0 : d.getD 0 0 = x at c0 hx E0
  have HX0 := Aside0.mk hx0
  clear hx0
  go_upto_region 2 with (first | ((with_reducible refine gate_store (t := 70) (p := 5) rfl ?_); refine wpList_store_row rfl 70 (.tmp 5) (.tmp 10) rfl rfl w2.heap.size rfl 70 (encB (List.replicate 32 0)) (encB d) rfl (World.alloc_heap_new _ _) HIS.out (by simp [encB, HS1.out]) (encB_one _) ?_; change wpList _ _ _ _ _ ((w2.alloc (.cells (encB (List.replicate 32 0)) 70)).setRow w2.heap.size (encB d)); rw [World.setRow_alloc_new]) | fail)
  generalize w2.heap.size = gd at HW HGE c0 ⊢
  generalize w2.alloc (.cells (encB d) 70) = w3 at HW HB3 c0 ⊢
  clear HB2 HIS
  go_wp2
  have EX : wrap64 x = x := by unfold wrap64; omega
  have E1 : numR d 0 = x % 128 := E0.out
  clear E0 c0
  have EXR := Aside0.mk EX
  have HX := Aside0.mk hx
  clear EX hx
  go_loopw [6, 7] (fun n i wr => ∃ t : Nat, t ≤ 7 ∧ i = .int .i64 ((t + 1 : Nat) : Int) ∧ n = .int .i64 (numR d t) ∧ Aside0 (Brr wr gd 70 d) ∧ Aside0 (Below w.heap.size w wr)) (fun _ i _ => 8 - (intOf i).toNat)
  case atStart => exact ⟨0, by omega, rfl, by rw [E1], HW, HB3⟩
  case round =>
    clear HW HB3 E1
    obtain ⟨t, ht, rfl, rfl, HM, HB⟩ := hrel
    have HN : Aside0 (0 ≤ numR d t ∧ numR d t < 9223372036854775808) := ⟨by
      have h1 := numR_bound d HBY.out t
      have h3 : ∀ k, k < 8 → (256 : Int) ^ k ≤ 72057594037927936 := by decide
      have h2 := h3 t (by omega)
      generalize (256 : Int) ^ t = Q at h1 h2
      omega⟩
    by_cases hlt : t < 7
    · have hlt' : decide (((t + 1 : Nat) : Int) < 8) = true := decide_eq_true (by omega)
      have bt : ((t + 1 : Nat) : Int) < 32 := by omega
      have cm := HM.out.cell (t + 1) (by rw [HS1.out]; omega)
      have hy := bytes_getD HBY.out (t + 1)
      have HN2 : Aside0 (0 ≤ numR d t ∧ numR d t < 36028797018963968) := ⟨by
        have h1 := numR_bound d HBY.out t
        have h3 : ∀ k, k < 7 → (256 : Int) ^ k ≤ 281474976710656 := by decide
        have h2 := h3 t (by omega)
        generalize (256 : Int) ^ t = Q at h1 h2
        omega⟩
      have ENX : Aside0 (numR d (t + 1) = numR d t * 256 + d.getD (t + 1) 0) := ⟨rfl⟩
      generalize d.getD (t + 1) 0 = y at cm hy ENX
      have HY := Aside0.mk hy
      clear hy
      generalize hnn : numR d t = n at HN HN2 ENX
      clear hnn HN
      have n0 := HN2.out.1
      have n1 := HN2.out.2
      have y0 := HY.out.1
      have y1 := HY.out.2
      go_wp2
      refine ⟨⟨t + 1, by omega, by go_num, by rw [ENX.out], HM, HB⟩, ?_⟩
      simp [intOf]; omega
    · have hlt' : decide (((t + 1 : Nat) : Int) < 8) = false := decide_eq_false (by omega)
      have et : t = 7 := by omega
      subst et
      clear hlt
      simp only [Int.cast_ofNat_Int, Nat.reduceAdd] at *
      rw [← EN.out] at HN ⊢
      generalize Sha.number d = nn at HN HD ⊢
      have h0 := HN.out.1
      have h1 := HN.out.2
      go_wp2
      go_ret
      refine ⟨?_, HB.out⟩
      rw [HD.out]
      rfl

theorem signatoryref10_Hash.calls (a0 : ByteArray) (A1 : Option Addr) (c1 : Nat) (l1 : List Int) (r : Int) (w : World) (hr1 : Kd.C (Kd.int .u8) w A1 l1.length l1) (hc1 : l1.length ≤ c1) (h : signatoryref10_Hash.f a0 l1 = some r) :
    Calls Tryd.prog 43 #[.string a0, .slice A1 l1.length c1] w fun e w' => e = .returned (.int .i64 r) ∧ Below w.heap.size w w' := by
  unfold signatoryref10_Hash.f at h
  split at h
  · rename_i hh
    obtain ⟨h1, h2, h3⟩ := hh
    obtain rfl := Option.some.inj h
    exact ref10_Hash_makes a0 A1 c1 l1 w h1 hr1 hc1 h2 h3
  · cases h

end Go.Proofs.YthladfegmedpnaaDoor.P
