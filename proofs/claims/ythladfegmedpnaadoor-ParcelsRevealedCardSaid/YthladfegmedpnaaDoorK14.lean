import Derived.Test.YthladfegmedpnaaDoorK13
import Derived.Deep.WholeRow
import Derived.Test.YthladfegmedpnaaDoorK9
import Derived.Test.YthladfegmedpnaaDoorK4
import Derived.Test.YthladfegmedpnaaDoorK12
set_option linter.unusedVariables false
set_option linter.unusedSimpArgs false

namespace Go.Proofs.YthladfegmedpnaaDoor.P
open Go.RowKit Go.Proofs.YthladfegmedpnaaDoorW.PrintWords Go.Proofs.YthladfegmedpnaaDoorW.PrintLast Go.Proofs.YthladfegmedpnaaDoorW.PrintMore Go.Proofs.YthladfegmedpnaaDoor
set_option linter.unusedVariables false
set_option linter.unusedSimpArgs false

theorem concat_f (a b : List Int) (ha : a.length ≤ 1000) (hb : b.length ≤ 100000) : slices_Concat_byte_byte.f 10 [a, b] = some (a ++ b) := by
  have r0 : rd_L6 [a, b] 0 = a := rfl
  have r1 : rd_L6 [a, b] 1 = b := rfl
  have w1 : wrap64 (0 + (a.length : Int)) = (a.length : Int) := by unfold wrap64; omega
  have w2 : wrap64 ((a.length : Int) + (b.length : Int)) = ((a.length + b.length : Nat) : Int) := by unfold wrap64; omega
  have i1 : wrap64 (0 + 1) = 1 := by unfold wrap64; omega
  have i2 : wrap64 (1 + 1) = 2 := by unfold wrap64; omega
  have hl : (([a, b] : List (List Int)).length : Int) = 2 := rfl
  unfold slices_Concat_byte_byte.f
  simp only [slices_Concat_byte_byte.l0, slices_Concat_byte_byte.l1, hl, r0, r1, w1, i1, i2, w2, slices_Grow_byte_byte.f]
  rw [if_pos (by omega), if_pos (by omega), if_pos (by omega), if_neg (by omega)]
  rw [if_pos (by omega), if_pos (by omega), if_pos (by omega), if_neg (by omega)]
  rw [if_neg (by omega)]
  rw [if_pos ⟨by trivial, by omega, by omega⟩]
  simp only [Option.bind_some, List.length_nil, List.nil_append]
  rw [if_pos (by omega), if_pos (by omega), if_pos (by omega), if_pos (by omega)]
  rw [if_pos (by omega), if_pos (by omega), if_pos (by omega), if_pos (by omega)]
  rw [if_neg (by omega)]

theorem bytesOf_bytes (s : ByteArray) : Bytes (bytesOf s) := by
  intro x hx
  obtain ⟨b, _, rfl⟩ := List.mem_map.1 hx
  have := b.toNat_lt
  omega

theorem blocksF_length (s b : List Int) (hs : s.length = 8) : ∀ n, (Sha.blocks n s b).length = 8
  | 0 => hs
  | n + 1 => blocksF_length (Sha.block s (b.take 64)) (b.drop 64) (Sha.block_length _ _) n
theorem Sha_sum_length (l : List Int) : (Sha.sum l).length = 32 := by
  unfold Sha.sum
  rw [be4_flat_length, blocksF_length _ _ rfl]
theorem be4_bytes (x : Int) : Bytes (Sha.be4 x) := by
  intro y hy
  simp only [Sha.be4, List.mem_cons, List.not_mem_nil, or_false] at hy
  omega
theorem Sha_sum_bytes (l : List Int) : Bytes (Sha.sum l) := by
  intro x hx
  unfold Sha.sum at hx
  obtain ⟨y, hy, hx⟩ := List.mem_flatten.1 hx
  obtain ⟨n, _, rfl⟩ := List.mem_map.1 hy
  exact be4_bytes n x hx

set_option maxHeartbeats 8000000 in
set_option maxRecDepth 100000 in
theorem digest_Tagged_makes (tag : ByteArray) (A : Option Addr) (c : Nat) (l : List Int) (w : World) (ht : tag.size ≤ 64) (hr : Kd.C (Kd.int .u8) w A l.length l) (hc : l.length ≤ c) (hl : l.length ≤ 4096) (hb : Bytes l) (hG : Glob w) :
    Calls Tryd.prog 56 #[.string tag, .slice A l.length c] w fun e w' => e = .returned (.agg (encB (Sha.sum (Sha.sum (bytesOf tag) ++ l)))) ∧ Below w.heap.size w w' := by
  have HR := Aside0.mk hr
  have HC := Aside0.mk hc
  have HL := Aside0.mk hl
  have HT := Aside0.mk ht
  have HBB := Aside0.mk hb
  have HG := Aside0.mk hG
  clear hr hc hl hb hG ht
  have kb := fun W => print_bytes (P := Tryd.prog) 9 43 5 Tryd.underlying9 Tryd.underlying43 Tryd.underlying5 tag W
  go_enter Tryd.func56, Tryd.ntmps56
  go_wp2_with fail
  change Calls _ _ #[.slice (some ⟨w.heap.size + 1, 0, none⟩) tag.size (grownCap (w.alloc (.cells (encB (List.replicate 32 0)) 70)) tag.size 0 5)] (Lib.bytesWorld (w.alloc (.cells (encB (List.replicate 32 0)) 70)) 5 tag) _
  clear kb
  have HD0 : Aside0 (Brr (w.alloc (.cells (encB (List.replicate 32 0)) 70)) w.heap.size 70 (List.replicate 32 0)) := ⟨World.alloc_heap_new _ _⟩
  have HB0 := Aside0.mk (below_alloc (Below.refl _ w) (.cells (encB (List.replicate 32 0)) 70))
  have hrd := bytes_reads (w.alloc (.cells (encB (List.replicate 32 0)) 70)) 5 tag (by have := HT.out; omega)
  have hb1 := bytes_below (Below.refl (w.alloc (.cells (encB (List.replicate 32 0)) 70)).heap.size (w.alloc (.cells (encB (List.replicate 32 0)) 70))) (Nat.le_refl _) 5 tag
  rw [World.size_alloc] at hrd
  have hcap : tag.size ≤ grownCap (w.alloc (.cells (encB (List.replicate 32 0)) 70)) tag.size 0 5 := by first | exact grownCap_ge _ _ _ _ | exact le_grownCap _ _ _ _
  have HCP := Aside0.mk hcap
  have HRT := Aside0.mk (Kd.C_of_reads (h1 := fun _ => rfl) (show ReadsOf (Value.int .u8) 0 _ (some ⟨w.heap.size + 1, 0, none⟩) (bytesOf tag).length (bytesOf tag) from by rw [bytesOf_length]; exact hrd))
  have HD1 := Aside0.mk (HD0.out.below hb1)
  have HB1 := Aside0.mk (below_step HB0.out hb1)
  clear hrd hb1 hcap HD0 HB0
  generalize grownCap (w.alloc (.cells (encB (List.replicate 32 0)) 70)) tag.size 0 5 = cp at HCP ⊢
  generalize Lib.bytesWorld (w.alloc (.cells (encB (List.replicate 32 0)) 70)) 5 tag = w1 at HRT HD1 HB1 ⊢
  have hcall := digest_Sum_makes (some ⟨w.heap.size + 1, 0, none⟩) cp (bytesOf tag) w1 HRT.out (by rw [bytesOf_length]; exact HCP.out) (by rw [bytesOf_length]; have := HT.out; omega) (bytesOf_bytes tag) (HG.out.below HB1.out)
  rw [bytesOf_length] at hcall
  refine hcall.mono ?_
  clear hcall
  rintro e w2 ⟨rfl, hb2⟩
  have HD2 := Aside0.mk (HD1.out.below hb2)
  have HB2 := Aside0.mk (below_step HB1.out hb2)
  clear hb2 HD1 HB1 HRT
  have HS1 : Aside0 ((Sha.sum (bytesOf tag)).length = 32) := ⟨Sha_sum_length _⟩
  have HIS : Aside0 ((Tryd.prog.info? 70).map (·.size) = some (encB (Sha.sum (bytesOf tag))).size) := ⟨by rw [show (encB (Sha.sum (bytesOf tag))).size = 32 from by simp [encB, HS1.out]]; kernel_rfl⟩
  have HSB : Aside0 (Bytes (Sha.sum (bytesOf tag))) := ⟨Sha_sum_bytes _⟩
  obtain ⟨S1, hS1⟩ : ∃ s, s = Sha.sum (bytesOf tag) := ⟨_, rfl⟩
  rw [← hS1] at HS1 HIS HSB ⊢
  have ES1 := Aside0.mk hS1
  clear hS1
  go_wp2_with (first | ((with_reducible refine gate_store (t := 70) (p := 5) rfl ?_); refine wpList_store_row rfl 70 (.tmp 5) (.tmp 8) rfl rfl w2.heap.size rfl 70 (encB (List.replicate 32 0)) (encB S1) rfl (World.alloc_heap_new _ _) HIS.out (by simp [encB, HS1.out]) (encB_one _) ?_; change wpList _ _ _ _ _ ((w2.alloc (.cells (encB (List.replicate 32 0)) 70)).setRow w2.heap.size (encB S1)); rw [World.setRow_alloc_new]) | fail)
  have HD3 := Aside0.mk ((HD2.out.below (below_alloc (Below.refl _ _) (.cells (encB S1) 70))).below (below_alloc (Below.refl _ _) (.cells #[.slice (some ⟨w2.heap.size, 0, none⟩) 32 32, .slice A l.length c] 43)))
  have HB3 := Aside0.mk (below_alloc (below_alloc HB2.out (.cells (encB S1) 70)) (.cells #[.slice (some ⟨w2.heap.size, 0, none⟩) 32 32, .slice A l.length c] 43))
  have hq1 : Brr ((w2.alloc (.cells (encB S1) 70)).alloc (.cells #[.slice (some ⟨w2.heap.size, 0, none⟩) 32 32, .slice A l.length c] 43)) w2.heap.size 70 S1 := blk_alloc (World.alloc_heap_new _ _) _
  have hq2 := World.alloc_heap_new (w2.alloc (.cells (encB S1) 70)) (.cells #[.slice (some ⟨w2.heap.size, 0, none⟩) 32 32, .slice A l.length c] 43)
  rw [World.size_alloc] at hq2
  generalize (w2.alloc (.cells (encB S1) 70)).alloc (.cells #[.slice (some ⟨w2.heap.size, 0, none⟩) 32 32, .slice A l.length c] 43) = w4 at HD3 HB3 hq1 hq2 ⊢
  have hrow := hq1.row 0 32 (by rw [HS1.out]; omega) (by rw [HS1.out]; omega)
  rw [List.drop_zero, List.take_of_length_le (by rw [HS1.out]; omega)] at hrow
  have hC : Kd.C (Kd.slice 5 (Kd.int .u8)) w4 (some ⟨w2.heap.size + 1, 0, none⟩) ([S1, l] : List (List Int)).length [S1, l] := by
    refine ⟨rfl, by simp, fun _ => ⟨_, rfl, fun j p hj => ?_⟩⟩
    have hj2 : j < 2 := by have := (List.getElem?_eq_some_iff.1 hj).1; simpa using this
    match j, hj2, hj with
    | 0, _, hj =>
      obtain rfl := Option.some.inj hj
      refine ⟨[.slice (some ⟨w2.heap.size, 0, none⟩) S1.length 32], rfl, ⟨_, _, rfl, by rw [HS1.out]; omega, hrow⟩, fun i u hu => ?_⟩
      match i, hu with
      | 0, hu =>
        obtain rfl := Option.some.inj hu
        rw [HS1.out]
        exact (blk_cell hq2 0).trans rfl
    | 1, _, hj =>
      obtain rfl := Option.some.inj hj
      refine ⟨[.slice A l.length c], rfl, ⟨_, _, rfl, HC.out, Kd.C_below HR.out HB3.out⟩, fun i u hu => ?_⟩
      match i, hu with
      | 0, hu =>
        obtain rfl := Option.some.inj hu
        exact (blk_cell hq2 1).trans rfl
  refine (slices_Concat_byte_byte.calls 10 (some ⟨w2.heap.size + 1, 0, none⟩) 2 [S1, l] (S1 ++ l) w4 hC (by simp) (concat_f S1 l (by rw [HS1.out]; omega) (by have := HL.out; omega))).mono ?_
  clear hC hrow hq1 hq2
  rintro e w5 ⟨v5, rfl, hR5, hb5⟩
  obtain ⟨A5, c5, rfl, hl5, hC5⟩ := Kd.R_reads hR5
  have HC5 := Aside0.mk hC5
  have HL5 := Aside0.mk hl5
  have HD5 := Aside0.mk (HD3.out.below hb5)
  have HB5 := Aside0.mk (below_step HB3.out hb5)
  clear hR5 hC5 hl5 hb5 HD3 HB3
  have HLL : Aside0 ((S1 ++ l).length ≤ 100000) := ⟨by rw [List.length_append, HS1.out]; have := HL.out; omega⟩
  have HBY : Aside0 (Bytes (S1 ++ l)) := ⟨HSB.out.append HBB.out⟩
  obtain ⟨L5, hL5⟩ : ∃ x, x = S1 ++ l := ⟨_, rfl⟩
  rw [← hL5] at HC5 HL5 HLL HBY ⊢
  have EL5 := Aside0.mk hL5
  clear hL5
  go_wp2_with fail
  refine (digest_Sum_makes A5 c5 L5 w5 HC5.out HL5.out HLL.out HBY.out (HG.out.below HB5.out)).mono ?_
  rintro e w6 ⟨rfl, hb6⟩
  have HD6 := Aside0.mk (HD5.out.below hb6)
  have HB6 := Aside0.mk (below_step HB5.out hb6)
  clear hb6 HD5 HB5
  have HS6 : Aside0 ((Sha.sum L5).length = 32) := ⟨Sha_sum_length _⟩
  have HIS6 : Aside0 ((Tryd.prog.info? 70).map (·.size) = some (encB (Sha.sum L5)).size) := ⟨by rw [show (encB (Sha.sum L5)).size = 32 from by simp [encB, HS6.out]]; kernel_rfl⟩
  obtain ⟨S2, hS2⟩ : ∃ s, s = Sha.sum L5 := ⟨_, rfl⟩
  rw [← hS2] at HS6 HIS6 ⊢
  have ES2 := Aside0.mk hS2
  clear hS2
  go_wp2_with (first | ((with_reducible refine gate_store (t := 70) (p := 4) rfl ?_); refine wpList_store_row rfl 70 (.tmp 4) (.tmp 13) rfl rfl w.heap.size rfl 70 (encB (List.replicate 32 0)) (encB S2) rfl HD6.out HIS6.out (by simp [encB, HS6.out]) (encB_one _) ?_) | fail)
  have HF := Aside0.mk (setRow_heap w6 w.heap.size (encB (List.replicate 32 0)) (encB S2) 70 (0, 0) HD6.out)
  have HB7 := Aside0.mk (HB6.out.trans ((Only.setRow w.heap.size w6 (encB S2)).below HB6.out.size (Nat.le_refl _)))
  refine bodyPost_ret (results_cell_row rfl _ _ w.heap.size 70 (encB S2) (0, 0) (.array 32 5) rfl HF.out (by kernel_rfl) rfl HIS6.out) rfl ?_
  exact ⟨by rw [ES2.out, EL5.out, ES1.out], HB7.out⟩

end Go.Proofs.YthladfegmedpnaaDoor.P

namespace Go.Proofs.YthladfegmedpnaaDoor.P
open Go.RowKit Go.Proofs.YthladfegmedpnaaDoorW.PrintWords Go.Proofs.YthladfegmedpnaaDoorW.PrintLast Go.Proofs.YthladfegmedpnaaDoorW.PrintMore Go.Proofs.YthladfegmedpnaaDoor
set_option linter.unusedVariables false
set_option linter.unusedSimpArgs false

theorem i64_or_add (n c : Int) (h0 : 0 ≤ n) (h1 : n < 36028797018963968) (h2 : 0 ≤ c) (h3 : c < 256) : Go.bits .or .i64 (n * 256) c = n * 256 + c := by
  obtain ⟨N, rfl⟩ := Int.eq_ofNat_of_zero_le h0
  obtain ⟨C, rfl⟩ := Int.eq_ofNat_of_zero_le h2
  have e : ((N : Int) * 256) = ((N * 256 : Nat) : Int) := by omega
  rw [e]
  show IntKind.i64.wrap ((BitVec.ofInt 64 ((N * 256 : Nat) : Int) ||| BitVec.ofInt 64 (C : Int)).toNat : Int) = _
  rw [BitVec.toNat_or, ofInt_u64 _ (by omega), ofInt_u64 _ (by omega), nat_join 8 _ _ (by omega) (by omega), IntKind.wrap_i64]
  omega

theorem u8_and127 (x : Int) (h0 : 0 ≤ x) (h1 : x < 256) : Go.bits .and .u8 x 127 = x % 128 := by
  have := u8_and x 127 h0 h1 (by omega) (by omega)
  rw [this, show (127 : Int).toNat = 127 from rfl, nat_mask7]
  omega

/-- the number that the first t bytes are. -/
def numT (d : List Int) : Nat → Int
  | 0 => 0
  | t + 1 => numT d t * 256 + d.getD t 0
theorem numT_bound (d : List Int) (hd : Bytes d) (h0 : d.getD 0 0 < 128) : ∀ t, 1 ≤ t → 0 ≤ numT d t ∧ numT d t < 128 * 256 ^ (t - 1)
  | 1, _ => by
    have hb := bytes_getD hd 0
    show 0 ≤ (0 : Int) * 256 + d.getD 0 0 ∧ (0 : Int) * 256 + d.getD 0 0 < 128 * 256 ^ (1 - 1)
    rw [show (256 : Int) ^ (1 - 1) = 1 from rfl]
    omega
  | t + 2, _ => by
    have h := numT_bound d hd h0 (t + 1) (by omega)
    have hb := bytes_getD hd (t + 1)
    rw [show t + 1 - 1 = t from by omega] at h
    rw [show t + 2 - 1 = t + 1 from by omega, Int.pow_succ]
    show 0 ≤ numT d (t + 1) * 256 + d.getD (t + 1) 0 ∧ numT d (t + 1) * 256 + d.getD (t + 1) 0 < _
    generalize numT d (t + 1) = X at h
    generalize (256 : Int) ^ t = Q at h
    generalize d.getD (t + 1) 0 = y at hb
    omega
theorem number_eq (d : List Int) : Sha.number d = numT (d.set 0 (d.getD 0 0 % 128)) 8 ∨ d = [] := by
  cases d with
  | nil => exact Or.inr rfl
  | cons a d => left; simp [Sha.number, numT, List.range_succ]

set_option maxHeartbeats 8000000 in
set_option maxRecDepth 100000 in
theorem group_Hash_makes (tag : ByteArray) (A : Option Addr) (c : Nat) (l : List Int) (w : World) (ht : tag.size ≤ 64) (hr : Kd.C (Kd.int .u8) w A l.length l) (hc : l.length ≤ c) (hl : l.length ≤ 4096) (hb : Bytes l) (hG : Glob w) :
    Calls Tryd.prog 25 #[.string tag, .slice A l.length c] w fun e w' => e = .returned (.int .i64 (hsh tag l)) ∧ Below w.heap.size w w' := by
  have HR := Aside0.mk hr
  have HC := Aside0.mk hc
  have HL := Aside0.mk hl
  have HT := Aside0.mk ht
  have HBB := Aside0.mk hb
  have HG := Aside0.mk hG
  clear hr hc hl hb hG ht
  go_enter Tryd.func25, Tryd.ntmps25
  go_wp2_with fail
  refine (digest_Tagged_makes tag A c l w HT.out HR.out HC.out HL.out HBB.out HG.out).mono ?_
  rintro e w2 ⟨rfl, hb2⟩
  have HB2 := Aside0.mk hb2
  clear hb2
  have HD : Aside0 (hsh tag l = Sha.number (Sha.sum (Sha.sum (bytesOf tag) ++ l)) % 1073741789) := ⟨rfl⟩
  have HS1 : Aside0 ((Sha.sum (Sha.sum (bytesOf tag) ++ l)).length = 32) := ⟨Sha_sum_length _⟩
  have HBY : Aside0 (Bytes (Sha.sum (Sha.sum (bytesOf tag) ++ l))) := ⟨Sha_sum_bytes _⟩
  generalize Sha.sum (Sha.sum (bytesOf tag) ++ l) = d at HD HS1 HBY ⊢
  have HIS : Aside0 ((Tryd.prog.info? 70).map (·.size) = some (encB d).size) := ⟨by rw [show (encB d).size = 32 from by simp [encB, HS1.out]]; kernel_rfl⟩
  have HW : Aside0 (Brr (w2.alloc (.cells (encB d) 70)) w2.heap.size 70 d) := ⟨World.alloc_heap_new _ _⟩
  have c0 := HW.out.cell 0 (by rw [HS1.out]; omega)
  have f0 := HW.out.frozen 0
  have hx := bytes_getD HBY.out 0
  generalize hx0 : d.getD 0 0 = x at c0 hx
  have HX0 := Aside0.mk hx0
  have HX := Aside0.mk hx
  clear hx hx0
  go_wp2_with (first | ((with_reducible refine gate_store (t := 70) (p := 5) rfl ?_); refine wpList_store_row rfl 70 (.tmp 5) (.tmp 9) rfl rfl w2.heap.size rfl 70 (encB (List.replicate 32 0)) (encB d) rfl (World.alloc_heap_new _ _) HIS.out (by simp [encB, HS1.out]) (encB_one _) ?_; change wpList _ _ _ _ _ ((w2.alloc (.cells (encB (List.replicate 32 0)) 70)).setRow w2.heap.size (encB d)); rw [World.setRow_alloc_new]) | fail)
  have ed : (encB d).setIfInBounds 0 (.int .u8 (x % 128)) = encB (d.set 0 (x % 128)) := by simp [encB, List.map_set]
  have EA : Go.bits .and .u8 x 127 = x % 128 := u8_and127 x HX.out.1 HX.out.2
  rw [EA, ed]
  have HM : Aside0 (Brr (w2.alloc (.cells (encB (d.set 0 (x % 128))) 70)) w2.heap.size 70 (d.set 0 (x % 128))) := ⟨World.alloc_heap_new _ _⟩
  have HB3 := Aside0.mk (below_alloc HB2.out (.cells (encB (d.set 0 (x % 128))) 70))
  have EN : Aside0 (Sha.number d = numT (d.set 0 (x % 128)) 8) := ⟨by
    rcases number_eq d with h | h
    · rw [h, HX0.out]
    · exfalso; have := HS1.out; rw [h] at this; simp at this⟩
  have HL2 : Aside0 ((d.set 0 (x % 128)).length = 32) := ⟨by rw [List.length_set]; exact HS1.out⟩
  have HBY2 : Aside0 (Bytes (d.set 0 (x % 128))) := ⟨fun y hy => by
    rcases List.mem_or_eq_of_mem_set hy with h | rfl
    · exact HBY.out y h
    · have := HX.out; omega⟩
  have H0 : Aside0 ((d.set 0 (x % 128)).getD 0 0 < 128) := ⟨by
    have : (d.set 0 (x % 128)).getD 0 0 = x % 128 := by
      rw [List.getD_eq_getElem?_getD, List.getElem?_set_self (by rw [HS1.out]; omega)]; rfl
    rw [this]; omega⟩
  have HGE := Aside0.mk HB2.out.size
  clear ed c0 f0 HW HB2 HIS
  generalize d.set 0 (x % 128) = m at HM HB3 EN HL2 HBY2 H0 ⊢
  generalize w2.heap.size = gd at HM HGE ⊢
  generalize w2.alloc (.cells (encB m) 70) = w3 at HM HB3 ⊢
  go_loopw [4, 14] (fun n i wr => ∃ t : Nat, t ≤ 8 ∧ i = .int .i64 t ∧ n = .int .i64 (numT m t) ∧ Aside0 (Brr wr gd 70 m) ∧ Aside0 (Below w.heap.size w wr)) (fun _ i _ => 8 - (intOf i).toNat)
  case atStart => exact ⟨0, by omega, rfl, rfl, HM, HB3⟩
  case round =>
    clear HM HB3
    obtain ⟨t, ht, rfl, rfl, HM, HB⟩ := hrel
    by_cases hlt : t < 8
    · have hlt' : decide ((t : Int) < 8) = true := decide_eq_true (by omega)
      have bt : (t : Int) < 32 := by omega
      have cm := HM.out.cell t (by rw [HL2.out]; omega)
      have hy := bytes_getD HBY2.out t
      have HN : Aside0 (0 ≤ numT m t ∧ numT m t < 36028797018963968) := ⟨by
        rcases Nat.eq_zero_or_pos t with h | h
        · subst h; simp [numT]
        · have h1 := numT_bound m HBY2.out H0.out t h
          have h3 : ∀ k, k < 7 → (256 : Int) ^ k ≤ 281474976710656 := by decide
          have h2 := h3 (t - 1) (by omega)
          generalize (256 : Int) ^ (t - 1) = Q at h1 h2
          omega⟩
      have ENX : Aside0 (numT m (t + 1) = numT m t * 256 + m.getD t 0) := ⟨rfl⟩
      generalize m.getD t 0 = y at cm hy ENX
      have HY := Aside0.mk hy
      clear hy
      generalize hnn : numT m t = n at HN ENX
      clear hnn
      have EO := i64_or_add n y HN.out.1 HN.out.2 HY.out.1 HY.out.2
      have ew : IntKind.i64.wrap (n * 256) = n * 256 := by have := HN.out; rw [IntKind.wrap_i64]; omega
      go_wp2
      have EY : wrap64 y = y := by have := HY.out; unfold wrap64; omega
      rw [EY, EO, ← ENX.out]
      refine ⟨⟨t + 1, by omega, by go_num, rfl, HM, HB⟩, ?_⟩
      simp [intOf]; omega
    · have hlt' : decide ((t : Int) < 8) = false := decide_eq_false (by omega)
      have et : t = 8 := by omega
      subst et
      clear hlt
      simp only [Int.cast_ofNat_Int]
      have hnn := (numT_bound m HBY2.out H0.out 8 (by omega))
      rw [← EN.out] at hnn ⊢
      generalize Sha.number d = nn at hnn HD ⊢
      have h0 := hnn.1
      have h1 : nn < 9223372036854775808 := by have h3 : (128 : Int) * 256 ^ (8 - 1) = 9223372036854775808 := by decide
                                               have := hnn.2; omega
      have HN0 := Aside0.mk h0
      clear hnn
      go_wp2
      go_ret
      refine ⟨?_, HB.out⟩
      rw [HD.out]
      rfl

theorem group_Hash.calls (a0 : ByteArray) (A1 : Option Addr) (c1 : Nat) (l1 : List Int) (r : Int) (w : World) (hr1 : Kd.C (Kd.int .u8) w A1 l1.length l1) (hc1 : l1.length ≤ c1) (h : group_Hash.f a0 l1 = some r) (hG : Glob w := by first | exact hG | exact Glob.below hG HB.out | exact Glob.below hG (by repeat (first | (with_reducible first | exact HB.out | apply below_alloc | apply pw_below_drewN | apply below_drew1 | refine below_set ?_ (Aside0.out (by assumption))) | exact HB.out))) :
    Calls Tryd.prog 25 #[.string a0, .slice A1 l1.length c1] w fun e w' => e = .returned (.int .i64 r) ∧ Below w.heap.size w w' := by
  unfold group_Hash.f at h
  split at h
  · rename_i hh
    obtain ⟨h1, h2, h3⟩ := hh
    obtain rfl := Option.some.inj h
    exact group_Hash_makes a0 A1 c1 l1 w h1 hr1 hc1 h2 h3 hG
  · cases h

end Go.Proofs.YthladfegmedpnaaDoor.P
namespace Go.Proofs.YthladfegmedpnaaDoor.P
open Go.RowKit Go.Proofs.YthladfegmedpnaaDoorW.PrintWords Go.Proofs.YthladfegmedpnaaDoorW.PrintLast Go.Proofs.YthladfegmedpnaaDoorW.PrintMore
attribute [local go_sem] max2_int min2_int max_two min_two max_three min_three max_four min_four
set_option linter.unusedVariables false
set_option linter.unusedSimpArgs false

/-! ### parcels_pad: function 62 -/
def parcels_pad.f (k : Nat) (a0 : Int) (a1 : Int) (a2 : Int) : Option (Int) := (parcels_integers.f k (([a0, a1, a2] : List Int))).bind fun t627 => ((group_Hash.f (⟨#[112, 97, 100]⟩ : ByteArray) t627).bind fun t630 => (some t630))
theorem parcels_pad.mono : ∀ a0 a1 a2 k, LeO (parcels_pad.f k a0 a1 a2) (parcels_pad.f (k + 1) a0 a1 a2) := by
  intro a0 a1 a2 k
  unfold parcels_pad.f
  repeat' first
      | (with_reducible exact parcels_integers.mono _ _)
      | (with_reducible exact LeO.refl _)
      | (with_reducible exact LeO.none _)
      | (with_reducible refine LeO.ite ?_ ?_)
      | (with_reducible refine LeO.bind ?_ (fun _ => ?_))
      | exact parcels_integers.mono _ _
      | exact LeO.none _
      | refine LeO.ite ?_ ?_
      | refine LeO.bind ?_ (fun _ => ?_)
set_option maxHeartbeats 8000000 in
set_option maxRecDepth 100000 in
theorem parcels_pad.calls (k : Nat) (a0 : Int) (a1 : Int) (a2 : Int) (r : Int) (w : World) (h : parcels_pad.f k a0 a1 a2 = some r) (hG : Glob w := by first | exact hG | exact Glob.below hG HB.out | exact Glob.below hG (by repeat (first | (with_reducible first | exact HB.out | apply below_alloc | apply pw_below_drewN | apply below_drew1 | refine below_set ?_ (Aside0.out (by assumption))) | exact HB.out))) :
    Calls Tryd.prog 62 #[.int .i64 a0, .int .i64 a1, .int .i64 a2] w fun e w' => e = .returned (.int .i64 r) ∧ Below w.heap.size w w' := by
  have HB := Aside0.mk (Below.refl w.heap.size w)
  have H : ((parcels_integers.f k (([a0, a1, a2] : List Int))).bind fun t627 => ((group_Hash.f (⟨#[112, 97, 100]⟩ : ByteArray) t627).bind fun t630 => (some t630))) = some r := h
  clear h
  obtain ⟨y624, hy624⟩ : ∃ y_ : List Int, y_ = (([a0, a1, a2] : List Int)) := ⟨_, rfl⟩
  replace H : ((parcels_integers.f k y624).bind fun t627 => ((group_Hash.f (⟨#[112, 97, 100]⟩ : ByteArray) t627).bind fun t630 => (some t630))) = some r := by first | (rw [hy624]; with_reducible exact H) | (have H2_ := (Option.bind_some _ _).symm.trans H; rw [hy624]; with_reducible exact H2_) | (have H2_ := (Option.bind_some _ _).symm.trans H; with_reducible exact H2_) | with_reducible exact H | (rw [hy624]; exact H) | exact H
  have Ny624 := Aside0.mk hy624
  clear hy624
  replace H := Option.bind_eq_some_iff.mp H
  obtain ⟨t627, A40, H⟩ := H
  replace H : ((group_Hash.f (⟨#[112, 97, 100]⟩ : ByteArray) t627).bind fun t630 => (some t630)) = some r := H
  have A4 := Aside0.mk A40
  clear A40
  replace H := Option.bind_eq_some_iff.mp H
  obtain ⟨t630, A50, H⟩ := H
  replace H : (some t630) = some r := H
  have A5 := Aside0.mk A50
  clear A50
  obtain rfl := Option.some.inj H
  go_enter Tryd.func62, Tryd.ntmps62
  go_wp2_with (first | ((with_reducible refine gate_dst (N := 10) rfl ?_); refine Kd.R_lit (Kd.int .i64) _ 3 ?hg (N := 10) ?hd (xs := ([a0, a1, a2] : List Int)) (inner := [.int .i64 a0, .int .i64 a1, .int .i64 a2]) (ok := fun _ => True) (okp := fun _ => True) ?hr ?hp (fun _ hk => hk) trivial (Below.refl _ _) (Nat.le_refl _) (by simp) ?_; (case hd => rfl); (case hg => rfl); (case hr => first | (go_simp; done) | (go_simp; rfl)); (case hp => exact (Reps.one (show Kd.M (Kd.int .i64) _ _ _ a0 [.int .i64 a0] from rfl) (Reps.one (show Kd.M (Kd.int .i64) _ _ _ a1 [.int .i64 a1] from rfl) (Reps.one (show Kd.M (Kd.int .i64) _ _ _ a2 [.int .i64 a2] from rfl) (Reps.none _ _))))); intro v625 w6 ho7 hb hg_ hnew_; clear hg_ hnew_; (first | rw [← Ny624.out] at ho7 | (simp only [Int.reduceToNat] at ho7; rw [← Ny624.out] at ho7)); have n0_ := Aside0.mk (Kd.R_lower ho7 (below_size (by repeat (first | (with_reducible first | exact HB.out | apply below_alloc | apply pw_below_drewN | apply below_drew1) | exact HB.out)))); have n1_ := Aside0.mk (below_step (by repeat (first | (with_reducible first | exact HB.out | apply below_alloc | apply pw_below_drewN | apply below_drew1) | exact HB.out)) hb); clear HB; have HO626 := n0_; have HB := n1_; clear n0_ n1_; clear hb ho7; obtain ⟨Ao8, co8, eo8⟩ := Kd.R_slice HO626.out; subst eo8) | ((with_reducible refine gate_callee (f := 84) rfl ?_); refine goesL_ (some 11) rfl rfl Tryd.func84 (by kernel_rfl) rfl #[.slice Ao8 y624.length co8] rfl (by (try simp only [List.map_toArray, List.map_cons, List.map_nil]); first | done | rfl | (simp only [List.length_drop, List.length_take]; rfl)) ?_; (with_reducible refine (parcels_integers.calls k _ _ y624 t627 _ ?side1 ?side2 A4.out).mono ?_); (case side1 => repeat (first | exact (Kd.R_reads' HO626.out).2.2 | (with_reducible refine Kd.C_alloc ?_ _) | (with_reducible refine Kd.C_drewN ?_ _) | (with_reducible refine Kd.C_drew ?_))); (case side2 => exact (Kd.R_reads' HO626.out).2.1); rintro e w9 ⟨v628, rfl, ho0, hb⟩; refine ⟨_, rfl, ?_⟩; have n0_ := Aside0.mk (Kd.R_below (by (with_reducible repeat (first | apply Kd.R_alloc | apply Kd.R_drewN | apply Kd.R_drew)); exact HO626.out) hb); have n1_ := Aside0.mk (Kd.R_lower ho0 (below_size (by repeat (first | (with_reducible first | exact HB.out | apply below_alloc | apply pw_below_drewN | apply below_drew1) | exact HB.out)))); have n2_ := Aside0.mk (below_step (by repeat (first | (with_reducible first | exact HB.out | apply below_alloc | apply pw_below_drewN | apply below_drew1) | exact HB.out)) hb); clear HO626; clear HB; have HO626 := n0_; have HO629 := n1_; have HB := n2_; clear n0_ n1_ n2_; (try clear hb); (try clear hb2); (try clear hk); (try clear hi); (try clear ho0); obtain ⟨Ao10, co10, eo10⟩ := Kd.R_slice HO629.out; subst eo10) | ((with_reducible refine gate_callee (f := 25) rfl ?_); refine goesL_ (some 12) rfl rfl Tryd.func25 (by kernel_rfl) rfl #[.string (⟨#[112, 97, 100]⟩ : ByteArray), .slice Ao10 t627.length co10] rfl (by (try simp only [List.map_toArray, List.map_cons, List.map_nil]); first | done | rfl | (simp only [List.length_drop, List.length_take]; rfl)) ?_; (with_reducible refine (group_Hash.calls (⟨#[112, 97, 100]⟩ : ByteArray) _ _ t627 t630 _ ?side1 ?side2 A5.out).mono ?_); (case side1 => repeat (first | exact (Kd.R_reads' HO629.out).2.2 | (with_reducible refine Kd.C_alloc ?_ _) | (with_reducible refine Kd.C_drewN ?_ _) | (with_reducible refine Kd.C_drew ?_))); (case side2 => exact (Kd.R_reads' HO629.out).2.1); rintro e w11 ⟨rfl, hb⟩; refine ⟨_, rfl, ?_⟩; have n0_ := Aside0.mk (Kd.R_below (by (with_reducible repeat (first | apply Kd.R_alloc | apply Kd.R_drewN | apply Kd.R_drew)); exact HO626.out) hb); have n1_ := Aside0.mk (Kd.R_below (by (with_reducible repeat (first | apply Kd.R_alloc | apply Kd.R_drewN | apply Kd.R_drew)); exact HO629.out) hb); have n2_ := Aside0.mk (below_step (by repeat (first | (with_reducible first | exact HB.out | apply below_alloc | apply pw_below_drewN | apply below_drew1) | exact HB.out)) hb); clear HO626; clear HO629; clear HB; have HO626 := n0_; have HO629 := n1_; have HB := n2_; clear n0_ n1_ n2_; (try clear hb); (try clear hb2); (try clear hk); (try clear hi)))
  go_ret
  exact ⟨by first | rfl | (simp [errW_none, errW_some] <;> rfl) | (simp [*, errW_none, errW_some] <;> rfl), by repeat (first | (with_reducible first | exact HB.out | apply below_alloc | apply pw_below_drewN | apply below_drew1) | exact HB.out)⟩

end Go.Proofs.YthladfegmedpnaaDoor.P
namespace Go.Proofs.YthladfegmedpnaaDoor.P
open Go.RowKit Go.Proofs.YthladfegmedpnaaDoorW.PrintWords Go.Proofs.YthladfegmedpnaaDoorW.PrintLast Go.Proofs.YthladfegmedpnaaDoorW.PrintMore
attribute [local go_sem] max2_int min2_int max_two min_two max_three min_three max_four min_four
set_option linter.unusedVariables false
set_option linter.unusedSimpArgs false

/-! ### parcels_opened: function 65 -/
def parcels_opened.f (k : Nat) (a0 : Int) (a1 : Int) (a2_0 : Int) (a2_1 : Int) (a2_2 : Int) : Option (Int) := (parcels_pad.f k a0 a1 a2_0).bind fun t632 => (some (Int.tmod (wrap64 ((wrap64 (a2_2 - t632)) + 1073741789)) 1073741789))
theorem parcels_opened.mono : ∀ a0 a1 a2 a3 a4 k, LeO (parcels_opened.f k a0 a1 a2 a3 a4) (parcels_opened.f (k + 1) a0 a1 a2 a3 a4) := by
  intro a0 a1 a2 a3 a4 k
  unfold parcels_opened.f
  repeat' first
      | (with_reducible exact parcels_pad.mono _ _ _ _)
      | (with_reducible exact LeO.refl _)
      | (with_reducible exact LeO.none _)
      | (with_reducible refine LeO.ite ?_ ?_)
      | (with_reducible refine LeO.bind ?_ (fun _ => ?_))
      | exact parcels_pad.mono _ _ _ _
      | exact LeO.none _
      | refine LeO.ite ?_ ?_
      | refine LeO.bind ?_ (fun _ => ?_)
def parcels_opened.T1 : Bool × List (List Nat × List Nat) := (true, [([], []), ([0], [0]), ([], []), ([], []), ([], []), ([4], [4]), ([2, 3, 5], [2, 3, 5]), ([1, 6], [1, 6]), ([7], [7]), ([8], [8]), ([9, 6, 0, 1, 2, 3, 4, 5, 6, 7, 8, 9], [9])])
def parcels_opened.B1 : List Nat := [0, 1, 0, 0, 0, 16, 60, 127, 255, 511, 1023]
theorem parcels_opened.tab1 : rtab .any (opsOf Tryd.f65 1) = parcels_opened.T1 := by kernel_rfl
theorem parcels_opened.bits1 : waitsOk parcels_opened.T1.2 parcels_opened.B1 = true := by kernel_rfl
set_option maxHeartbeats 8000000 in
set_option maxRecDepth 100000 in
theorem parcels_opened.calls (k : Nat) (a0 : Int) (a1 : Int) (a2_0 : Int) (a2_1 : Int) (a2_2 : Int) (r : Int) (w : World) (h : parcels_opened.f k a0 a1 a2_0 a2_1 a2_2 = some r) (hG : Glob w := by first | exact hG | exact Glob.below hG HB.out | exact Glob.below hG (by repeat (first | (with_reducible first | exact HB.out | apply below_alloc | apply pw_below_drewN | apply below_drew1 | refine below_set ?_ (Aside0.out (by assumption))) | exact HB.out))) :
    Calls Tryd.prog 65 #[.int .i64 a0, .int .i64 a1, .agg #[.int .i64 a2_0, .int .i64 a2_1, .int .i64 a2_2]] w fun e w' => e = .returned (.int .i64 r) ∧ Below w.heap.size w w' := by
  have hu48 := Tryd.underlying48
  have HB := Aside0.mk (Below.refl w.heap.size w)
  have H : ((parcels_pad.f k a0 a1 a2_0).bind fun t632 => (some (Int.tmod (wrap64 ((wrap64 (a2_2 - t632)) + 1073741789)) 1073741789))) = some r := h
  clear h
  replace H := Option.bind_eq_some_iff.mp H
  obtain ⟨t632, A40, H⟩ := H
  replace H : (some (Int.tmod (wrap64 ((wrap64 (a2_2 - t632)) + 1073741789)) 1073741789)) = some r := H
  have A4 := Aside0.mk A40
  clear A40
  obtain rfl := Option.some.inj H
  go_enter Tryd.func65, Tryd.ntmps65
  try go_wp2_with (first | ((with_reducible refine gate_dst (N := 5) rfl ?_); refine box_event ?hg (N := 5) ?hd (cs := #[.int .i64 a2_0, .int .i64 a2_1, .int .i64 a2_2]) (t := 48) ?hr ?_; (case hd => rfl); (case hg => rfl); (case hr => first | (go_simp; done) | (go_simp; rfl)); intro gb631 hg w5 hbox hb; have n0_ := Aside0.mk (below_step (by repeat (first | (with_reducible first | exact HB.out | apply below_alloc | apply pw_below_drewN | apply below_drew1) | exact HB.out)) hb); have n1_ := Aside0.mk (hbox); have n2_ := Aside0.mk ((by rw [hg]; exact (below_size (by repeat (first | (with_reducible first | exact HB.out | apply below_alloc | apply pw_below_drewN | apply below_drew1) | exact HB.out))) : w.heap.size ≤ gb631)); have n3_ := Aside0.mk ((by rw [hg]; exact (below_size (by repeat (first | (with_reducible first | exact HB.out | apply below_alloc | apply pw_below_drewN | apply below_drew1) | exact HB.out))) : w.heap.size ≤ gb631)); clear HB; have HB := n0_; have BK631 := n1_; have GW631 := n2_; have GE631 := n3_; clear n0_ n1_ n2_ n3_; clear hb hbox hg))
  have n0_ := Aside0.mk (blk_drew BK631.out)
  have n1_ := Aside0.mk (below_drew1 HB.out)
  clear BK631
  clear HB
  have BK631 := n0_
  have HB := n1_
  clear n0_ n1_
  refine start_ (n := 11) (S := fun w' => w'.cell? ⟨gb631, 0, none⟩ = some (.int .i64 a2_0) ∧ w'.cell? ⟨gb631, 1, none⟩ = some (.int .i64 a2_1) ∧ w'.cell? ⟨gb631, 2, none⟩ = some (.int .i64 a2_2)) (ds := []) #[false, false, false, false, false, false, false, false, false, false, false] (by kernel_rfl) rfl rfl ⟨(blk_cell BK631.out 0).trans rfl, (blk_cell BK631.out 1).trans rfl, (blk_cell BK631.out 2).trans rfl⟩ (fun hHeld => ?_); refine with_tabW parcels_opened.tab1 parcels_opened.bits1 (fun HT_ HW_ => ?_)
  generalize w5.drew = w6 at BK631 HB hHeld ⊢
  refine pure_ (i := 0) (N := some 7) (v := ?_) (a' := ?_) #[true, false, false, false, false, false, false, false, false, false, false] rfl rfl (any_of HT_.out (by kernel_rfl)) (fun _ _ _ h => h) (Or.inl ⟨by rfl, ?_⟩) ?_ ?_
  rotate_left
  · intro w'
    go_simp
    with_reducible rfl
  rotate_left
  · simp only [Act.put, List.setIfInBounds_toArray, List.set_cons_zero, List.set_cons_succ, i64_w, i32_w]
    rfl
  refine pure_ (i := 2) (N := some 9) (v := ?_) (a' := ?_) #[true, false, true, false, false, false, false, false, false, false, false] rfl rfl (any_of HT_.out (by kernel_rfl)) (fun _ _ _ h => h) (Or.inl ⟨by rfl, ?_⟩) ?_ ?_
  rotate_left
  · intro w'
    go_simp
    with_reducible rfl
  rotate_left
  · simp only [Act.put, List.setIfInBounds_toArray, List.set_cons_zero, List.set_cons_succ, i64_w, i32_w]
    rfl
  refine pure_ (i := 3) (N := some 10) (v := ?_) (a' := ?_) #[true, false, true, true, false, false, false, false, false, false, false] rfl rfl (any_of HT_.out (by kernel_rfl)) (fun _ _ _ h => h) (Or.inl ⟨by rfl, ?_⟩) ?_ ?_
  rotate_left
  · intro w'
    go_simp
    with_reducible rfl
  rotate_left
  · simp only [Act.put, List.setIfInBounds_toArray, List.set_cons_zero, List.set_cons_succ, i64_w, i32_w]
    rfl
  refine pure_ (i := 4) (N := some 11) (v := ?_) (a' := ?_) #[true, false, true, true, true, false, false, false, false, false, false] rfl rfl (any_of HT_.out (by kernel_rfl)) (fun _ _ _ h => h) (Or.inl ⟨by rfl, ?_⟩) ?_ ?_
  rotate_left
  · intro w'
    go_simp
    with_reducible rfl
  rotate_left
  · simp only [Act.put, List.setIfInBounds_toArray, List.set_cons_zero, List.set_cons_succ, i64_w, i32_w]
    rfl
  refine take_ (i := 1) (N := some 8) (v := ?_) (a' := ?_) #[true, true, true, true, true, false, false, false, false, false, false] rfl rfl (take_ofW HT_.out HW_.out (by kernel_rfl)) (fun _ _ _ h => h) (Or.inl ⟨by rfl, ?_⟩) hHeld ?_ ?_
  rotate_left
  · rintro w' ⟨s0, s1, s2⟩
    go_simp
    with_reducible rfl
  rotate_left
  · simp only [Act.put, List.setIfInBounds_toArray, List.set_cons_zero, List.set_cons_succ, i64_w, i32_w]
    rfl
  refine take_ (i := 5) (N := some 12) (v := ?_) (a' := ?_) #[true, true, true, true, true, true, false, false, false, false, false] rfl rfl (take_ofW HT_.out HW_.out (by kernel_rfl)) (fun _ _ _ h => h) (Or.inl ⟨by rfl, ?_⟩) hHeld ?_ ?_
  rotate_left
  · rintro w' ⟨s0, s1, s2⟩
    go_simp
    with_reducible rfl
  rotate_left
  · simp only [Act.put, List.setIfInBounds_toArray, List.set_cons_zero, List.set_cons_succ, i64_w, i32_w]
    rfl
  refine one_ (i := 6) (N := some 13) #[true, true, true, true, true, true, true, false, false, false, false] rfl rfl (one_of HT_.out (by kernel_rfl)) (by decide) (fun K hK => ?_)
  refine goes_ Tryd.func62 (by kernel_rfl) rfl #[.int .i64 a0, .int .i64 a1, .int .i64 a2_0] (by rfl) rfl rfl (by (try simp only [List.map_toArray, List.map_cons, List.map_nil]); first | done | rfl | (simp only [List.length_drop, List.length_take]; rfl)) ?_
  with_reducible refine (parcels_pad.calls k a0 a1 a2_0 t632 _ A4.out).mono ?_
  rintro e w7 ⟨rfl, hb⟩
  refine ⟨_, rfl, ?_⟩
  have n0_ := Aside0.mk (blk_below (g := gb631) (o := .cells #[.int .i64 a2_0, .int .i64 a2_1, .int .i64 a2_2] 48 (0, 0)) (by (with_reducible repeat (first | refine blk_drewN ?_ _ | refine blk_drew ?_ | refine blk_alloc ?_ _)); exact BK631.out) hb)
  have n1_ := Aside0.mk (below_step (by repeat (first | (with_reducible first | exact HB.out | apply below_alloc | apply pw_below_drewN | apply below_drew1 | refine below_set ?_ GE631.out) | exact HB.out)) hb)
  clear BK631
  clear HB
  have BK631 := n0_
  have HB := n1_
  clear n0_ n1_
  (try clear hb)
  (try clear hb2)
  (try clear hk)
  (try clear hi)
  refine hK.out _ _ ⟨(blk_cell BK631.out 0).trans rfl, (blk_cell BK631.out 1).trans rfl, (blk_cell BK631.out 2).trans rfl⟩ (fun hHeld => ?_)
  clear hK K
  refine norm_ (a' := ?_) ?_ ?_
  rotate_left
  · show Act.put _ (some 13) _ = _
    simp only [Act.put, List.setIfInBounds_toArray, List.set_cons_zero, List.set_cons_succ, i64_w, i32_w]
    rfl
  refine pure_ (i := 7) (N := some 14) (v := ?_) (a' := ?_) #[true, true, true, true, true, true, true, true, false, false, false] rfl rfl (any_of HT_.out (by kernel_rfl)) (fun _ _ _ h => h) (Or.inl ⟨by rfl, ?_⟩) ?_ ?_
  rotate_left
  · intro w'
    go_simp
    with_reducible rfl
  rotate_left
  · simp only [Act.put, List.setIfInBounds_toArray, List.set_cons_zero, List.set_cons_succ, i64_w, i32_w]
    rfl
  refine pure_ (i := 8) (N := some 15) (v := ?_) (a' := ?_) #[true, true, true, true, true, true, true, true, true, false, false] rfl rfl (any_of HT_.out (by kernel_rfl)) (fun _ _ _ h => h) (Or.inl ⟨by rfl, ?_⟩) ?_ ?_
  rotate_left
  · intro w'
    go_simp
    with_reducible rfl
  rotate_left
  · simp only [Act.put, List.setIfInBounds_toArray, List.set_cons_zero, List.set_cons_succ, i64_w, i32_w]
    rfl
  refine pure_ (i := 9) (N := some 16) (v := ?_) (a' := ?_) #[true, true, true, true, true, true, true, true, true, true, false] rfl rfl (any_of HT_.out (by kernel_rfl)) (fun _ _ _ h => h) (Or.inl ⟨by rfl, ?_⟩) ?_ ?_
  rotate_left
  · intro w'
    go_simp
    with_reducible rfl
  rotate_left
  · simp only [Act.put, List.setIfInBounds_toArray, List.set_cons_zero, List.set_cons_succ, i64_w, i32_w]
    rfl
  refine pure_ (i := 10) (N := some 6) (v := ?_) (a' := ?_) #[true, true, true, true, true, true, true, true, true, true, true] rfl rfl (any_of HT_.out (by kernel_rfl)) (fun _ _ _ h => h) (Or.inl ⟨by rfl, ?_⟩) ?_ ?_
  rotate_left
  · intro w'
    go_simp
    with_reducible rfl
  rotate_left
  · simp only [Act.put, List.setIfInBounds_toArray, List.set_cons_zero, List.set_cons_succ, i64_w, i32_w]
    rfl
  refine done_ (done_of HT_.out (by kernel_rfl)) ?_
  try go_wp2
  go_ret
  exact ⟨by first | rfl | (simp [errW_none, errW_some] <;> rfl) | (simp [*, errW_none, errW_some] <;> rfl), by repeat (first | (with_reducible first | exact HB.out | apply below_alloc | apply pw_below_drewN | apply below_drew1 | refine below_set ?_ GE631.out) | exact HB.out)⟩

end Go.Proofs.YthladfegmedpnaaDoor.P
