import Derived.Test.YthladfegmedpnaaDoorK8
import Derived.Outline
import Derived.Laws.EntriesVeiled
import Derived.Laws.CopyRow
set_option linter.unusedVariables false
set_option linter.unusedSimpArgs false

namespace Go.Proofs.YthladfegmedpnaaDoor.P
open Go.RowKit Go.Proofs.YthladfegmedpnaaDoorW.PrintWords Go.Proofs.YthladfegmedpnaaDoorW.PrintLast Go.Proofs.YthladfegmedpnaaDoorW.PrintMore Go.Proofs.YthladfegmedpnaaDoor
set_option linter.unusedVariables false
set_option linter.unusedSimpArgs false

/-! ### Bytes that lie in memory -/
def encB (l : List Int) : Array Value := (l.map (Value.int .u8)).toArray
/-- block g holds the bytes l. -/
def Brr (w : World) (g : Nat) (t : TypeId) (l : List Int) : Prop := w.heap[g]? = some (.cells (encB l) t (0, 0))
section
variable {w w1 : World} {g : Nat} {t : TypeId} {l : List Int}
theorem Brr.lt (h : Brr w g t l) : g < w.heap.size := blk_lt h
theorem Brr.cell (h : Brr w g t l) (i : Nat) (hi : i < l.length) : w.cell? ⟨g, i, none⟩ = some (.int .u8 (l.getD i 0)) := by
  rw [blk_cell h i]
  simp [encB, List.getD_eq_getElem?_getD, List.getElem?_eq_getElem hi]
theorem Brr.frozen (h : Brr w g t l) (i : Nat) : w.frozen? ⟨g, i, none⟩ = false := blk_frozen h i
theorem Brr.set (h : Brr w g t l) (i : Nat) (v : Int) : Brr (w.setCell ⟨g, i, none⟩ (.int .u8 v)) g t (l.set i v) := by
  refine blk_put h i _ ?_
  simp [encB, List.map_set]
theorem Brr.far (h : Brr w g t l) {p : Addr} (hp : g ≠ p.block) (u : Value) : Brr (w.setCell p u) g t l := blk_far h hp u
theorem Brr.below (h : Brr w g t l) (hb : Below w.heap.size w w1) : Brr w1 g t l := blk_below h hb
theorem Brr.only {g' : Nat} (h : Brr w g t l) (ho : Only g' w w1) (hne : g ≠ g') : Brr w1 g t l := (ho.block g h.lt hne).trans h
theorem Arr.only {g' : Nat} (h : Arr w g t l) (ho : Only g' w w1) (hne : g ≠ g') : Arr w1 g t l := (ho.block g h.lt hne).trans h
theorem addr_add (g o j : Nat) : (⟨g, o, none⟩ : Addr).add j = ⟨g, o + j, none⟩ := by unfold Addr.add; split <;> simp_all
/-- A part of the block, read as a row. -/
theorem Brr.row (h : Brr w g t l) (o n : Nat) (hn : o + n ≤ l.length) (hm : l.length ≤ 1000000) : Kd.C (Kd.int .u8) w (some ⟨g, o, none⟩) ((l.drop o).take n).length ((l.drop o).take n) := by
  have hl : ((l.drop o).take n).length = n := by simp; omega
  refine Kd.C_of_reads (enc := Value.int .u8) (d := 0) (h1 := fun _ => rfl) ⟨rfl, by omega, fun _ => ⟨_, rfl, fun j hj => ?_⟩⟩
  rw [hl] at hj
  rw [addr_add, h.cell (o + j) (by omega)]
  simp [List.getD_eq_getElem?_getD, List.getElem?_take, hj]
end

/-- A whole row is stored. -/
theorem wpList_store_row {P : Program} {ops : Array Oper} {rest : List Oper} {o : Oper} {a : Act} {w : World} {Q : Exit → Act → World → Prop} (hgd : o.guard = none) (ty : TypeId) (x y : Operand) (ho : o.op = .store ty x y) (hds : o.dst = none)
    (g : Nat) (hx : a.eval x = .pointer (some ⟨g, 0, none⟩)) (t : TypeId) (cs cs' : Array Value) (hy : a.eval y = .agg cs') (hg : w.heap[g]? = some (.cells cs t (0, 0)))
    (hi : (P.info? ty).map (·.size) = some cs'.size) (hsz : cs'.size = cs.size) (h1 : ∀ v ∈ cs'.toList, v.oneCell' = true)
    (h : wpList P ops Q rest a (w.setRow g cs')) : wpList P ops Q (o :: rest) a w := by
  refine wpList_plain hgd fun K hK => ?_
  obtain ⟨i, hi1, hi2⟩ := Option.map_eq_some_iff.1 hi
  have hst := run_storeCells_at (P := P) g 0 t cs'.toList 0 cs w hg (by simp [hsz]) h1
  have e : ((cs.toList.take (0 + 0)) ++ cs'.toList ++ cs.toList.drop (0 + 0 + cs'.toList.length)).toArray = cs' := by
    rw [show (0 + 0 + cs'.toList.length) = cs.toList.length from by simp [hsz], List.drop_length]
    simp
  rw [e] at hst
  have hcells : (Value.agg cs').cells = cs' := rfl
  have hrun : (execOp a.eval o).run P w = .ok .skip (w.setRow g cs') := by
    unfold execOp
    simp [ho, hx, hy, Instr.storeAt, Instr.sureAddr, storeVar, sizeOf, typeInfo, hi1, hi2, hcells, hst]
  unfold Oper.wp
  rw [hrun]
  show K (a.put o.dst undef) _
  rw [hds]
  exact hK _ _ h

/-- The bytes behind i steps of put. -/
def putL (l : List Int) (o n : Nat) (x : Int) : Nat → List Int
  | 0 => l
  | i + 1 => (putL l o n x i).set (o + (n - 1 - i)) (x / 2 ^ (8 * i) % 256)
theorem putL_length (l : List Int) (o n : Nat) (x : Int) (i : Nat) : (putL l o n x i).length = l.length := by induction i with
  | zero => rfl
  | succ i ih => simp [putL, ih]

theorem wrap64_id {n : Int} (h0 : -9223372036854775808 ≤ n) (h1 : n < 9223372036854775808) : IntKind.i64.wrap n = n := by rw [IntKind.wrap_i64]; omega

set_option maxHeartbeats 8000000 in
set_option maxRecDepth 100000 in
theorem put_makes (g o n c : Nat) (t : TypeId) (l : List Int) (x : Int) (w : World) (h : Brr w g t l) (hn : o + n ≤ l.length) (hn8 : n ≤ 8) (hl : l.length ≤ 1000000) :
    Calls Tryd.prog 93 #[.slice (some ⟨g, o, none⟩) n c, .int .u64 x] w fun e w' => e = .returned (.tuple #[]) ∧ Brr w' g t (putL l o n x n) ∧ Only g w w' := by
  have HB := Aside0.mk h
  have HO := Aside0.mk (Only.refl g w)
  have HN := Aside0.mk hn
  have HN8 := Aside0.mk hn8
  have HL := Aside0.mk hl
  clear h hn hn8 hl
  go_enter Tryd.func93, Tryd.ntmps93
  go_wp2
  go_loopw [7] (fun i wr => ∃ k : Nat, k ≤ n ∧ i = .int .i64 k ∧ Aside0 (Brr wr g t (putL l o n x k)) ∧ Aside0 (Only g w wr)) (fun i _ => n - (intOf i).toNat)
  case atStart => exact ⟨0, Nat.zero_le _, rfl, HB, HO⟩
  case round =>
    clear HB HO
    obtain ⟨k, hk, rfl, HB, HO⟩ := hrel
    by_cases hlt : k < n
    · have hlt' : decide ((k : Int) < (n : Int)) = true := decide_eq_true (by omega)
      have e1 : wrap64 ((n : Int) - 1) = ((n - 1 : Nat) : Int) := by unfold wrap64; have := HN8.out; omega
      have e2 : wrap64 (((n - 1 : Nat) : Int) - k) = ((n - 1 - k : Nat) : Int) := by unfold wrap64; have := HN8.out; omega
      have e3 : wrap64 (8 * (k : Int)) = ((8 * k : Nat) : Int) := by unfold wrap64; have := HN8.out; omega
      have e4 : ((8 * k : Nat) : Int) ≤ 64 := by have := HN8.out; omega
      have b1 : ((n - 1 - k : Nat) : Int) < (n : Int) := by omega
      have hc := HB.out.cell (o + (n - 1 - k)) (by rw [putL_length]; have := HN.out; omega)
      have hf := HB.out.frozen (o + (n - 1 - k))
      go_wp2
      have HB2 : Aside0 (Brr (wr.setCell ⟨g, o + (n - 1 - k), none⟩ (.int .u8 (x / 2 ^ (8 * k) % 256))) g t (putL l o n x (k + 1))) := ⟨HB.out.set (o + (n - 1 - k)) (x / 2 ^ (8 * k) % 256)⟩
      have HO2 := Aside0.mk (HO.out.setCell (o + (n - 1 - k)) (.int .u8 (x / 2 ^ (8 * k) % 256)))
      refine ⟨⟨k + 1, by omega, by go_num, HB2, HO2⟩, ?_⟩
      simp [intOf]; omega
    · have hlt' : decide ((k : Int) < (n : Int)) = false := decide_eq_false (by omega)
      have ek : k = n := by omega
      subst ek
      clear hlt
      go_wp2
      go_end0
      exact ⟨rfl, HB.out, HO.out⟩

theorem set_mid4 (p q : List Int) (a b c d : Int) (m : List Int) (hm : m.length = 4) :
    ((((p ++ m ++ q).set (p.length + 3) d).set (p.length + 2) c).set (p.length + 1) b).set (p.length + 0) a = p ++ [a, b, c, d] ++ q := by
  match m, hm with
  | [m0, m1, m2, m3], _ => simp [List.set_append]
theorem set_mid8 (p q : List Int) (a b c d e f g h : Int) (m : List Int) (hm : m.length = 8) :
    ((((((((p ++ m ++ q).set (p.length + 7) h).set (p.length + 6) g).set (p.length + 5) f).set (p.length + 4) e).set (p.length + 3) d).set (p.length + 2) c).set (p.length + 1) b).set (p.length + 0) a = p ++ [a, b, c, d, e, f, g, h] ++ q := by
  match m, hm with
  | [m0, m1, m2, m3, m4, m5, m6, m7], _ => simp [List.set_append]

theorem putL4 (p m q : List Int) (x : Int) (hm : m.length = 4) : putL (p ++ m ++ q) p.length 4 x 4 = p ++ Sha.be4 x ++ q := by
  have := set_mid4 p q (x / 2 ^ 24 % 256) (x / 2 ^ 16 % 256) (x / 2 ^ 8 % 256) (x % 256) m hm
  simp only [putL, Sha.be4]
  rw [← this]
  simp
theorem putL8 (p m q : List Int) (x : Int) (hm : m.length = 8) : putL (p ++ m ++ q) p.length 8 x 8 = p ++ Sha.be8 x ++ q := by
  have := set_mid8 p q (x / 2 ^ 56 % 256) (x / 2 ^ 48 % 256) (x / 2 ^ 40 % 256) (x / 2 ^ 32 % 256) (x / 2 ^ 24 % 256) (x / 2 ^ 16 % 256) (x / 2 ^ 8 % 256) (x % 256) m hm
  simp only [putL, Sha.be8]
  rw [← this]
  simp

end Go.Proofs.YthladfegmedpnaaDoor.P
