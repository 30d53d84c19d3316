import Derived.Test.YthladfegmedpnaaDoorK4
import Derived.RangeFuncBox
set_option linter.unusedVariables false
set_option linter.unusedSimpArgs false

/- Arrays of words that lie in memory. -/
namespace Go.Proofs.YthladfegmedpnaaDoor.P
open Go.RowKit Go.Proofs.YthladfegmedpnaaDoorW.PrintWords Go.Proofs.YthladfegmedpnaaDoorW.PrintLast Go.Proofs.YthladfegmedpnaaDoorW.PrintMore

def encW (l : List Int) : Array Value := (l.map (Value.int .u32)).toArray
/-- block g holds the words l. -/
def Arr (w : World) (g : Nat) (t : TypeId) (l : List Int) : Prop := w.heap[g]? = some (.cells (encW l) t (0, 0))
section
variable {w w1 : World} {g : Nat} {t : TypeId} {l : List Int}
theorem Arr.lt (h : Arr w g t l) : g < w.heap.size := blk_lt h
theorem Arr.cell (h : Arr w g t l) (i : Nat) (hi : i < l.length) : w.cell? ⟨g, i, none⟩ = some (.int .u32 (l.getD i 0)) := by
  rw [blk_cell h i]
  simp [encW, List.getD_eq_getElem?_getD, List.getElem?_eq_getElem hi]
theorem Arr.frozen (h : Arr w g t l) (i : Nat) : w.frozen? ⟨g, i, none⟩ = false := blk_frozen h i
theorem Arr.set (h : Arr w g t l) (i : Nat) (v : Int) : Arr (w.setCell ⟨g, i, none⟩ (.int .u32 v)) g t (l.set i v) := by
  refine blk_put h i _ ?_
  simp [encW, List.map_set]
theorem Arr.far (h : Arr w g t l) {p : Addr} (hp : g ≠ p.block) (u : Value) : Arr (w.setCell p u) g t l := blk_far h hp u
theorem Arr.below (h : Arr w g t l) (hb : Below w.heap.size w w1) : Arr w1 g t l := blk_below h hb
theorem Arr.drewN (h : Arr w g t l) (n : Nat) : Arr (w.drewN n) g t l := h
theorem Arr.alloc (h : Arr w g t l) (o : Obj) : Arr (w.alloc o) g t l := blk_alloc h o
end

/-- Nothing but block g (and what is new) has turned. -/
structure Only (g : Nat) (w w' : World) : Prop where
  os : w'.os = w.os
  tape : w'.tape = w.tape
  output : w'.output = w.output
  size : w.heap.size ≤ w'.heap.size
  block : ∀ k, k < w.heap.size → k ≠ g → w'.heap[k]? = w.heap[k]?
section
variable {g : Nat} {w w1 w2 : World}
theorem Only.of_below (h : Below w.heap.size w w1) : Only g w w1 := ⟨h.os, h.tape, h.output, h.size, fun k hk _ => h.block k hk⟩
theorem Only.refl (g : Nat) (w : World) : Only g w w := Only.of_below (Below.refl _ _)
theorem Only.trans (h : Only g w w1) (k : Only g w1 w2) : Only g w w2 :=
  ⟨k.os.trans h.os, k.tape.trans h.tape, k.output.trans h.output, Nat.le_trans h.size k.size, fun i hi hg => (k.block i (Nat.lt_of_lt_of_le hi h.size) hg).trans (h.block i hi hg)⟩
theorem Only.setCell (h : Only g w w1) (i : Nat) (v : Value) : Only g w (w1.setCell ⟨g, i, none⟩ v) :=
  ⟨h.os, h.tape, h.output, by rw [World.setCell]; simpa using h.size, fun k hk hg => (Below.heap_setCell w1 _ v k hg).trans (h.block k hk hg)⟩
theorem Only.drewN (h : Only g w w1) (n : Nat) : Only g w (w1.drewN n) := ⟨h.os, h.tape, h.output, h.size, h.block⟩
theorem Only.below {B : Nat} (h : Only g w w1) (hB : B ≤ w.heap.size) (hg : B ≤ g) : Below B w w1 := ⟨h.os, h.tape, h.output, h.size, fun k hk => h.block k (Nat.lt_of_lt_of_le hk hB) (by omega)⟩
end

end Go.Proofs.YthladfegmedpnaaDoor.P
