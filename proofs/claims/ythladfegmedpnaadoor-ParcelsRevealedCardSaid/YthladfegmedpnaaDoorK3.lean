import Derived.RangeFuncWrites
import Derived.RangeFuncLeaves
import Derived.RangeFuncCalls
import Derived.Shelf.Abstract
import Derived.Deep.Draws
set_option linter.unusedVariables false
set_option linter.unusedSimpArgs false

/- A loop over an iterator whose rounds all go on: the iterator may write blocks of its own between the rounds. -/
namespace Go.Proofs.YthladfegmedpnaaDoor.Rg
open Go Go.RowKit

/-- What an iterator does between two rounds: new blocks; of the old ones at most those in T are written. -/
structure Kin (T : Nat → Prop) (A B : World) : Prop where
  os : B.os = A.os
  tape : B.tape = A.tape
  output : B.output = A.output
  size : A.heap.size ≤ B.heap.size
  block : ∀ k, k < A.heap.size → ¬ T k → B.heap[k]? = A.heap[k]?

theorem Kin.refl (T : Nat → Prop) (A : World) : Kin T A A := ⟨rfl, rfl, rfl, Nat.le_refl _, fun _ _ _ => rfl⟩
theorem Kin.trans {T : Nat → Prop} {A B C : World} (h : Kin T A B) (k : Kin T B C) : Kin T A C :=
  ⟨k.os.trans h.os, k.tape.trans h.tape, k.output.trans h.output, Nat.le_trans h.size k.size, fun i hi ht => (k.block i (Nat.lt_of_lt_of_le hi h.size) ht).trans (h.block i hi ht)⟩
theorem Kin.alloc (T : Nat → Prop) (A : World) (o : Obj) : Kin T A (A.alloc o) := ⟨rfl, rfl, rfl, by simp, fun k hk _ => Below.heap_alloc _ _ _ hk⟩
theorem Kin.drew (T : Nat → Prop) (A : World) : Kin T A A.drew := ⟨rfl, rfl, rfl, Nat.le_refl _, fun _ _ _ => rfl⟩
theorem Kin.drewN (T : Nat → Prop) (A : World) (n : Nat) : Kin T A (A.drewN n) := ⟨rfl, rfl, rfl, Nat.le_refl _, fun _ _ _ => rfl⟩
theorem Kin.setCell {T : Nat → Prop} (A : World) (a : Addr) (v : Value) (h : T a.block) : Kin T A (A.setCell a v) :=
  ⟨rfl, rfl, rfl, by simp [World.setCell], fun k _ ht => Below.heap_setCell _ _ _ _ (fun e => ht (e ▸ h))⟩
theorem Kin.of_below {T : Nat → Prop} {A B : World} (h : Below A.heap.size A B) : Kin T A B := ⟨h.os, h.tape, h.output, h.size, fun k hk _ => h.block k hk⟩

/-- What a round keeps of the iterator's blocks. -/
structure Kout (T : Nat → Prop) (A B : World) : Prop where
  size : A.heap.size ≤ B.heap.size
  block : ∀ k, T k → B.heap[k]? = A.heap[k]?
theorem Kout.refl (T : Nat → Prop) (A : World) : Kout T A A := ⟨Nat.le_refl _, fun _ _ => rfl⟩
theorem Kout.trans {T : Nat → Prop} {A B C : World} (h : Kout T A B) (k : Kout T B C) : Kout T A C := ⟨Nat.le_trans h.size k.size, fun i hi => (k.block i hi).trans (h.block i hi)⟩

/-- An iterator's contract. -/
def SeqAll {α : Type} (P : Program) (g : Nat) (lb : Array Value) (encs : α → Array Value) (Tw Tr : Nat → Prop) (xs : List α) (w0 : World) : Prop :=
  ∀ (l : Nat) (J : List α → World → Prop) (W : World), (∀ k, Tr k → W.heap[k]? = w0.heap[k]?) → w0.heap.size ≤ W.heap.size →
    (∀ s A B, J s A → Kin Tw A B → J s B) →
    (∀ pre x rest A, xs = pre ++ x :: rest → J pre A → YieldAt Fence.wide 0 P l (encs x) A fun e B => e = .returned (.bool true) ∧ J (pre ++ [x]) B ∧ Kout Tr A B) →
    J [] W →
    CallsIn Fence.wide 0 P g (#[.func (.yield l) #[] #[]] ++ lb) W fun e W' => (∃ v, e = .returned v) ∧ J xs W'

theorem wpIn_range_all {P : Program} {α : Type} {g : Operand} {ps : Array Tmp} {assign body : Code} {Q : Exit → Act → World → Prop} {a : Act} {w : World} {gf : Nat} {lb : Array Value}
    (hg : a.eval g = .func (.func gf) #[] lb) (eg : ∀ args w, (callFunc gf args).run P w = .ok (.enter gf args) w)
    {encs : α → Array Value} {Tw Tr : Nat → Prop} {xs : List α} (hseq : SeqAll P gf lb encs Tw Tr xs w)
    (hTw : ∀ k, Tw k → k < w.heap.size) (hTr : ∀ k, Tr k → k < w.heap.size) (hps : ∀ x, (encs x).size = ps.size)
    (I : List α → World → Prop) (hI : ∀ s A B, I s A → Kin Tw A B → I s B)
    (hIo : ∀ s A l o o', I s A → w.heap.size ≤ l → A.heap[l]? = some o → o.isCells = false → I s (A.putObj l o'))
    (h0 : I [] w) (a₁ : α → Act)
    (hassign : ∀ (l : Nat) (x : α) (W : World) (K : Act → World → Prop), K (a₁ x) W →
      assign.wpIn (Fence.wide.inRound l) 0 P (Exit.then K (fun _ _ _ => False)) { tmps := (ps.zip (encs x)).foldl (fun t (p, v) => t.setIfInBounds p v) a.tmps, defers := [] } W)
    (hbody : ∀ (l : Nat) (pre : List α) (x : α) (rest : List α) (W : World), xs = pre ++ x :: rest → I pre W →
      body.wpIn (Fence.wide.inRound l) 0 P (fun e _ W' => e = .normal ∧ KeepsFrom w.heap.size W W' ∧ Kout Tr W W' ∧ I (pre ++ [x]) W') (a₁ x) W)
    (hdone : ∀ (D : Nat) (W : World), w.heap.size ≤ D → I xs W → W.heap[D]? = some (.deferred (some [])) → Q .normal { a with defers := { target := .collected D, args := #[] } :: a.defers } W) :
    (Code.rangeFunc g ps assign body).wpIn Fence.wide 0 P Q a w := by
  refine wpIn_rangeFunc ?_
  intro fn _
  obtain ⟨rec, hrec⟩ : ∃ rec : LoopState → Option Code → Loop, rec = fun st pe => { state := st, pending := pe, fn, tmps := a.tmps, params := ps, assign, body, defers := w.heap.size } := ⟨_, rfl⟩
  obtain ⟨W1, hW1⟩ : ∃ W1, (w.alloc (.deferred (some []))).alloc (.loop (rec .ready none)) = W1 := ⟨_, rfl⟩
  have hs1 : W1.heap.size = w.heap.size + 2 := by rw [← hW1]; simp
  have hL1 : W1.heap[w.heap.size + 1]? = some (.loop (rec .ready none)) := by
    rw [← hW1]; have := World.alloc_heap_new (w.alloc (.deferred (some []))) (.loop (rec .ready none)); rwa [World.size_alloc] at this
  have hK1 : W1.heap[w.heap.size]? = some (.deferred (some [])) := by
    rw [← hW1]; exact (Below.heap_alloc _ _ _ (by simp)).trans (World.alloc_heap_new w _)
  have hkin : Kin Tw w W1 := by rw [← hW1]; exact (Kin.alloc _ _ _).trans (Kin.alloc _ _ _)
  have hI1 : I [] W1 := hI _ _ _ h0 hkin
  have hnl : ∀ {k}, w.heap.size ≤ k → ¬ Tw k := fun h t => by have := hTw _ t; omega
  have hnr : ∀ {k}, w.heap.size ≤ k → ¬ Tr k := fun h t => by have := hTr _ t; omega
  refine ⟨w.heap.size + 1, [{ target := .collected w.heap.size, args := #[] }], W1, { target := .fn (.func gf) lb, args := #[.func (.yield (w.heap.size + 1)) #[] #[]] }, W1, gf,
    #[.func (.yield (w.heap.size + 1)) #[] #[]] ++ lb, W1, ?_, ?_, fun _ _ => trivial, ?_, fun h => by simp [Fence.wide] at h, ?_⟩
  · rw [← hW1, hrec]; exact run_enterLoop_outer _ _ _ _ _
  · simp only [resolve, hg]
    simp [go_sem]
  · simp [invoke, go_sem, eg]
  · refine (hseq (w.heap.size + 1)
      (fun pre W => w.heap.size + 2 ≤ W.heap.size ∧ I pre W ∧ W.heap[w.heap.size + 1]? = some (.loop (rec .ready none)) ∧ W.heap[w.heap.size]? = some (.deferred (some [])))
      W1 (fun k hk => (hW1 ▸ ((Below.heap_alloc _ _ _ (by have := hTr _ hk; simp; omega)).trans (Below.heap_alloc _ _ _ (hTr _ hk))))) (by omega)
      (fun s A B hs hk => ⟨Nat.le_trans hs.1 hk.size, hI _ _ _ hs.2.1 hk, (hk.block _ (by have := hs.1; omega) (hnl (by omega))).trans hs.2.2.1, (hk.block _ (by have := hs.1; omega) (hnl (by omega))).trans hs.2.2.2⟩)
      ?_ ⟨by omega, hI1, hL1, hK1⟩).mono ?_
    · rintro pre x rest W hxs ⟨hz, hi, hl, hk⟩
      have hlt : w.heap.size + 1 < W.heap.size := by omega
      have hy := run_yield (P := P) (args := encs x) hl (by rw [hrec]; exact hps x)
      rw [hrec] at hy
      refine ⟨fn, _, assign, body, hy, roundIn_of_wpIn trivial (hassign _ x W _ ⟨_, run_beginRound hl (by rw [hrec]), ?_⟩)⟩
      have hl2 : (W.putObj (w.heap.size + 1) (.loop { rec .ready none with state := .busy })).heap[w.heap.size + 1]? = some (.loop { rec .ready none with state := .busy }) := World.putObj_heap_same hlt
      have hk2 : (W.putObj (w.heap.size + 1) (.loop { rec .ready none with state := .busy })).heap[w.heap.size]? = some (.deferred (some [])) := (World.putObj_heap_other (by omega)).trans hk
      refine wpIn_mono (hbody _ pre x rest _ hxs (hIo _ _ _ _ _ hi (by omega) hl rfl)) ?_
      rintro e a3 W3 ⟨rfl, hk3, hr3, hi3⟩
      have hl3 := hk3.same _ _ (by omega) hl2 rfl
      have hd3 := hk3.same _ _ (Nat.le_refl _) hk2 rfl
      have hsz : W.heap.size ≤ W3.heap.size := by have := hr3.size; simpa using this
      have hend := run_endRound (P := P) none hl3
      refine ⟨_, _, hend, rfl, ⟨by simp; omega, hIo _ _ _ _ _ hi3 (by omega) hl3 rfl, ?_, (World.putObj_heap_other (by omega)).trans hd3⟩, ?_⟩
      · rw [World.putObj_heap_same (by omega), hrec]; rfl
      · refine ⟨by simp; omega, fun k hk => ?_⟩
        rw [World.putObj_heap_other (fun e => hnr (by omega) hk), hr3.block k hk, World.putObj_heap_other (fun e => hnr (by omega) hk)]
    · rintro e W2 ⟨⟨v, rfl⟩, hz, hi, hl, hk⟩
      refine ⟨none, _, by have := run_endLoop (P := P) hl (by rw [hrec]; simp); rw [hrec] at this; exact this, ?_⟩
      exact hdone _ _ (Nat.le_refl _) (hIo _ _ _ _ _ hi (by omega) hl rfl) ((World.putObj_heap_other (by omega)).trans hk)

end Go.Proofs.YthladfegmedpnaaDoor.Rg
