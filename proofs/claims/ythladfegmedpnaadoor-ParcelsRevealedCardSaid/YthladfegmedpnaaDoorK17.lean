import Derived.Test.YthladfegmedpnaaDoorK14
import Derived.Test.YthladfegmedpnaaDoorK16
import Derived.Test.YthladfegmedpnaaDoorK13
import Derived.Test.YthladfegmedpnaaDoorK11
import Derived.Deep.RegionHeld3
import Derived.Laws.EntriesVeiled
import Derived.Test.YthladfegmedpnaaDoorK15
import Derived.Test.YthladfegmedpnaaDoorK4
set_option linter.unusedVariables false
set_option linter.unusedSimpArgs false

namespace Go.Proofs.YthladfegmedpnaaDoor.P
open Go.RowKit Go.Proofs.YthladfegmedpnaaDoorW.PrintWords Go.Proofs.YthladfegmedpnaaDoorW.PrintLast Go.Proofs.YthladfegmedpnaaDoorW.PrintMore Go.Proofs.YthladfegmedpnaaDoor
set_option linter.unusedVariables false
set_option linter.unusedSimpArgs false

/-- the blocks from B on are as they were. -/
def Kept (B : Nat) (W W' : World) : Prop := W.heap.size ≤ W'.heap.size ∧ ∀ k, B ≤ k → k < W.heap.size → W'.heap[k]? = W.heap[k]?
theorem Kept.trans {B : Nat} {W W1 W2 : World} (h : Kept B W W1) (k : Kept B W1 W2) : Kept B W W2 :=
  ⟨Nat.le_trans h.1 k.1, fun i hi hl => (k.2 i hi (Nat.lt_of_lt_of_le hl h.1)).trans (h.2 i hi hl)⟩
theorem Kept.of_below {B : Nat} {W W1 : World} (h : Below W.heap.size W W1) : Kept B W W1 := ⟨h.size, fun i _ hl => h.block i hl⟩
theorem Kept.setRow {B g : Nat} {W : World} (cs : Array Value) (hg : g < B) : Kept B W (W.setRow g cs) := ⟨by simp, fun k hk _ => setRow_other W g k cs (by omega)⟩
theorem kept_blk {B g : Nat} {W W1 : World} {o : Obj} (h : W.heap[g]? = some o) (hk : Kept B W W1) (hB : B ≤ g) : W1.heap[g]? = some o := (hk.2 g hB (blk_lt h)).trans h

/-- a function value that answers b, in every later world. -/
def Holds (B : Nat) (W : World) (f : Value) (b : Bool) : Prop :=
  ∃ (F : Nat) (fn : Func) (cap : Array Value), f = .func (.func F) #[] cap ∧ Tryd.prog.funcs[F]? = some fn ∧ (fn.name == "runtime.NumGoroutine") = false ∧ fn.body.isSome = true ∧
    ∀ W', Kept B W W' → Calls Tryd.prog F cap W' fun e w' => e = .returned (.bool b) ∧ Below W'.heap.size W' w'
theorem Holds.kept {B : Nat} {W W1 : World} {f : Value} {b : Bool} (h : Holds B W f b) (hk : Kept B W W1) : Holds B W1 f b := by
  obtain ⟨F, fn, cap, h1, h2, h3, h4, h5⟩ := h
  exact ⟨F, fn, cap, h1, h2, h3, h4, fun W' hW => h5 W' (hk.trans hW)⟩
theorem Holds.below {B : Nat} {W W1 : World} {f : Value} {b : Bool} (h : Holds B W f b) (hb : Below W.heap.size W W1) : Holds B W1 f b := h.kept (.of_below hb)
theorem Holds.lower {B B' : Nat} {W : World} {f : Value} {b : Bool} (h : Holds B W f b) (hB : B' ≤ B) : Holds B' W f b := by
  obtain ⟨F, fn, cap, h1, h2, h3, h4, h5⟩ := h
  exact ⟨F, fn, cap, h1, h2, h3, h4, fun W' hW => h5 W' ⟨hW.1, fun k hk hl => hW.2 k (by omega) hl⟩⟩

/-- Is a number from one to another one? -/
def btw (n low high : Int) : Bool := decide (low ≤ n) && decide (n ≤ high)

set_option maxHeartbeats 1000000 in
theorem within1 (g0 g1 g2 : Nat) (low n high : Int) (w : World) (h0 : w.cell? ⟨g0, 0, none⟩ = some (.int .i64 low)) (h1 : w.cell? ⟨g1, 0, none⟩ = some (.int .i64 n)) (h2 : w.cell? ⟨g2, 0, none⟩ = some (.int .i64 high)) :
    Calls Tryd.prog 83 #[.pointer (some ⟨g0, 0, none⟩), .pointer (some ⟨g1, 0, none⟩), .pointer (some ⟨g2, 0, none⟩)] w fun e w' => e = .returned (.bool (btw n low high)) ∧ Below w.heap.size w w' := by
  unfold btw
  by_cases c0 : low ≤ n
  · have d0 : decide (low ≤ n) = true := decide_eq_true c0
    go_enter Tryd.func83, Tryd.ntmps83
    go_wp2
    go_ret
    exact ⟨by first | rfl | simp [c0], Below.refl _ _⟩
  · have d0 : decide (low ≤ n) = false := decide_eq_false c0
    go_enter Tryd.func83, Tryd.ntmps83
    go_wp2
    go_ret
    exact ⟨by first | rfl | simp [c0], Below.refl _ _⟩

set_option maxHeartbeats 1000000 in
theorem element1 (g : Nat) (n : Int) (w : World) (h0 : w.cell? ⟨g, 0, none⟩ = some (.int .i64 n)) :
    Calls Tryd.prog 82 #[.pointer (some ⟨g, 0, none⟩)] w fun e w' => e = .returned (.bool (vld n)) ∧ Below w.heap.size w w' := by
  go_enter Tryd.func82, Tryd.ntmps82
  go_wp2_with fail
  refine (group_Valid.calls n _ w rfl).mono ?_
  rintro e w1 ⟨rfl, ⟨n1, rfl⟩⟩
  go_wp2_with fail
  go_ret
  exact ⟨rfl, pw_below_drewN (Below.refl _ _) n1⟩

theorem four_blocks (w : World) (o0 o1 o2 o3 : Obj) : (((((w.alloc o0).alloc o1).alloc o2).alloc o3).heap[w.heap.size]? = some o0 ∧ ((((w.alloc o0).alloc o1).alloc o2).alloc o3).heap[w.heap.size + 1]? = some o1 ∧ ((((w.alloc o0).alloc o1).alloc o2).alloc o3).heap[w.heap.size + 1 + 1]? = some o2 ∧ ((((w.alloc o0).alloc o1).alloc o2).alloc o3).heap[w.heap.size + 1 + 1 + 1]? = some o3) ∧ Below w.heap.size w ((((w.alloc o0).alloc o1).alloc o2).alloc o3) := by
  have h0 := World.alloc_heap_new w o0
  have h1 := World.alloc_heap_new (w.alloc o0) o1
  have h2 := World.alloc_heap_new ((w.alloc o0).alloc o1) o2
  have h3 := World.alloc_heap_new (((w.alloc o0).alloc o1).alloc o2) o3
  simp only [World.size_alloc] at h1 h2 h3
  exact ⟨⟨blk_alloc (blk_alloc (blk_alloc h0 _) _) _, blk_alloc (blk_alloc h1 _) _, blk_alloc h2 _, h3⟩, below_alloc (below_alloc (below_alloc (below_alloc (Below.refl _ _) _) _) _) _⟩

theorem cond_one (F : Nat) (cap : Array Value) (n : Int) : ∀ v ∈ (#[.func (.func F) #[] cap, .int .i64 n] : Array Value).toList, v.oneCell' = true := by
  intro v hv
  simp only [List.mem_cons, List.not_mem_nil, or_false] at hv
  rcases hv with rfl | rfl <;> rfl

/-- What a function that makes a condition answers. -/
def MakesCond (w : World) (b : Bool) (err : Int) (e : Ending) (w' : World) : Prop :=
  ∃ (F : Nat) (cap : Array Value), e = .returned (.agg #[.func (.func F) #[] cap, .int .i64 err]) ∧ Holds w.heap.size w' (.func (.func F) #[] cap) b ∧ Below w.heap.size w w'

set_option maxHeartbeats 2000000 in
set_option maxRecDepth 100000 in
theorem within_makes (n low high err : Int) (w : World) :
    Calls Tryd.prog 61 #[.int .i64 n, .int .i64 low, .int .i64 high, .int .i64 err] w (MakesCond w (btw n low high) err) := by
  have hmf : ∀ (fn : Fn) (first cap : Array Value) (w : World), (Instr.makeFunc fn first cap).run Tryd.prog w = .ok (.func fn first cap) w := fun _ _ _ _ => rfl
  have hu := Tryd.underlying75
  go_enter Tryd.func61, Tryd.ntmps61
  go_wp2
  have HF := four_blocks w (.cells #[.int .i64 n] 3) (.cells #[.int .i64 low] 3) (.cells #[.int .i64 high] 3) (.cells #[.func (.func 83) #[] #[.pointer (some ⟨w.heap.size + 1, 0, none⟩), .pointer (some ⟨w.heap.size, 0, none⟩), .pointer (some ⟨w.heap.size + 1 + 1, 0, none⟩)], .int .i64 err] 75)
  refine bodyPost_ret (v := .agg #[.func (.func 83) #[] #[.pointer (some ⟨w.heap.size + 1, 0, none⟩), .pointer (some ⟨w.heap.size, 0, none⟩), .pointer (some ⟨w.heap.size + 1 + 1, 0, none⟩)], .int .i64 err]) (by simp [results, Tryd.results61, go_sem]) rfl ?_
  obtain ⟨⟨b0, b1, b2, b3⟩, hb⟩ := HF
  refine ⟨_, _, rfl, ⟨83, _, _, rfl, Tryd.func83, (by kernel_rfl), rfl, fun W' hW => ?_⟩, hb⟩
  exact within1 (w.heap.size + 1) w.heap.size (w.heap.size + 1 + 1) low n high W' ((blk_cell (kept_blk b1 hW (by omega)) 0).trans rfl) ((blk_cell (kept_blk b0 hW (by omega)) 0).trans rfl) ((blk_cell (kept_blk b2 hW (by omega)) 0).trans rfl)

theorem two_blocks (w : World) (o0 o1 : Obj) : (((w.alloc o0).alloc o1).heap[w.heap.size]? = some o0 ∧ ((w.alloc o0).alloc o1).heap[w.heap.size + 1]? = some o1) ∧ Below w.heap.size w ((w.alloc o0).alloc o1) := by
  have h0 := World.alloc_heap_new w o0
  have h1 := World.alloc_heap_new (w.alloc o0) o1
  simp only [World.size_alloc] at h1
  exact ⟨⟨blk_alloc h0 _, h1⟩, below_alloc (below_alloc (Below.refl _ _) _) _⟩

set_option maxHeartbeats 2000000 in
set_option maxRecDepth 100000 in
theorem element_makes (n err : Int) (w : World) :
    Calls Tryd.prog 59 #[.int .i64 n, .int .i64 err] w (MakesCond w (vld n) err) := by
  have hmf : ∀ (fn : Fn) (first cap : Array Value) (w : World), (Instr.makeFunc fn first cap).run Tryd.prog w = .ok (.func fn first cap) w := fun _ _ _ _ => rfl
  have hu := Tryd.underlying75
  go_enter Tryd.func59, Tryd.ntmps59
  go_wp2
  have HF := two_blocks w (.cells #[.int .i64 n] 3) (.cells #[.func (.func 82) #[] #[.pointer (some ⟨w.heap.size, 0, none⟩)], .int .i64 err] 75)
  refine bodyPost_ret (v := .agg #[.func (.func 82) #[] #[.pointer (some ⟨w.heap.size, 0, none⟩)], .int .i64 err]) (by simp [results, Tryd.results59, go_sem]) rfl ?_
  obtain ⟨⟨b0, b1⟩, hb⟩ := HF
  refine ⟨_, _, rfl, ⟨82, _, _, rfl, Tryd.func82, (by kernel_rfl), rfl, fun W' hW => ?_⟩, hb⟩
  exact element1 w.heap.size n W' ((blk_cell (kept_blk b0 hW (by omega)) 0).trans rfl)

set_option maxHeartbeats 2000000 in
set_option maxRecDepth 100000 in
theorem secret_makes (n : Int) (w : World) :
    Calls Tryd.prog 58 #[.int .i64 n] w (MakesCond w (btw n 1 1073741788) 110) := by
  have hu := Tryd.underlying75
  go_enter Tryd.func58, Tryd.ntmps58
  go_wp2_with fail
  refine (within_makes n 1 1073741788 110 _).mono ?_
  rintro e w1 ⟨F, cap, rfl, hH, hb⟩
  have hz : w1.heap[w.heap.size]? = some (.cells #[.nilFunc, .int .i64 0] 75 (0, 0)) := blk_below (World.alloc_heap_new _ _) hb
  have hb1 := below_step (below_alloc (Below.refl _ _) _) hb
  have HZ := Aside0.mk hz
  clear hz hb hu
  go_wp2_with (first | ((with_reducible refine gate_store (t := 75) (p := 2) rfl ?_); refine wpList_store_row rfl 75 (.tmp 2) (.tmp 4) rfl rfl w.heap.size rfl 75 #[.nilFunc, .int .i64 0] #[.func (.func F) #[] cap, .int .i64 110] rfl HZ.out (by kernel_rfl) rfl (cond_one _ _ _) ?_) | fail)
  have hs := setRow_heap w1 w.heap.size #[.nilFunc, .int .i64 0] #[.func (.func F) #[] cap, .int .i64 110] 75 (0, 0) HZ.out
  have hn : Holds w.heap.size (w1.setRow w.heap.size #[.func (.func F) #[] cap, .int .i64 110]) (.func (.func F) #[] cap) (btw n 1 1073741788) := by
    have h1 := hH.kept (Kept.setRow (g := w.heap.size) #[.func (.func F) #[] cap, .int .i64 110] (by rw [World.size_alloc]; omega))
    exact h1.lower (by rw [World.size_alloc]; omega)
  refine bodyPost_ret (v := .agg #[.func (.func F) #[] cap, .int .i64 110]) (by simp [results, Tryd.results58, go_sem, (blk_cell hs 0), (blk_cell hs 1)]) rfl ?_
  exact ⟨F, cap, rfl, hn, hb1.trans ((Only.setRow w.heap.size w1 #[.func (.func F) #[] cap, .int .i64 110]).below hb1.size (Nat.le_refl _))⟩

set_option maxHeartbeats 2000000 in
set_option maxRecDepth 100000 in
theorem person_makes (n : Int) (w : World) :
    Calls Tryd.prog 60 #[.int .i64 n] w (MakesCond w (btw n 0 63) 1) := by
  have hu := Tryd.underlying75
  go_enter Tryd.func60, Tryd.ntmps60
  go_wp2_with fail
  refine (within_makes n 0 63 1 _).mono ?_
  rintro e w1 ⟨F, cap, rfl, hH, hb⟩
  have hz : w1.heap[w.heap.size]? = some (.cells #[.nilFunc, .int .i64 0] 75 (0, 0)) := blk_below (World.alloc_heap_new _ _) hb
  have hb1 := below_step (below_alloc (Below.refl _ _) _) hb
  have HZ := Aside0.mk hz
  clear hz hb hu
  go_wp2_with (first | ((with_reducible refine gate_store (t := 75) (p := 2) rfl ?_); refine wpList_store_row rfl 75 (.tmp 2) (.tmp 4) rfl rfl w.heap.size rfl 75 #[.nilFunc, .int .i64 0] #[.func (.func F) #[] cap, .int .i64 1] rfl HZ.out (by kernel_rfl) rfl (cond_one _ _ _) ?_) | fail)
  have hs := setRow_heap w1 w.heap.size #[.nilFunc, .int .i64 0] #[.func (.func F) #[] cap, .int .i64 1] 75 (0, 0) HZ.out
  have hn : Holds w.heap.size (w1.setRow w.heap.size #[.func (.func F) #[] cap, .int .i64 1]) (.func (.func F) #[] cap) (btw n 0 63) := by
    have h1 := hH.kept (Kept.setRow (g := w.heap.size) #[.func (.func F) #[] cap, .int .i64 1] (by rw [World.size_alloc]; omega))
    exact h1.lower (by rw [World.size_alloc]; omega)
  refine bodyPost_ret (v := .agg #[.func (.func F) #[] cap, .int .i64 1]) (by simp [results, Tryd.results60, go_sem, (blk_cell hs 0), (blk_cell hs 1)]) rfl ?_
  exact ⟨F, cap, rfl, hn, hb1.trans ((Only.setRow w.heap.size w1 #[.func (.func F) #[] cap, .int .i64 1]).below hb1.size (Nat.le_refl _))⟩

end Go.Proofs.YthladfegmedpnaaDoor.P

namespace Go.Proofs.YthladfegmedpnaaDoor.P
open Go.RowKit Go.Proofs.YthladfegmedpnaaDoorW.PrintWords Go.Proofs.YthladfegmedpnaaDoorW.PrintLast Go.Proofs.YthladfegmedpnaaDoorW.PrintMore Go.Proofs.YthladfegmedpnaaDoor
set_option linter.unusedVariables false
set_option linter.unusedSimpArgs false

/-- A call of a function value in a plain region. -/
theorem goesVL {P : Program} {ops : Array Oper} {Q : Exit → Act → World → Prop} {rest : List Oper} {oi : Oper} {a : Act} {w : World} (N : Option Tmp) (hd : oi.dst = N) (hg : oi.guard = none) {f : FuncId} {fn : Func} {vo : Operand} {xs_ : Array Operand} {ts : Array TypeId} {cap : Array Value}
    (hop : oi.op = .call { callee := .value vo, args := xs_, argTypes := ts }) (hev : a.eval vo = .func (.func f) #[] cap)
    (hf : P.funcs[f]? = some fn) (hname : (fn.name == "runtime.NumGoroutine") = false) (hb : fn.body.isSome = true) (args : Array Value) (hargs : xs_.map a.eval ++ cap = args)
    (h : Calls P f args w fun e w' => ∃ v, e = .returned v ∧ wpList P ops Q rest (a.put N v) w') : wpList P ops Q (oi :: rest) a w := by
  refine wpList_plain hg fun K hK => ?_
  have he := enters_ hf hname hb args w
  have hrun : (execOp a.eval oi).run P w = .ok (.enter f args) w := by
    unfold execOp
    simp [hop, resolve, Deferred.ofValue, invoke, hev, hargs, he]
  unfold Oper.wp
  rw [hrun, Oper.upon_enter]
  refine h.mono fun e w'' hh => ?_
  obtain ⟨v, rfl, hk⟩ := hh
  subst hd
  exact hK _ _ hk

set_option maxHeartbeats 2000000 in
set_option maxRecDepth 100000 in
theorem check1c (B F : Nat) (cap : Array Value) (b : Bool) (err : Int) (w : World) (h : Holds B w (.func (.func F) #[] cap) b) :
    Calls Tryd.prog 81 #[.agg #[.func (.func F) #[] cap, .int .i64 err]] w fun e w' => e = .returned (.bool (!b)) ∧ Below w.heap.size w w' := by
  obtain ⟨F', fn, cap', h1, h2, h3, h4, h5⟩ := h
  injection h1 with h1 _ h1'
  injection h1 with h1
  subst h1 h1'
  have H2 := Aside0.mk h2
  have H3 := Aside0.mk h3
  have H4 := Aside0.mk h4
  have H5 := Aside0.mk (h5 (w.alloc (.cells #[.func (.func F) #[] cap, .int .i64 err] 75)) (.of_below (below_alloc (Below.refl _ _) _)))
  clear h2 h3 h4 h5
  have hu := Tryd.underlying75
  go_enter Tryd.func81, Tryd.ntmps81
  go_wp2_with ((with_reducible refine gate_dst (N := 5) rfl ?_); refine goesVL (some 5) rfl rfl rfl rfl H2.out H3.out H4.out cap (by simp) ?_; refine H5.out.mono ?_; rintro e w1 ⟨rfl, hb⟩; refine ⟨_, rfl, ?_⟩)
  go_ret
  exact ⟨rfl, below_step (below_alloc (Below.refl _ _) _) hb⟩

/-! ### Rows of conditions -/
/-- a condition: the function, what it captured, what it answers, the error. -/
abbrev CondT := Nat × Array Value × Bool × Int
def condCells : List CondT → List Value
  | [] => []
  | c :: r => .func (.func c.1) #[] c.2.1 :: .int .i64 c.2.2.2 :: condCells r
/-- the error of the first condition that does not hold. -/
def errs : List CondT → Int
  | [] => 0
  | c :: r => if c.2.2.1 = true then errs r else c.2.2.2
def met : List CondT → Bool
  | [] => false
  | c :: r => if c.2.2.1 = true then met r else true
theorem condCells_at : ∀ (cs : List CondT) (k : Nat) (c : CondT), cs[k]? = some c → (condCells cs)[k * 2]? = some (.func (.func c.1) #[] c.2.1) ∧ (condCells cs)[k * 2 + 1]? = some (.int .i64 c.2.2.2)
  | [], k, c, h => by simp at h
  | d :: r, 0, c, h => by
    obtain rfl : d = c := by simpa using h
    simp [condCells]
  | d :: r, k + 1, c, h => by
    have := condCells_at r k c (by simpa using h)
    rw [show (k + 1) * 2 = (k * 2) + 1 + 1 from by omega]
    simpa [condCells] using this
def AllTo (cs : List CondT) (k : Nat) : Prop := ∀ j, j < k → ∀ c, cs[j]? = some c → c.2.2.1 = true
theorem AllTo.zero (cs : List CondT) : AllTo cs 0 := fun _ h => absurd h (by omega)
theorem AllTo.succ {cs : List CondT} {k : Nat} {c : CondT} (h : AllTo cs k) (hc : cs[k]? = some c) (hb : c.2.2.1 = true) : AllTo cs (k + 1) := fun j hj d hd => by
  by_cases e : j = k
  · subst e
    obtain rfl := Option.some.inj (hc.symm.trans hd)
    exact hb
  · exact h j (by omega) d hd
theorem errs_all : ∀ (cs : List CondT), AllTo cs cs.length → errs cs = 0 ∧ met cs = false
  | [], _ => ⟨rfl, rfl⟩
  | c :: r, h => by
    have hc : c.2.2.1 = true := h 0 (by simp) c rfl
    have := errs_all r (fun j hj d hd => h (j + 1) (by simp; omega) d (by simpa using hd))
    simp [errs, met, hc, this]
theorem errs_at : ∀ (cs : List CondT) (k : Nat) (c : CondT), AllTo cs k → cs[k]? = some c → c.2.2.1 = false → errs cs = c.2.2.2 ∧ met cs = true
  | [], k, c, _, h, _ => by simp at h
  | d :: r, 0, c, _, h, hb => by
    obtain rfl : d = c := by simpa using h
    simp [errs, met, hb]
  | d :: r, k + 1, c, ha, h, hb => by
    have hd : d.2.2.1 = true := ha 0 (by omega) d rfl
    have := errs_at r k c (fun j hj e he => ha (j + 1) (by omega) e (by simpa using he)) (by simpa using h) hb
    simp [errs, met, hd, this]

theorem errs_met : ∀ (cs : List CondT), met cs = false → errs cs = 0
  | [], _ => rfl
  | c :: r, h => by
    unfold met at h
    unfold errs
    split at h
    · rename_i hc; rw [if_pos hc]; exact errs_met r h
    · cases h
theorem two_one (v : Value) (n : Int) (h : v.oneCell' = true) : ∀ u ∈ (#[v, .int .i64 n] : Array Value).toList, u.oneCell' = true := by
  intro u hu
  simp only [List.mem_cons, List.not_mem_nil, or_false] at hu
  rcases hu with rfl | rfl
  · exact h
  · rfl
theorem nil_one : ∀ v ∈ (#[.nilFunc, .int .i64 0] : Array Value).toList, v.oneCell' = true := by
  intro v hv
  simp only [List.mem_cons, List.not_mem_nil, or_false] at hv
  rcases hv with rfl | rfl <;> rfl

set_option maxHeartbeats 8000000 in
set_option maxRecDepth 100000 in
theorem first_makes (B g : Nat) (cs : List CondT) (w : World) (hrow : w.heap[g]? = some (.cells (condCells cs).toArray 75 (0, 0))) (hH : ∀ c ∈ cs, Holds B w (.func (.func c.1) #[] c.2.1) c.2.2.1) (hn : cs.length ≤ 1000) :
    Calls Tryd.prog 80 #[.func (.func 81) #[] #[], .slice (some ⟨g, 0, none⟩) cs.length cs.length] w fun e w' =>
      ∃ v, v.oneCell' = true ∧ e = .returned (.tuple #[.agg #[v, .int .i64 (errs cs)], .bool (met cs)]) ∧ Below w.heap.size w w' := by
  have HROW := Aside0.mk hrow
  have HH := Aside0.mk hH
  have HN := Aside0.mk hn
  clear hrow hH hn
  go_enter Tryd.func80, Tryd.ntmps80
  go_wp2
  have HZ : Aside0 ((w.alloc (.cells #[.nilFunc, .int .i64 0] 75)).heap[w.heap.size]? = some (.cells #[.nilFunc, .int .i64 0] 75 (0, 0))) := ⟨World.alloc_heap_new _ _⟩
  have HB := Aside0.mk (below_alloc (Below.refl w.heap.size w) (.cells #[.nilFunc, .int .i64 0] 75))
  generalize w.alloc (.cells #[.nilFunc, .int .i64 0] 75) = W0 at HZ HB ⊢
  go_loopw [10] (fun v wr => ∃ k : Nat, k ≤ cs.length ∧ v = .int .i64 k ∧ Aside0 (AllTo cs k) ∧ Aside0 (wr.heap[w.heap.size]? = some (.cells #[.nilFunc, .int .i64 0] 75 (0, 0))) ∧ Aside0 (Below w.heap.size w wr)) (fun v _ => cs.length - (intOf v).toNat)
  case atStart => exact ⟨0, Nat.zero_le _, rfl, ⟨AllTo.zero _⟩, HZ, HB⟩
  case round =>
    clear HZ HB
    obtain ⟨k, hk, rfl, HA, HZ, HB⟩ := hrel
    by_cases hlt : k < cs.length
    · have hlt' : decide ((k : Int) < (cs.length : Int)) = true := decide_eq_true (by omega)
      have HLT := Aside0.mk hlt
      obtain ⟨c, hc⟩ : ∃ c, cs[k]? = some c := ⟨cs[k], List.getElem?_eq_getElem hlt⟩
      have hat := condCells_at cs k c hc
      have hr := blk_below HROW.out HB.out
      have q0 : wr.cell? ⟨g, k * 2, none⟩ = some (.func (.func c.1) #[] c.2.1) := (blk_cell hr (k * 2)).trans (by simpa using hat.1)
      have q1 : wr.cell? ⟨g, k * 2 + 1, none⟩ = some (.int .i64 c.2.2.2) := (blk_cell hr (k * 2 + 1)).trans (by simpa using hat.2)
      have HL := Aside0.mk ((HH.out c (List.mem_of_getElem? hc)).below HB.out)
      have HC := Aside0.mk hc
      clear hat hr hc
      obtain ⟨F, cap, b, err⟩ := c
      simp only at q0 q1 HL
      go_wp2_with (first | ((with_reducible refine gate_store (t := 75) (p := 7) rfl ?_); refine wpList_store_row rfl 75 (.tmp 7) (.tmp 13) rfl rfl wr.heap.size rfl 75 #[.nilFunc, .int .i64 0] #[.func (.func F) #[] cap, .int .i64 err] rfl (World.alloc_heap_new _ _) (by kernel_rfl) rfl (cond_one _ _ _) ?_; change wpList _ _ _ _ _ ((wr.alloc (.cells #[.nilFunc, .int .i64 0] 75)).setRow wr.heap.size #[.func (.func F) #[] cap, .int .i64 err]); rw [World.setRow_alloc_new]) | fail)
      have HL2 := Aside0.mk (HL.out.below (below_alloc (Below.refl _ _) (.cells #[.func (.func F) #[] cap, .int .i64 err] 75)))
      refine (check1c B F cap b err _ HL2.out).mono ?_
      rintro e w1 ⟨rfl, hb⟩
      have HR1 := Aside0.mk (blk_below (World.alloc_heap_new wr (.cells #[.func (.func F) #[] cap, .int .i64 err] 75)) hb)
      have HZ1 := Aside0.mk (blk_below (blk_alloc HZ.out (.cells #[.func (.func F) #[] cap, .int .i64 err] 75)) hb)
      have HB1 := Aside0.mk (below_step (below_alloc HB.out (.cells #[.func (.func F) #[] cap, .int .i64 err] 75)) hb)
      clear hb HL HL2 HB HZ q0 q1
      cases b
      · have HE := Aside0.mk (errs_at cs k _ HA.out HC.out rfl)
        have l0 := blk_cell HR1.out 0
        have l1 := blk_cell HR1.out 1
        go_wp2_with (first | ((with_reducible refine gate_store (t := 75) (p := 4) rfl ?_); refine wpList_store_row rfl 75 (.tmp 4) (.tmp 17) rfl rfl w.heap.size rfl 75 #[.nilFunc, .int .i64 0] #[.func (.func F) #[] cap, .int .i64 err] rfl HZ1.out (by kernel_rfl) rfl (cond_one _ _ _) ?_) | fail)
        have hs := setRow_heap w1 w.heap.size #[.nilFunc, .int .i64 0] #[.func (.func F) #[] cap, .int .i64 err] 75 (0, 0) HZ1.out
        have hb9 := HB1.out.trans ((Only.setRow w.heap.size w1 #[.func (.func F) #[] cap, .int .i64 err]).below HB1.out.size (Nat.le_refl _))
        refine bodyPost_ret (results_list (rs := [.cell 4 75, .tmp 5]) rfl (by simp) (.cell w.heap.size 75 #[.func (.func F) #[] cap, .int .i64 err] (0, 0) _ rfl hs Tryd.underlying75 rfl (by kernel_rfl) (.tmp .nil))) rfl ?_
        exact ⟨_, rfl, by rw [HE.out.1, HE.out.2]; rfl, hb9⟩
      · have HA2 := Aside0.mk (HA.out.succ HC.out rfl)
        have hn9 := HN.out
        go_wp2
        have hlt2 := HLT.out
        refine ⟨⟨k + 1, by omega, by go_num, HA2, HZ1, HB1⟩, ?_⟩
        simp [intOf]; omega
    · have hlt' : decide ((k : Int) < (cs.length : Int)) = false := decide_eq_false (by omega)
      obtain rfl : k = cs.length := by omega
      have HE := Aside0.mk (errs_all cs HA.out)
      have l0 := blk_cell HZ.out 0
      have l1 := blk_cell HZ.out 1
      clear hlt
      go_wp2_with (first | ((with_reducible refine gate_store (t := 75) (p := 4) rfl ?_); refine wpList_store_row rfl 75 (.tmp 4) (.tmp 19) rfl rfl w.heap.size rfl 75 #[.nilFunc, .int .i64 0] #[.nilFunc, .int .i64 0] rfl HZ.out (by kernel_rfl) rfl nil_one ?_; rw [setRow_self _ _ _ _ _ HZ.out]) | fail)
      refine bodyPost_ret (results_list (rs := [.cell 4 75, .tmp 5]) rfl (by simp) (.cell w.heap.size 75 #[.nilFunc, .int .i64 0] (0, 0) _ rfl HZ.out Tryd.underlying75 rfl (by kernel_rfl) (.tmp .nil))) rfl ?_
      exact ⟨_, rfl, by rw [HE.out.1, HE.out.2]; rfl, HB.out⟩

set_option maxHeartbeats 4000000 in
set_option maxRecDepth 100000 in
theorem check_makes (B g : Nat) (cs : List CondT) (w : World) (hrow : w.heap[g]? = some (.cells (condCells cs).toArray 75 (0, 0))) (hH : ∀ c ∈ cs, Holds B w (.func (.func c.1) #[] c.2.1) c.2.2.1) (hn : cs.length ≤ 1000) :
    Calls Tryd.prog 57 #[.slice (some ⟨g, 0, none⟩) cs.length cs.length] w fun e w' => e = .returned (.int .i64 (errs cs)) ∧ Below w.heap.size w w' := by
  have HF := Aside0.mk (first_makes B g cs w hrow hH hn)
  clear hrow hH hn
  go_enter Tryd.func57, Tryd.ntmps57
  go_wp2_with fail
  refine HF.out.mono ?_
  rintro e w1 ⟨v, hv, rfl, hb⟩
  have HV := Aside0.mk hv
  have HB := Aside0.mk hb
  clear hv hb HF
  generalize hm : met cs = m
  generalize he : errs cs = er
  have EM := Aside0.mk hm
  have EE := Aside0.mk he
  clear hm he
  cases m
  · go_wp2_with (first | ((with_reducible refine gate_store (t := 75) (p := 3) rfl ?_); refine wpList_store_row rfl 75 (.tmp 3) (.tmp 8) rfl rfl w1.heap.size rfl 75 #[.nilFunc, .int .i64 0] #[v, .int .i64 er] rfl (World.alloc_heap_new _ _) (by kernel_rfl) rfl (two_one v er HV.out) ?_; change wpList _ _ _ _ _ ((w1.alloc (.cells #[.nilFunc, .int .i64 0] 75)).setRow w1.heap.size #[v, .int .i64 er]); rw [World.setRow_alloc_new]) | fail)
    go_ret
    exact ⟨by rw [errs_met cs EM.out]; rfl, below_alloc HB.out _⟩
  · have hu := Tryd.underlying75
    go_wp2_with (first | ((with_reducible refine gate_store (t := 75) (p := 3) rfl ?_); refine wpList_store_row rfl 75 (.tmp 3) (.tmp 8) rfl rfl w1.heap.size rfl 75 #[.nilFunc, .int .i64 0] #[v, .int .i64 er] rfl (World.alloc_heap_new _ _) (by kernel_rfl) rfl (two_one v er HV.out) ?_; change wpList _ _ _ _ _ ((w1.alloc (.cells #[.nilFunc, .int .i64 0] 75)).setRow w1.heap.size #[v, .int .i64 er]); rw [World.setRow_alloc_new]) | fail)
    go_ret
    exact ⟨by rw [EE.out]; rfl, below_alloc HB.out _⟩

end Go.Proofs.YthladfegmedpnaaDoor.P

namespace Go.Proofs.YthladfegmedpnaaDoor.P
open Go.RowKit Go.Proofs.YthladfegmedpnaaDoorW.PrintWords Go.Proofs.YthladfegmedpnaaDoorW.PrintLast Go.Proofs.YthladfegmedpnaaDoorW.PrintMore Go.Proofs.YthladfegmedpnaaDoor
set_option linter.unusedVariables false
set_option linter.unusedSimpArgs false

theorem three_holds {B : Nat} {W : World} {c1 c2 c3 : CondT} (h1 : Holds B W (.func (.func c1.1) #[] c1.2.1) c1.2.2.1) (h2 : Holds B W (.func (.func c2.1) #[] c2.2.1) c2.2.2.1) (h3 : Holds B W (.func (.func c3.1) #[] c3.2.1) c3.2.2.1) :
    ∀ c ∈ [c1, c2, c3], Holds B W (.func (.func c.1) #[] c.2.1) c.2.2.1 := by
  intro c hc
  simp only [List.mem_cons, List.not_mem_nil, or_false] at hc
  rcases hc with rfl | rfl | rfl <;> assumption

theorem pers_btw (n : Int) : btw n 0 63 = isPers n := by
  unfold btw isPers
  rw [show decide (n ≤ 63) = decide (n < 64) from decide_eq_decide.2 (by omega)]
theorem inQ_btw (n : Int) : btw n 0 1073741788 = inQ n := by
  unfold btw inQ
  rw [show decide (n ≤ 1073741788) = decide (n < 1073741789) from decide_eq_decide.2 (by omega)]
theorem secret_btw (n : Int) : btw n 1 1073741788 = isSecret n := by
  unfold btw isSecret
  rw [show decide (n ≤ 1073741788) = decide (n < 1073741789) from decide_eq_decide.2 (by omega)]
theorem errs_right (F1 F2 F3 : Nat) (c1 c2 c3 : Array Value) (row point cipher : Int) : (errs [(F1, c1, btw row 0 63, 350), (F2, c2, vld point, 350), (F3, c3, btw cipher 0 1073741788, 350)] == 0) = rightP row point cipher := by
  rw [pers_btw, inQ_btw]
  unfold rightP
  cases isPers row <;> cases vld point <;> cases inQ cipher <;> rfl

set_option maxHeartbeats 8000000 in
set_option maxRecDepth 100000 in
theorem right1 (g : Nat) (row point cipher : Int) (w : World) (hc : w.heap[g]? = some (.cells #[.int .i64 row, .int .i64 point, .int .i64 cipher] 48 (0, 0))) :
    Calls Tryd.prog 87 #[.pointer (some ⟨g, 0, none⟩)] w fun e w' => e = .returned (.bool (rightP row point cipher)) ∧ Below w.heap.size w w' := by
  have HC := Aside0.mk hc
  clear hc
  have hu := Tryd.underlying48
  have HB := Below.refl w.heap.size w
  have q0 : w.cell? ⟨g, 0, none⟩ = some (.int .i64 row) := (blk_cell HC.out 0).trans rfl
  have q1 : w.cell? ⟨g, 1, none⟩ = some (.int .i64 point) := (blk_cell HC.out 1).trans rfl
  have q2 : w.cell? ⟨g, 2, none⟩ = some (.int .i64 cipher) := (blk_cell HC.out 2).trans rfl
  go_enter Tryd.func87, Tryd.ntmps87
  go_upto_region 1 with (fail)
  go_region_held3 (fun w' => w'.cell? ⟨g, 0, none⟩ = some (.int .i64 row) ∧ w'.cell? ⟨g, 1, none⟩ = some (.int .i64 point) ∧ w'.cell? ⟨g, 2, none⟩ = some (.int .i64 cipher)) (go_keep) (first | (go_at_call 61; (with_reducible refine (within_makes row 0 63 350 _).mono ?_); rintro e1 w1 ⟨F1, c1, rfl, hH1, hb1⟩; have k0 : w1.cell? ⟨g, 0, none⟩ = some (.int .i64 row) := (Below.cell hb1 (p := ⟨g, 0, none⟩) (lt_of_cell (by assumption))).trans (by assumption); have k1 : w1.cell? ⟨g, 1, none⟩ = some (.int .i64 point) := (Below.cell hb1 (p := ⟨g, 1, none⟩) (lt_of_cell (by assumption))).trans (by assumption); have k2 : w1.cell? ⟨g, 2, none⟩ = some (.int .i64 cipher) := (Below.cell hb1 (p := ⟨g, 2, none⟩) (lt_of_cell (by assumption))).trans (by assumption)) | (go_at_call 59; refine (element_makes point 350 _).mono ?_; rintro e2 w2 ⟨F2, c2, rfl, hH2, hb2⟩; have k0 : w2.cell? ⟨g, 0, none⟩ = some (.int .i64 row) := (Below.cell hb2 (p := ⟨g, 0, none⟩) (lt_of_cell (by assumption))).trans (by assumption); have k1 : w2.cell? ⟨g, 1, none⟩ = some (.int .i64 point) := (Below.cell hb2 (p := ⟨g, 1, none⟩) (lt_of_cell (by assumption))).trans (by assumption); have k2 : w2.cell? ⟨g, 2, none⟩ = some (.int .i64 cipher) := (Below.cell hb2 (p := ⟨g, 2, none⟩) (lt_of_cell (by assumption))).trans (by assumption)) | (go_at_call 61; (with_reducible refine (within_makes cipher 0 1073741788 350 _).mono ?_); rintro e3 w3 ⟨F3, c3, rfl, hH3, hb3⟩; have k0 : w3.cell? ⟨g, 0, none⟩ = some (.int .i64 row) := (Below.cell hb3 (p := ⟨g, 0, none⟩) (lt_of_cell (by assumption))).trans (by assumption); have k1 : w3.cell? ⟨g, 1, none⟩ = some (.int .i64 point) := (Below.cell hb3 (p := ⟨g, 1, none⟩) (lt_of_cell (by assumption))).trans (by assumption); have k2 : w3.cell? ⟨g, 2, none⟩ = some (.int .i64 cipher) := (Below.cell hb3 (p := ⟨g, 2, none⟩) (lt_of_cell (by assumption))).trans (by assumption)) | (go_at_call 57; refine (check_makes w.heap.size w3.heap.size [(F1, c1, btw row 0 63, 350), (F2, c2, vld point, 350), (F3, c3, btw cipher 0 1073741788, 350)] _ (World.alloc_heap_new _ _) (three_holds ((((hH1.below hb2).below hb3).below (below_alloc (Below.refl _ _) _)).lower (Nat.le_refl _)) (((hH2.below hb3).below (below_alloc (Below.refl _ _) _)).lower (Nat.le_trans (Nat.le_refl _) hb1.size)) ((hH3.below (below_alloc (Below.refl _ _) _)).lower (Nat.le_trans hb1.size hb2.size))) (by simp)).mono ?_; rintro e4 w4 ⟨rfl, hb4⟩; have hb5 := below_step (below_alloc (Below.refl _ _) _) hb4; have k0 : w4.cell? ⟨g, 0, none⟩ = some (.int .i64 row) := (Below.cell hb5 (p := ⟨g, 0, none⟩) (lt_of_cell (by assumption))).trans (by assumption); have k1 : w4.cell? ⟨g, 1, none⟩ = some (.int .i64 point) := (Below.cell hb5 (p := ⟨g, 1, none⟩) (lt_of_cell (by assumption))).trans (by assumption); have k2 : w4.cell? ⟨g, 2, none⟩ = some (.int .i64 cipher) := (Below.cell hb5 (p := ⟨g, 2, none⟩) (lt_of_cell (by assumption))).trans (by assumption)))
  go_wp2
  go_ret
  exact ⟨by rw [← errs_right F1 F2 F3 c1 c2 c3]; rfl, below_step (below_step (below_step (below_step (below_drew1 HB) hb1) hb2) hb3) hb5⟩

set_option maxHeartbeats 2000000 in
set_option maxRecDepth 100000 in
theorem right_makes (row point cipher : Int) (w : World) :
    Calls Tryd.prog 64 #[.agg #[.int .i64 row, .int .i64 point, .int .i64 cipher]] w (MakesCond w (rightP row point cipher) 350) := by
  have hmf : ∀ (fn : Fn) (first cap : Array Value) (w : World), (Instr.makeFunc fn first cap).run Tryd.prog w = .ok (.func fn first cap) w := fun _ _ _ _ => rfl
  have hu := Tryd.underlying75
  go_enter Tryd.func64, Tryd.ntmps64
  go_wp2
  have HF := two_blocks w (.cells #[.int .i64 row, .int .i64 point, .int .i64 cipher] 48) (.cells #[.func (.func 87) #[] #[.pointer (some ⟨w.heap.size, 0, none⟩)], .int .i64 350] 75)
  refine bodyPost_ret (v := .agg #[.func (.func 87) #[] #[.pointer (some ⟨w.heap.size, 0, none⟩)], .int .i64 350]) (by simp [results, Tryd.results64, go_sem]) rfl ?_
  obtain ⟨⟨b0, b1⟩, hb⟩ := HF
  refine ⟨_, _, rfl, ⟨87, _, _, rfl, Tryd.func87, (by kernel_rfl), rfl, fun W' hW => ?_⟩, hb⟩
  exact right1 w.heap.size row point cipher W' (kept_blk b0 hW (by omega))

end Go.Proofs.YthladfegmedpnaaDoor.P

/- Plain laws of the stage 'parcels': pads. -/
namespace Go.Proofs.YthladfegmedpnaaDoor.P
open Go.RowKit Go.Proofs.YthladfegmedpnaaDoorW.PrintWords Go.Proofs.YthladfegmedpnaaDoorW.PrintLast Go.Proofs.YthladfegmedpnaaDoorW.PrintMore Go.Proofs.YthladfegmedpnaaDoor
set_option linter.unusedVariables false
set_option linter.unusedSimpArgs false

theorem parcels_integers_l0 (l : List Int) (hl : l.length ≤ 100) (h : ∀ x ∈ l, i64 x) : ∀ (d i k : Nat), i + d = l.length → d < k →
    parcels_integers.l0 k l (l.length : Int) (i : Int) 3 0 (⟨#[]⟩ : ByteArray) ((l.take i).map vi) = some (encInts l)
  | 0, i, k, hi, hk => by
    obtain ⟨k, rfl⟩ : ∃ j, k = j + 1 := ⟨k - 1, by omega⟩
    rw [parcels_integers.l0, if_neg (by omega), List.take_of_length_le (by omega), encode_vi l hl h]; rfl
  | d + 1, i, k, hi, hk => by
    obtain ⟨k, rfl⟩ : ∃ j, k = j + 1 := ⟨k - 1, by omega⟩
    have hlt : i < l.length := by omega
    have hw : wrap64 ((i : Int) + 1) = ((i + 1 : Nat) : Int) := by unfold wrap64; omega
    rw [parcels_integers.l0, if_pos (by omega), if_pos (by omega), if_pos (by omega), if_pos (by rw [List.length_map, List.length_take]; omega), rd_nat l i hlt, hw]
    have := parcels_integers_l0 l hl h d (i + 1) k (by omega) (by omega)
    rw [← take_vi l i hlt] at this
    exact this
theorem three {a b c : Int} (ha : i64 a) (hb : i64 b) (hc : i64 c) : ∀ x ∈ [a, b, c], i64 x := by
  intro x hx
  simp only [List.mem_cons, List.not_mem_nil, or_false] at hx
  rcases hx with rfl | rfl | rfl <;> assumption
theorem pad_f (k : Nat) (hk : 10 ≤ k) (d dealer row : Int) (h1 : i64 d) (h2 : i64 dealer) (h3 : i64 row) : parcels_pad.f k d dealer row = some (padz d dealer row) := by
  unfold parcels_pad.f parcels_integers.f
  have e := parcels_integers_l0 [d, dealer, row] (by simp) (three h1 h2 h3) 3 0 k rfl (by omega)
  rw [show parcels_integers.l0 k [d, dealer, row] (([d, dealer, row] : List Int).length : Int) 0 3 0 (⟨#[]⟩ : ByteArray) [] = some (encInts [d, dealer, row]) from e, Option.bind_some, hash_f _ _ (by decide) (by simp)]
  rfl
theorem padz_lt (d dealer row : Int) : 0 ≤ padz d dealer row ∧ padz d dealer row < 1073741789 := hsh_lt _ _
theorem opened_f (k : Nat) (hk : 10 ≤ k) (d dealer row point cipher : Int) (h1 : i64 d) (h2 : i64 dealer) (h3 : i64 row) (hc : inQ cipher = true) : parcels_opened.f k d dealer row point cipher = some (opened d dealer row cipher) := by
  unfold parcels_opened.f opened
  rw [pad_f k hk d dealer row h1 h2 h3, Option.bind_some]
  have hp := padz_lt d dealer row
  have hq : 0 ≤ cipher ∧ cipher < 1073741789 := by unfold inQ at hc; simpa using hc
  generalize padz d dealer row = p at hp
  have e1 : wrap64 (cipher - p) = cipher - p := by unfold wrap64; omega
  have e2 : wrap64 (cipher - p + 1073741789) = cipher - p + 1073741789 := by unfold wrap64; omega
  rw [e1, e2, Int.tmod_eq_emod_of_nonneg (by omega)]

end Go.Proofs.YthladfegmedpnaaDoor.P

namespace Go.Proofs.YthladfegmedpnaaDoor.P
open Go.RowKit Go.Proofs.YthladfegmedpnaaDoorW.PrintWords Go.Proofs.YthladfegmedpnaaDoorW.PrintLast Go.Proofs.YthladfegmedpnaaDoorW.PrintMore Go.Proofs.YthladfegmedpnaaDoor
set_option linter.unusedVariables false
set_option linter.unusedSimpArgs false

theorem five_holds {B : Nat} {W : World} {c1 c2 c3 c4 c5 : CondT} (h1 : Holds B W (.func (.func c1.1) #[] c1.2.1) c1.2.2.1) (h2 : Holds B W (.func (.func c2.1) #[] c2.2.1) c2.2.2.1) (h3 : Holds B W (.func (.func c3.1) #[] c3.2.1) c3.2.2.1)
    (h4 : Holds B W (.func (.func c4.1) #[] c4.2.1) c4.2.2.1) (h5 : Holds B W (.func (.func c5.1) #[] c5.2.1) c5.2.2.1) :
    ∀ c ∈ [c1, c2, c3, c4, c5], Holds B W (.func (.func c.1) #[] c.2.1) c.2.2.1 := by
  intro c hc
  simp only [List.mem_cons, List.not_mem_nil, or_false] at hc
  rcases hc with rfl | rfl | rfl | rfl | rfl <;> assumption

/-- what stands in the way of sealing. -/
def sealE (u key dealer row value : Int) : Int :=
  if isSecret u = false then 110 else if vld key = false then 100 else if isPers dealer = false then 1 else if isPers row = false then 1 else if inQ value = false then 350 else 0
theorem errs_seal (F1 F2 F3 F4 F5 : Nat) (c1 c2 c3 c4 c5 : Array Value) (u key dealer row value : Int) :
    errs [(F1, c1, btw u 1 1073741788, 110), (F2, c2, vld key, 100), (F3, c3, btw dealer 0 63, 1), (F4, c4, btw row 0 63, 1), (F5, c5, btw value 0 1073741788, 350)] = sealE u key dealer row value := by
  rw [pers_btw, pers_btw, inQ_btw, secret_btw]
  unfold sealE
  cases isSecret u <;> cases vld key <;> cases isPers dealer <;> cases isPers row <;> cases inQ value <;> rfl
theorem sealE_zero {u key dealer row value : Int} (h : sealE u key dealer row value = 0) : isSecret u = true ∧ vld key = true ∧ isPers dealer = true ∧ isPers row = true ∧ inQ value = true := by
  unfold sealE at h
  cases h1 : isSecret u <;> cases h2 : vld key <;> cases h3 : isPers dealer <;> cases h4 : isPers row <;> cases h5 : inQ value <;> simp_all
theorem seal_f (u key dealer row value : Int) : parcels_Seal.f u key dealer row value = if sealE u key dealer row value = 0 then some (row, pwz 4 u, (value + padz (pwz key u) dealer row) % 1073741789, 0) else some (0, 0, 0, sealE u key dealer row value) := by
  unfold parcels_Seal.f sealE
  cases isSecret u <;> cases vld key <;> cases isPers dealer <;> cases isPers row <;> cases inQ value <;> simp

theorem ints_one (a b c : Int) : ∀ v ∈ (#[.int .i64 a, .int .i64 b, .int .i64 c] : Array Value).toList, v.oneCell' = true := by
  intro v hv
  simp only [List.mem_cons, List.not_mem_nil, or_false] at hv
  rcases hv with rfl | rfl | rfl <;> rfl

theorem pow_calls (a n : Int) (h : vld a = true) (hn : i64 n) (w : World) : Calls Tryd.prog 31 #[.int .i64 a, .int .i64 n] w fun e w' => e = .returned (.tuple #[.int .i64 (pwz a n), .int .i64 0]) ∧ Below w.heap.size w w' :=
  group_Pow.calls a n _ _ w (by unfold group_Pow.f; rw [if_pos hn, if_pos h])

theorem pers_lt {n : Int} (h : isPers n = true) : 0 ≤ n ∧ n < 64 := by unfold isPers at h; simpa using h

set_option maxHeartbeats 8000000 in
set_option maxRecDepth 100000 in
theorem Seal_makes (u key dealer row value : Int) (w : World) (hG : Glob w) :
    Calls Tryd.prog 27 #[.int .i64 u, .int .i64 key, .int .i64 dealer, .int .i64 row, .int .i64 value] w fun e w' =>
      e = .returned (if sealE u key dealer row value = 0 then .tuple #[.agg #[.int .i64 row, .int .i64 (pwz 4 u), .int .i64 ((value + padz (pwz key u) dealer row) % 1073741789)], .int .i64 0] else .tuple #[.agg #[.int .i64 0, .int .i64 0, .int .i64 0], .int .i64 (sealE u key dealer row value)]) ∧ Below w.heap.size w w' := by
  generalize hR : (if sealE u key dealer row value = 0 then Value.tuple #[.agg #[.int .i64 row, .int .i64 (pwz 4 u), .int .i64 ((value + padz (pwz key u) dealer row) % 1073741789)], .int .i64 0] else .tuple #[.agg #[.int .i64 0, .int .i64 0, .int .i64 0], .int .i64 (sealE u key dealer row value)]) = R
  have HR := Aside0.mk hR
  have HG := Aside0.mk hG
  clear hR hG
  go_enter Tryd.func27, Tryd.ntmps27
  go_wp2_with fail
  have HZ0 : Aside0 ((w.alloc (.cells #[.int .i64 0, .int .i64 0, .int .i64 0] 48)).heap[w.heap.size]? = some (.cells #[.int .i64 0, .int .i64 0, .int .i64 0] 48 (0, 0))) := ⟨World.alloc_heap_new _ _⟩
  have HB0 := Aside0.mk (below_alloc (Below.refl w.heap.size w) (.cells #[.int .i64 0, .int .i64 0, .int .i64 0] 48))
  change Calls _ _ _ (w.alloc (.cells #[.int .i64 0, .int .i64 0, .int .i64 0] 48)) _
  generalize w.alloc (.cells #[.int .i64 0, .int .i64 0, .int .i64 0] 48) = w0 at HZ0 HB0 ⊢
  refine (secret_makes u w0).mono ?_
  rintro e w1 ⟨F1, c1, rfl, hH1, hb1⟩
  go_wp2_with fail
  refine (element_makes key 100 w1).mono ?_
  rintro e w2 ⟨F2, c2, rfl, hH2, hb2⟩
  go_wp2_with fail
  refine (person_makes dealer w2).mono ?_
  rintro e w3 ⟨F3, c3, rfl, hH3, hb3⟩
  go_wp2_with fail
  refine (within_makes row 0 63 1 w3).mono ?_
  rintro e w4 ⟨F4, c4, rfl, hH4, hb4⟩
  go_wp2_with fail
  refine (within_makes value 0 1073741788 350 w4).mono ?_
  rintro e w5 ⟨F5, c5, rfl, hH5, hb5⟩
  go_wp2_with fail
  have hca : Below w5.heap.size w5 (w5.alloc (.cells (condCells [(F1, c1, btw u 1 1073741788, 110), (F2, c2, vld key, 100), (F3, c3, btw dealer 0 63, 1), (F4, c4, btw row 0 63, 1), (F5, c5, btw value 0 1073741788, 350)]).toArray 75)) := below_alloc (Below.refl _ _) _
  refine (check_makes w0.heap.size w5.heap.size [(F1, c1, btw u 1 1073741788, 110), (F2, c2, vld key, 100), (F3, c3, btw dealer 0 63, 1), (F4, c4, btw row 0 63, 1), (F5, c5, btw value 0 1073741788, 350)] _ (World.alloc_heap_new _ _)
    (five_holds (((((hH1.below hb2).below hb3).below hb4).below hb5).below hca) (((((hH2.below hb3).below hb4).below hb5).below hca).lower hb1.size) ((((hH3.below hb4).below hb5).below hca).lower (Nat.le_trans hb1.size hb2.size)) (((hH4.below hb5).below hca).lower (Nat.le_trans hb1.size (Nat.le_trans hb2.size hb3.size))) ((hH5.below hca).lower (Nat.le_trans hb1.size (Nat.le_trans hb2.size (Nat.le_trans hb3.size hb4.size))))) (by simp)).mono ?_
  rintro e w6 ⟨rfl, hb6⟩
  rw [errs_seal]
  have hb06 := below_step (below_step (below_step (below_step (below_step (below_step hb1 hb2) hb3) hb4) hb5) hca) hb6
  have HZ6 := Aside0.mk (blk_below HZ0.out hb06)
  have HB6 := Aside0.mk (below_step HB0.out hb06)
  clear hH1 hH2 hH3 hH4 hH5 hb1 hb2 hb3 hb4 hb5 hb6 hca hb06 HZ0 HB0
  by_cases hz : sealE u key dealer row value = 0
  · have HR2 : Aside0 (R = .tuple #[.agg #[.int .i64 row, .int .i64 (pwz 4 u), .int .i64 ((value + padz (pwz key u) dealer row) % 1073741789)], .int .i64 0]) := ⟨by rw [← HR.out, if_pos hz]⟩
    obtain ⟨k1, k2, k3, k4, k5⟩ := sealE_zero hz
    rw [hz]
    have K1 := Aside0.mk k1
    have K2 := Aside0.mk k2
    have K3 := Aside0.mk (pers_lt k3)
    have K4 := Aside0.mk (pers_lt k4)
    have K5 : Aside0 (0 ≤ value ∧ value < 1073741789) := ⟨by unfold inQ at k5; simpa using k5⟩
    have KU : Aside0 (i64 u) := ⟨by unfold isSecret at k1; simp only [Bool.and_eq_true, decide_eq_true_eq] at k1; exact ⟨by omega, by omega⟩⟩
    clear k1 k2 k3 k4 k5 hz HR
    go_wp2_with fail
    refine (pow_calls 4 u vld_four KU.out w6).mono ?_
    rintro e w7 ⟨rfl, hb7⟩
    go_wp2_with fail
    refine (pow_calls key u K2.out KU.out w7).mono ?_
    rintro e w8 ⟨rfl, hb8⟩
    go_wp2_with fail
    have hG8 := HG.out.below (below_step (below_step HB6.out hb7) hb8)
    refine (parcels_pad.calls 10 (pwz key u) dealer row _ w8 (pad_f 10 (by omega) (pwz key u) dealer row (i64_vld (vld_pw K2.out u)) ⟨by have := K3.out; omega, by have := K3.out; omega⟩ ⟨by have := K4.out; omega, by have := K4.out; omega⟩) hG8).mono ?_
    rintro e w9 ⟨rfl, hb9⟩
    have h69 := below_step (below_step hb7 hb8) hb9
    have HZ9 := Aside0.mk (blk_below HZ6.out h69)
    have HB9 := Aside0.mk (below_step HB6.out h69)
    clear hb7 hb8 hb9 hG8 h69 HZ6 HB6
    have hp := padz_lt (pwz key u) dealer row
    generalize hpz : padz (pwz key u) dealer row = pz at hp HR2 ⊢
    clear hpz
    generalize hpw : pwz 4 u = pw at HR2 ⊢
    clear hpw
    obtain ⟨p0, p1⟩ := hp
    have v0 := K5.out.1
    have v1 := K5.out.2
    go_wp2_with (first | ((with_reducible refine gate_store (t := 48) (p := 10) rfl ?_); refine wpList_store_row rfl 48 (.tmp 10) (.tmp 58) rfl rfl w.heap.size rfl 48 #[.int .i64 0, .int .i64 0, .int .i64 0] #[.int .i64 row, .int .i64 pw, .int .i64 ((value + pz) % 1073741789)] rfl HZ9.out (by kernel_rfl) rfl (ints_one _ _ _) ?_) | fail)
    have hs := setRow_heap w9 w.heap.size #[.int .i64 0, .int .i64 0, .int .i64 0] #[.int .i64 row, .int .i64 pw, .int .i64 ((value + pz) % 1073741789)] 48 (0, 0) HZ9.out
    have hb := HB9.out.trans ((Only.setRow w.heap.size w9 #[.int .i64 row, .int .i64 pw, .int .i64 ((value + pz) % 1073741789)]).below HB9.out.size (Nat.le_refl _))
    refine bodyPost_ret (results_list (rs := [.cell 10 48, .tmp 11]) rfl (by simp) (.cell w.heap.size 48 #[.int .i64 row, .int .i64 pw, .int .i64 ((value + pz) % 1073741789)] (0, 0) _ rfl hs Tryd.underlying48 rfl (by kernel_rfl) (.tmp .nil))) rfl ?_
    exact ⟨by rw [HR2.out]; rfl, hb⟩
  · have HR2 : Aside0 (R = .tuple #[.agg #[.int .i64 0, .int .i64 0, .int .i64 0], .int .i64 (sealE u key dealer row value)]) := ⟨by rw [← HR.out, if_neg hz]⟩
    have hne : (sealE u key dealer row value != 0) = true := bne_iff_ne.2 hz
    clear hz HR
    generalize sealE u key dealer row value = er at hne HR2 ⊢
    have l0 := (blk_cell HZ6.out 0).trans rfl
    have l1 := (blk_cell HZ6.out 1).trans rfl
    have l2 := (blk_cell HZ6.out 2).trans rfl
    go_wp2_with (first | ((with_reducible refine gate_store (t := 48) (p := 10) rfl ?_); refine wpList_store_row rfl 48 (.tmp 10) (.tmp 28) rfl rfl w.heap.size rfl 48 #[.int .i64 0, .int .i64 0, .int .i64 0] #[.int .i64 0, .int .i64 0, .int .i64 0] rfl HZ6.out (by kernel_rfl) rfl (ints_one 0 0 0) ?_; rw [setRow_self _ _ _ _ _ HZ6.out]) | fail)
    refine bodyPost_ret (results_list (rs := [.cell 10 48, .tmp 11]) rfl (by simp) (.cell w.heap.size 48 #[.int .i64 0, .int .i64 0, .int .i64 0] (0, 0) _ rfl HZ6.out Tryd.underlying48 rfl (by kernel_rfl) (.tmp .nil))) rfl ?_
    exact ⟨by rw [HR2.out]; rfl, HB6.out⟩

theorem parcels_Seal.calls (a0 a1 a2 a3 a4 r1 r2 r3 r4 : Int) (w : World) (h : parcels_Seal.f a0 a1 a2 a3 a4 = some (r1, r2, r3, r4)) (hG : Glob w := by first | exact hG | exact Glob.below hG HB.out | exact Glob.below hG (by repeat (first | (with_reducible first | exact HB.out | apply below_alloc | apply pw_below_drewN | apply below_drew1 | refine below_set ?_ (Aside0.out (by assumption))) | exact HB.out))) :
    Calls Tryd.prog 27 #[.int .i64 a0, .int .i64 a1, .int .i64 a2, .int .i64 a3, .int .i64 a4] w fun e w' => e = .returned (.tuple #[.agg #[.int .i64 r1, .int .i64 r2, .int .i64 r3], .int .i64 r4]) ∧ Below w.heap.size w w' := by
  refine (Seal_makes a0 a1 a2 a3 a4 w hG).mono fun e w' hh => ⟨?_, hh.2⟩
  rw [hh.1]
  rw [seal_f] at h
  by_cases hz : sealE a0 a1 a2 a3 a4 = 0
  · rw [if_pos hz] at h ⊢
    simp only [Option.some.injEq, Prod.mk.injEq] at h
    obtain ⟨rfl, rfl, rfl, rfl⟩ := h
    rfl
  · rw [if_neg hz] at h ⊢
    simp only [Option.some.injEq, Prod.mk.injEq] at h
    obtain ⟨rfl, rfl, rfl, rfl⟩ := h
    rfl

end Go.Proofs.YthladfegmedpnaaDoor.P

namespace Go.Proofs.YthladfegmedpnaaDoor.P
open Go.RowKit Go.Proofs.YthladfegmedpnaaDoorW.PrintWords Go.Proofs.YthladfegmedpnaaDoorW.PrintLast Go.Proofs.YthladfegmedpnaaDoorW.PrintMore Go.Proofs.YthladfegmedpnaaDoor
set_option linter.unusedVariables false
set_option linter.unusedSimpArgs false

/-- what stands in the way. -/
def openE (a dealer row point cipher : Int) : Int := if isSecret a = false then 110 else if isPers dealer = false then 1 else if rightP row point cipher = false then 350 else 0
theorem errs_openE (F1 F2 F3 : Nat) (c1 c2 c3 : Array Value) (a dealer row point cipher : Int) : errs [(F1, c1, btw a 1 1073741788, 110), (F2, c2, btw dealer 0 63, 1), (F3, c3, rightP row point cipher, 350)] = openE a dealer row point cipher := by
  rw [secret_btw, pers_btw]
  unfold openE
  cases isSecret a <;> cases isPers dealer <;> cases rightP row point cipher <;> rfl
theorem openE_zero {a dealer row point cipher : Int} (h : openE a dealer row point cipher = 0) : isSecret a = true ∧ isPers dealer = true ∧ rightP row point cipher = true := by
  unfold openE at h
  cases h1 : isSecret a <;> cases h2 : isPers dealer <;> cases h3 : rightP row point cipher <;> simp_all
theorem openE_f (a dealer row point cipher : Int) : parcels_Open.f a dealer row point cipher = if openE a dealer row point cipher = 0 then some (opened (pwz point a) dealer row cipher, 0) else some (0, openE a dealer row point cipher) := by
  unfold parcels_Open.f openE
  cases isSecret a <;> cases isPers dealer <;> cases rightP row point cipher <;> simp

set_option maxHeartbeats 8000000 in
set_option maxRecDepth 100000 in
theorem Open_makes (a dealer row point cipher : Int) (w : World) (hG : Glob w) :
    Calls Tryd.prog 30 #[.int .i64 a, .int .i64 dealer, .agg #[.int .i64 row, .int .i64 point, .int .i64 cipher]] w fun e w' =>
      e = .returned (if openE a dealer row point cipher = 0 then .tuple #[.int .i64 (opened (pwz point a) dealer row cipher), .int .i64 0] else .tuple #[.int .i64 0, .int .i64 (openE a dealer row point cipher)]) ∧ Below w.heap.size w w' := by
  generalize hR : (if openE a dealer row point cipher = 0 then Value.tuple #[.int .i64 (opened (pwz point a) dealer row cipher), .int .i64 0] else .tuple #[.int .i64 0, .int .i64 (openE a dealer row point cipher)]) = R
  have HR := Aside0.mk hR
  have HG := Aside0.mk hG
  clear hR hG
  have hu := Tryd.underlying48
  go_enter Tryd.func30, Tryd.ntmps30
  go_upto_region 1 with (fail)
  have HZ : Aside0 ((w.alloc (.cells #[.int .i64 row, .int .i64 point, .int .i64 cipher] 48)).heap[w.heap.size]? = some (.cells #[.int .i64 row, .int .i64 point, .int .i64 cipher] 48 (0, 0))) := ⟨World.alloc_heap_new _ _⟩
  have HB0 := Aside0.mk (below_alloc (Below.refl w.heap.size w) (.cells #[.int .i64 row, .int .i64 point, .int .i64 cipher] 48))
  generalize w.alloc (.cells #[.int .i64 row, .int .i64 point, .int .i64 cipher] 48) = w0 at HZ HB0 ⊢
  have HGE := Aside0.mk (Nat.le_refl w.heap.size)
  generalize hg : w.heap.size = g at HZ ⊢
  have EG := Aside0.mk hg
  clear hg
  have HB := Below.refl w0.heap.size w0
  have q0 : w0.cell? ⟨g, 0, none⟩ = some (.int .i64 row) := (blk_cell HZ.out 0).trans rfl
  have q1 : w0.cell? ⟨g, 1, none⟩ = some (.int .i64 point) := (blk_cell HZ.out 1).trans rfl
  have q2 : w0.cell? ⟨g, 2, none⟩ = some (.int .i64 cipher) := (blk_cell HZ.out 2).trans rfl
  go_region_held3 (fun w' => w'.cell? ⟨g, 0, none⟩ = some (.int .i64 row) ∧ w'.cell? ⟨g, 1, none⟩ = some (.int .i64 point) ∧ w'.cell? ⟨g, 2, none⟩ = some (.int .i64 cipher)) (go_keep) (first | (go_at_call 58; refine (secret_makes a _).mono ?_; rintro e1 w1 ⟨F1, c1, rfl, hH1, hb1⟩; have k0 : w1.cell? ⟨g, 0, none⟩ = some (.int .i64 row) := (Below.cell hb1 (p := ⟨g, 0, none⟩) (lt_of_cell (by assumption))).trans (by assumption); have k1 : w1.cell? ⟨g, 1, none⟩ = some (.int .i64 point) := (Below.cell hb1 (p := ⟨g, 1, none⟩) (lt_of_cell (by assumption))).trans (by assumption); have k2 : w1.cell? ⟨g, 2, none⟩ = some (.int .i64 cipher) := (Below.cell hb1 (p := ⟨g, 2, none⟩) (lt_of_cell (by assumption))).trans (by assumption)) | (go_at_call 60; refine (person_makes dealer _).mono ?_; rintro e2 w2 ⟨F2, c2, rfl, hH2, hb2⟩; have k0 : w2.cell? ⟨g, 0, none⟩ = some (.int .i64 row) := (Below.cell hb2 (p := ⟨g, 0, none⟩) (lt_of_cell (by assumption))).trans (by assumption); have k1 : w2.cell? ⟨g, 1, none⟩ = some (.int .i64 point) := (Below.cell hb2 (p := ⟨g, 1, none⟩) (lt_of_cell (by assumption))).trans (by assumption); have k2 : w2.cell? ⟨g, 2, none⟩ = some (.int .i64 cipher) := (Below.cell hb2 (p := ⟨g, 2, none⟩) (lt_of_cell (by assumption))).trans (by assumption)) | (go_at_call 64; refine (right_makes row point cipher _).mono ?_; rintro e3 w3 ⟨F3, c3, rfl, hH3, hb3⟩; have k0 : w3.cell? ⟨g, 0, none⟩ = some (.int .i64 row) := (Below.cell hb3 (p := ⟨g, 0, none⟩) (lt_of_cell (by assumption))).trans (by assumption); have k1 : w3.cell? ⟨g, 1, none⟩ = some (.int .i64 point) := (Below.cell hb3 (p := ⟨g, 1, none⟩) (lt_of_cell (by assumption))).trans (by assumption); have k2 : w3.cell? ⟨g, 2, none⟩ = some (.int .i64 cipher) := (Below.cell hb3 (p := ⟨g, 2, none⟩) (lt_of_cell (by assumption))).trans (by assumption)) | (go_at_call 57; refine (check_makes w0.heap.size w3.heap.size [(F1, c1, btw a 1 1073741788, 110), (F2, c2, btw dealer 0 63, 1), (F3, c3, rightP row point cipher, 350)] _ (World.alloc_heap_new _ _) (three_holds ((((hH1.below hb2).below hb3).below (below_alloc (Below.refl _ _) _)).lower (Nat.le_refl _)) (((hH2.below hb3).below (below_alloc (Below.refl _ _) _)).lower (Nat.le_trans (Nat.le_refl _) hb1.size)) ((hH3.below (below_alloc (Below.refl _ _) _)).lower (Nat.le_trans hb1.size hb2.size))) (by simp)).mono ?_; rintro e4 w4 ⟨rfl, hb4⟩; have hb5 := below_step (below_alloc (Below.refl _ _) _) hb4; have k0 : w4.cell? ⟨g, 0, none⟩ = some (.int .i64 row) := (Below.cell hb5 (p := ⟨g, 0, none⟩) (lt_of_cell (by assumption))).trans (by assumption); have k1 : w4.cell? ⟨g, 1, none⟩ = some (.int .i64 point) := (Below.cell hb5 (p := ⟨g, 1, none⟩) (lt_of_cell (by assumption))).trans (by assumption); have k2 : w4.cell? ⟨g, 2, none⟩ = some (.int .i64 cipher) := (Below.cell hb5 (p := ⟨g, 2, none⟩) (lt_of_cell (by assumption))).trans (by assumption)))
  rw [errs_openE F1 F2 F3 c1 c2 c3 a dealer row point cipher]
  have h04 := below_step (below_step (below_step (below_step (below_drew1 HB) hb1) hb2) hb3) hb5
  have HB4 := Aside0.mk (below_step HB0.out h04)
  by_cases hz : openE a dealer row point cipher = 0
  · have HR2 : Aside0 (R = .tuple #[.int .i64 (opened (pwz point a) dealer row cipher), .int .i64 0]) := ⟨by rw [← HR.out, if_pos hz]⟩
    obtain ⟨z1, z2, z3⟩ := openE_zero hz
    rw [hz]
    have K1 := Aside0.mk z1
    have K2 := Aside0.mk (pers_lt z2)
    have K3 := Aside0.mk z3
    clear hz z1 z2 z3 HR hH1 hH2 hH3 hb1 hb2 hb3 hb4 hb5 h04
    go_wp2_with fail
    obtain ⟨y0, y1, y2⟩ : 0 ≤ row ∧ row < 64 ∧ (vld point = true ∧ inQ cipher = true) := by
      have := K3.out
      unfold rightP at this
      simp only [Bool.and_eq_true] at this
      have p := pers_lt this.1.1
      exact ⟨p.1, p.2, this.1.2, this.2⟩
    have Y0 : Aside0 (i64 row) := ⟨⟨by omega, by omega⟩⟩
    have Y2 := Aside0.mk y2
    clear y0 y1 y2
    have KS : Aside0 (i64 a) := ⟨by have := K1.out; unfold isSecret at this; simp only [Bool.and_eq_true, decide_eq_true_eq] at this; exact ⟨by omega, by omega⟩⟩
    refine (pow_calls point a Y2.out.1 KS.out w4).mono ?_
    rintro e w5 ⟨rfl, hb⟩
    have HB5 := Aside0.mk (below_step HB4.out hb)
    have k0 : w5.cell? ⟨g, 0, none⟩ = some (.int .i64 row) := (Below.cell hb (p := ⟨g, 0, none⟩) (lt_of_cell (by assumption))).trans (by assumption)
    have k1 : w5.cell? ⟨g, 1, none⟩ = some (.int .i64 point) := (Below.cell hb (p := ⟨g, 1, none⟩) (lt_of_cell (by assumption))).trans (by assumption)
    have k2 : w5.cell? ⟨g, 2, none⟩ = some (.int .i64 cipher) := (Below.cell hb (p := ⟨g, 2, none⟩) (lt_of_cell (by assumption))).trans (by assumption)
    clear hb
    go_wp2_with fail
    refine (parcels_opened.calls 10 (pwz point a) dealer row point cipher _ w5 (opened_f 10 (by omega) (pwz point a) dealer row point cipher (i64_vld (vld_pw Y2.out.1 a)) ⟨by have := K2.out; omega, by have := K2.out; omega⟩ Y0.out Y2.out.2) (HG.out.below HB5.out)).mono ?_
    rintro e w9 ⟨rfl, hb9⟩
    go_wp2_with fail
    go_ret2
    exact ⟨by rw [HR2.out]; rfl, below_step HB5.out hb9⟩
  · have HR2 : Aside0 (R = .tuple #[.int .i64 0, .int .i64 (openE a dealer row point cipher)]) := ⟨by rw [← HR.out, if_neg hz]⟩
    have hne : (openE a dealer row point cipher != 0) = true := bne_iff_ne.2 hz
    clear hz HR hH1 hH2 hH3 hb1 hb2 hb3 hb4 hb5 h04
    generalize openE a dealer row point cipher = er at hne HR2 ⊢
    go_wp2
    go_ret2
    exact ⟨by rw [HR2.out]; rfl, HB4.out⟩

theorem parcels_Open.calls (a0 a1 a2_0 a2_1 a2_2 r1 r2 : Int) (w : World) (h : parcels_Open.f a0 a1 a2_0 a2_1 a2_2 = some (r1, r2)) (hG : Glob w := by first | exact hG | exact Glob.below hG HB.out | exact Glob.below hG (by repeat (first | (with_reducible first | exact HB.out | apply below_alloc | apply pw_below_drewN | apply below_drew1 | refine below_set ?_ (Aside0.out (by assumption))) | exact HB.out))) :
    Calls Tryd.prog 30 #[.int .i64 a0, .int .i64 a1, .agg #[.int .i64 a2_0, .int .i64 a2_1, .int .i64 a2_2]] w fun e w' => e = .returned (.tuple #[.int .i64 r1, .int .i64 r2]) ∧ Below w.heap.size w w' := by
  refine (Open_makes a0 a1 a2_0 a2_1 a2_2 w hG).mono fun e w' hh => ⟨?_, hh.2⟩
  rw [hh.1]
  rw [openE_f] at h
  by_cases hz : openE a0 a1 a2_0 a2_1 a2_2 = 0
  · rw [if_pos hz] at h ⊢
    simp only [Option.some.injEq, Prod.mk.injEq] at h
    obtain ⟨rfl, rfl⟩ := h
    rfl
  · rw [if_neg hz] at h ⊢
    simp only [Option.some.injEq, Prod.mk.injEq] at h
    obtain ⟨rfl, rfl⟩ := h
    rfl

end Go.Proofs.YthladfegmedpnaaDoor.P

namespace Go.Proofs.YthladfegmedpnaaDoor.P
open Go.RowKit Go.Proofs.YthladfegmedpnaaDoorW.PrintWords Go.Proofs.YthladfegmedpnaaDoorW.PrintLast Go.Proofs.YthladfegmedpnaaDoorW.PrintMore Go.Proofs.YthladfegmedpnaaDoor
set_option linter.unusedVariables false
set_option linter.unusedSimpArgs false

/-- what stands in the way. -/
def withE (a dealer row point cipher : Int) : Int := if vld a = false then 100 else if isPers dealer = false then 1 else if rightP row point cipher = false then 350 else 0
theorem errs_withE (F1 F2 F3 : Nat) (c1 c2 c3 : Array Value) (a dealer row point cipher : Int) : errs [(F1, c1, vld a, 100), (F2, c2, btw dealer 0 63, 1), (F3, c3, rightP row point cipher, 350)] = withE a dealer row point cipher := by
  rw [pers_btw]
  unfold withE
  cases vld a <;> cases isPers dealer <;> cases rightP row point cipher <;> rfl
theorem withE_zero {a dealer row point cipher : Int} (h : withE a dealer row point cipher = 0) : vld a = true ∧ isPers dealer = true ∧ rightP row point cipher = true := by
  unfold withE at h
  cases h1 : vld a <;> cases h2 : isPers dealer <;> cases h3 : rightP row point cipher <;> simp_all
theorem withE_f (a dealer row point cipher : Int) : parcels_With.f a dealer row point cipher = if withE a dealer row point cipher = 0 then some (opened a dealer row cipher, 0) else some (0, withE a dealer row point cipher) := by
  unfold parcels_With.f withE
  cases vld a <;> cases isPers dealer <;> cases rightP row point cipher <;> simp

set_option maxHeartbeats 8000000 in
set_option maxRecDepth 100000 in
theorem With_makes (a dealer row point cipher : Int) (w : World) (hG : Glob w) :
    Calls Tryd.prog 37 #[.int .i64 a, .int .i64 dealer, .agg #[.int .i64 row, .int .i64 point, .int .i64 cipher]] w fun e w' =>
      e = .returned (if withE a dealer row point cipher = 0 then .tuple #[.int .i64 (opened a dealer row cipher), .int .i64 0] else .tuple #[.int .i64 0, .int .i64 (withE a dealer row point cipher)]) ∧ Below w.heap.size w w' := by
  generalize hR : (if withE a dealer row point cipher = 0 then Value.tuple #[.int .i64 (opened a dealer row cipher), .int .i64 0] else .tuple #[.int .i64 0, .int .i64 (withE a dealer row point cipher)]) = R
  have HR := Aside0.mk hR
  have HG := Aside0.mk hG
  clear hR hG
  have hu := Tryd.underlying48
  go_enter Tryd.func37, Tryd.ntmps37
  go_upto_region 1 with (fail)
  have HZ : Aside0 ((w.alloc (.cells #[.int .i64 row, .int .i64 point, .int .i64 cipher] 48)).heap[w.heap.size]? = some (.cells #[.int .i64 row, .int .i64 point, .int .i64 cipher] 48 (0, 0))) := ⟨World.alloc_heap_new _ _⟩
  have HB0 := Aside0.mk (below_alloc (Below.refl w.heap.size w) (.cells #[.int .i64 row, .int .i64 point, .int .i64 cipher] 48))
  generalize w.alloc (.cells #[.int .i64 row, .int .i64 point, .int .i64 cipher] 48) = w0 at HZ HB0 ⊢
  have HGE := Aside0.mk (Nat.le_refl w.heap.size)
  generalize hg : w.heap.size = g at HZ ⊢
  have EG := Aside0.mk hg
  clear hg
  have HB := Below.refl w0.heap.size w0
  have q0 : w0.cell? ⟨g, 0, none⟩ = some (.int .i64 row) := (blk_cell HZ.out 0).trans rfl
  have q1 : w0.cell? ⟨g, 1, none⟩ = some (.int .i64 point) := (blk_cell HZ.out 1).trans rfl
  have q2 : w0.cell? ⟨g, 2, none⟩ = some (.int .i64 cipher) := (blk_cell HZ.out 2).trans rfl
  go_region_held3 (fun w' => w'.cell? ⟨g, 0, none⟩ = some (.int .i64 row) ∧ w'.cell? ⟨g, 1, none⟩ = some (.int .i64 point) ∧ w'.cell? ⟨g, 2, none⟩ = some (.int .i64 cipher)) (go_keep) (first | (go_at_call 59; refine (element_makes a 100 _).mono ?_; rintro e1 w1 ⟨F1, c1, rfl, hH1, hb1⟩; have k0 : w1.cell? ⟨g, 0, none⟩ = some (.int .i64 row) := (Below.cell hb1 (p := ⟨g, 0, none⟩) (lt_of_cell (by assumption))).trans (by assumption); have k1 : w1.cell? ⟨g, 1, none⟩ = some (.int .i64 point) := (Below.cell hb1 (p := ⟨g, 1, none⟩) (lt_of_cell (by assumption))).trans (by assumption); have k2 : w1.cell? ⟨g, 2, none⟩ = some (.int .i64 cipher) := (Below.cell hb1 (p := ⟨g, 2, none⟩) (lt_of_cell (by assumption))).trans (by assumption)) | (go_at_call 60; refine (person_makes dealer _).mono ?_; rintro e2 w2 ⟨F2, c2, rfl, hH2, hb2⟩; have k0 : w2.cell? ⟨g, 0, none⟩ = some (.int .i64 row) := (Below.cell hb2 (p := ⟨g, 0, none⟩) (lt_of_cell (by assumption))).trans (by assumption); have k1 : w2.cell? ⟨g, 1, none⟩ = some (.int .i64 point) := (Below.cell hb2 (p := ⟨g, 1, none⟩) (lt_of_cell (by assumption))).trans (by assumption); have k2 : w2.cell? ⟨g, 2, none⟩ = some (.int .i64 cipher) := (Below.cell hb2 (p := ⟨g, 2, none⟩) (lt_of_cell (by assumption))).trans (by assumption)) | (go_at_call 64; refine (right_makes row point cipher _).mono ?_; rintro e3 w3 ⟨F3, c3, rfl, hH3, hb3⟩; have k0 : w3.cell? ⟨g, 0, none⟩ = some (.int .i64 row) := (Below.cell hb3 (p := ⟨g, 0, none⟩) (lt_of_cell (by assumption))).trans (by assumption); have k1 : w3.cell? ⟨g, 1, none⟩ = some (.int .i64 point) := (Below.cell hb3 (p := ⟨g, 1, none⟩) (lt_of_cell (by assumption))).trans (by assumption); have k2 : w3.cell? ⟨g, 2, none⟩ = some (.int .i64 cipher) := (Below.cell hb3 (p := ⟨g, 2, none⟩) (lt_of_cell (by assumption))).trans (by assumption)) | (go_at_call 57; refine (check_makes w0.heap.size w3.heap.size [(F1, c1, vld a, 100), (F2, c2, btw dealer 0 63, 1), (F3, c3, rightP row point cipher, 350)] _ (World.alloc_heap_new _ _) (three_holds ((((hH1.below hb2).below hb3).below (below_alloc (Below.refl _ _) _)).lower (Nat.le_refl _)) (((hH2.below hb3).below (below_alloc (Below.refl _ _) _)).lower (Nat.le_trans (Nat.le_refl _) hb1.size)) ((hH3.below (below_alloc (Below.refl _ _) _)).lower (Nat.le_trans hb1.size hb2.size))) (by simp)).mono ?_; rintro e4 w4 ⟨rfl, hb4⟩; have hb5 := below_step (below_alloc (Below.refl _ _) _) hb4; have k0 : w4.cell? ⟨g, 0, none⟩ = some (.int .i64 row) := (Below.cell hb5 (p := ⟨g, 0, none⟩) (lt_of_cell (by assumption))).trans (by assumption); have k1 : w4.cell? ⟨g, 1, none⟩ = some (.int .i64 point) := (Below.cell hb5 (p := ⟨g, 1, none⟩) (lt_of_cell (by assumption))).trans (by assumption); have k2 : w4.cell? ⟨g, 2, none⟩ = some (.int .i64 cipher) := (Below.cell hb5 (p := ⟨g, 2, none⟩) (lt_of_cell (by assumption))).trans (by assumption)))
  rw [errs_withE F1 F2 F3 c1 c2 c3 a dealer row point cipher]
  have h04 := below_step (below_step (below_step (below_step (below_drew1 HB) hb1) hb2) hb3) hb5
  have HB4 := Aside0.mk (below_step HB0.out h04)
  by_cases hz : withE a dealer row point cipher = 0
  · have HR2 : Aside0 (R = .tuple #[.int .i64 (opened a dealer row cipher), .int .i64 0]) := ⟨by rw [← HR.out, if_pos hz]⟩
    obtain ⟨z1, z2, z3⟩ := withE_zero hz
    rw [hz]
    have K1 := Aside0.mk z1
    have K2 := Aside0.mk (pers_lt z2)
    have K3 := Aside0.mk z3
    clear hz z1 z2 z3 HR hH1 hH2 hH3 hb1 hb2 hb3 hb4 hb5 h04
    go_wp2_with fail
    obtain ⟨y0, y1, y2⟩ : 0 ≤ row ∧ row < 64 ∧ (vld point = true ∧ inQ cipher = true) := by
      have := K3.out
      unfold rightP at this
      simp only [Bool.and_eq_true] at this
      have p := pers_lt this.1.1
      exact ⟨p.1, p.2, this.1.2, this.2⟩
    have Y0 : Aside0 (i64 row) := ⟨⟨by omega, by omega⟩⟩
    have Y2 := Aside0.mk y2
    clear y0 y1 y2
    refine (parcels_opened.calls 10 a dealer row point cipher _ w4 (opened_f 10 (by omega) a dealer row point cipher (i64_vld K1.out) ⟨by have := K2.out; omega, by have := K2.out; omega⟩ Y0.out Y2.out.2) (HG.out.below HB4.out)).mono ?_
    rintro e w9 ⟨rfl, hb9⟩
    go_wp2_with fail
    go_ret2
    exact ⟨by rw [HR2.out]; rfl, below_step HB4.out hb9⟩
  · have HR2 : Aside0 (R = .tuple #[.int .i64 0, .int .i64 (withE a dealer row point cipher)]) := ⟨by rw [← HR.out, if_neg hz]⟩
    have hne : (withE a dealer row point cipher != 0) = true := bne_iff_ne.2 hz
    clear hz HR hH1 hH2 hH3 hb1 hb2 hb3 hb4 hb5 h04
    generalize withE a dealer row point cipher = er at hne HR2 ⊢
    go_wp2
    go_ret2
    exact ⟨by rw [HR2.out]; rfl, HB4.out⟩

theorem parcels_With.calls (a0 a1 a2_0 a2_1 a2_2 r1 r2 : Int) (w : World) (h : parcels_With.f a0 a1 a2_0 a2_1 a2_2 = some (r1, r2)) (hG : Glob w := by first | exact hG | exact Glob.below hG HB.out | exact Glob.below hG (by repeat (first | (with_reducible first | exact HB.out | apply below_alloc | apply pw_below_drewN | apply below_drew1 | refine below_set ?_ (Aside0.out (by assumption))) | exact HB.out))) :
    Calls Tryd.prog 37 #[.int .i64 a0, .int .i64 a1, .agg #[.int .i64 a2_0, .int .i64 a2_1, .int .i64 a2_2]] w fun e w' => e = .returned (.tuple #[.int .i64 r1, .int .i64 r2]) ∧ Below w.heap.size w w' := by
  refine (With_makes a0 a1 a2_0 a2_1 a2_2 w hG).mono fun e w' hh => ⟨?_, hh.2⟩
  rw [hh.1]
  rw [withE_f] at h
  by_cases hz : withE a0 a1 a2_0 a2_1 a2_2 = 0
  · rw [if_pos hz] at h ⊢
    simp only [Option.some.injEq, Prod.mk.injEq] at h
    obtain ⟨rfl, rfl⟩ := h
    rfl
  · rw [if_neg hz] at h ⊢
    simp only [Option.some.injEq, Prod.mk.injEq] at h
    obtain ⟨rfl, rfl⟩ := h
    rfl

end Go.Proofs.YthladfegmedpnaaDoor.P
namespace Go.Proofs.YthladfegmedpnaaDoor.P
open Go.RowKit Go.Proofs.YthladfegmedpnaaDoorW.PrintWords Go.Proofs.YthladfegmedpnaaDoorW.PrintLast Go.Proofs.YthladfegmedpnaaDoorW.PrintMore
attribute [local go_sem] max2_int min2_int max_two min_two max_three min_three max_four min_four
set_option linter.unusedVariables false
set_option linter.unusedSimpArgs false

/-! ### signatorylaw35_sane: function 26 -/
def signatorylaw35_sane.f  : Option (Bool) := (group_Pow.f 4 77).bind fun bt326 => ((parcels_Seal.f 5 bt326.1 3 2 1000).bind fun bt328 => ((parcels_Seal.f 5 bt326.1 3 2 1001).bind fun bt333 => ((parcels_Open.f 77 3 bt328.1 bt328.2.1 bt328.2.2.1).bind fun bt338 => ((parcels_Open.f 77 3 bt333.1 bt333.2.1 bt333.2.2.1).bind fun bt340 => ((parcels_Seal.f 0 4 0 0 0).bind fun bt342 => ((parcels_Seal.f 1 2 0 0 0).bind fun bt347 => ((parcels_Seal.f 1 4 64 0 0).bind fun bt352 => ((parcels_Seal.f 1 4 0 0 1073741789).bind fun bt357 => ((parcels_Open.f 1 0 0 0 0).bind fun bt362 => (if bt326.2 = 0 then (if bt328.2.2.2 = 0 then (if bt333.2.2.2 = 0 then (if bt338.2 = 0 then (if bt340.2 = 0 then (if bt342.2.2.2 = 110 then (if bt347.2.2.2 = 100 then (if bt352.2.2.2 = 1 then (if bt357.2.2.2 = 350 then (if bt362.2 = 350 then (if bt328.1 = 2 then (if bt328.2.1 = 1024 then (if bt333.2.1 = 1024 then (if bt338.1 = 1000 then (if bt340.1 = 1001 then (some ((Int.tmod (wrap64 ((wrap64 (bt333.2.2.1 - bt328.2.2.1)) + 1073741789)) 1073741789) == 1)) else (some false)) else (some false)) else (some false)) else (some false)) else (some false)) else (some false)) else (some false)) else (some false)) else (some false)) else (some false)) else (some false)) else (some false)) else (some false)) else (some false)) else (some false)))))))))))
set_option maxHeartbeats 8000000 in
set_option maxRecDepth 100000 in
theorem signatorylaw35_sane.calls  (r : Bool) (w : World) (h : signatorylaw35_sane.f  = some r) (hT : r = true := by rfl) (hG : Glob w := by first | exact hG | exact Glob.below hG HB.out | exact Glob.below hG (by repeat (first | (with_reducible first | exact HB.out | apply below_alloc | apply pw_below_drewN | apply below_drew1 | refine below_set ?_ (Aside0.out (by assumption))) | exact HB.out))) :
    Calls Tryd.prog 26 #[] w fun e w' => e = .returned (.bool r) ∧ Below w.heap.size w w' := by
  have HT := Aside0.mk hT
  clear hT
  have hu48 := Tryd.underlying48
  have HB := Aside0.mk (Below.refl w.heap.size w)
  have H : ((group_Pow.f 4 77).bind fun bt326 => ((parcels_Seal.f 5 bt326.1 3 2 1000).bind fun bt328 => ((parcels_Seal.f 5 bt326.1 3 2 1001).bind fun bt333 => ((parcels_Open.f 77 3 bt328.1 bt328.2.1 bt328.2.2.1).bind fun bt338 => ((parcels_Open.f 77 3 bt333.1 bt333.2.1 bt333.2.2.1).bind fun bt340 => ((parcels_Seal.f 0 4 0 0 0).bind fun bt342 => ((parcels_Seal.f 1 2 0 0 0).bind fun bt347 => ((parcels_Seal.f 1 4 64 0 0).bind fun bt352 => ((parcels_Seal.f 1 4 0 0 1073741789).bind fun bt357 => ((parcels_Open.f 1 0 0 0 0).bind fun bt362 => (if bt326.2 = 0 then (if bt328.2.2.2 = 0 then (if bt333.2.2.2 = 0 then (if bt338.2 = 0 then (if bt340.2 = 0 then (if bt342.2.2.2 = 110 then (if bt347.2.2.2 = 100 then (if bt352.2.2.2 = 1 then (if bt357.2.2.2 = 350 then (if bt362.2 = 350 then (if bt328.1 = 2 then (if bt328.2.1 = 1024 then (if bt333.2.1 = 1024 then (if bt338.1 = 1000 then (if bt340.1 = 1001 then (some ((Int.tmod (wrap64 ((wrap64 (bt333.2.2.1 - bt328.2.2.1)) + 1073741789)) 1073741789) == 1)) else (some false)) else (some false)) else (some false)) else (some false)) else (some false)) else (some false)) else (some false)) else (some false)) else (some false)) else (some false)) else (some false)) else (some false)) else (some false)) else (some false)) else (some false)))))))))))) = some r := h
  clear h
  replace H := Option.bind_eq_some_iff.mp H
  obtain ⟨⟨t326, t327⟩, A10, H⟩ := H
  replace H : ((parcels_Seal.f 5 t326 3 2 1000).bind fun bt328 => ((parcels_Seal.f 5 t326 3 2 1001).bind fun bt333 => ((parcels_Open.f 77 3 bt328.1 bt328.2.1 bt328.2.2.1).bind fun bt338 => ((parcels_Open.f 77 3 bt333.1 bt333.2.1 bt333.2.2.1).bind fun bt340 => ((parcels_Seal.f 0 4 0 0 0).bind fun bt342 => ((parcels_Seal.f 1 2 0 0 0).bind fun bt347 => ((parcels_Seal.f 1 4 64 0 0).bind fun bt352 => ((parcels_Seal.f 1 4 0 0 1073741789).bind fun bt357 => ((parcels_Open.f 1 0 0 0 0).bind fun bt362 => (if t327 = 0 then (if bt328.2.2.2 = 0 then (if bt333.2.2.2 = 0 then (if bt338.2 = 0 then (if bt340.2 = 0 then (if bt342.2.2.2 = 110 then (if bt347.2.2.2 = 100 then (if bt352.2.2.2 = 1 then (if bt357.2.2.2 = 350 then (if bt362.2 = 350 then (if bt328.1 = 2 then (if bt328.2.1 = 1024 then (if bt333.2.1 = 1024 then (if bt338.1 = 1000 then (if bt340.1 = 1001 then (some ((Int.tmod (wrap64 ((wrap64 (bt333.2.2.1 - bt328.2.2.1)) + 1073741789)) 1073741789) == 1)) else (some false)) else (some false)) else (some false)) else (some false)) else (some false)) else (some false)) else (some false)) else (some false)) else (some false)) else (some false)) else (some false)) else (some false)) else (some false)) else (some false)) else (some false))))))))))) = some r := H
  have A1 := Aside0.mk A10
  clear A10
  replace H := Option.bind_eq_some_iff.mp H
  obtain ⟨⟨t328, t329, t330, t331⟩, A20, H⟩ := H
  replace H : ((parcels_Seal.f 5 t326 3 2 1001).bind fun bt333 => ((parcels_Open.f 77 3 t328 t329 t330).bind fun bt338 => ((parcels_Open.f 77 3 bt333.1 bt333.2.1 bt333.2.2.1).bind fun bt340 => ((parcels_Seal.f 0 4 0 0 0).bind fun bt342 => ((parcels_Seal.f 1 2 0 0 0).bind fun bt347 => ((parcels_Seal.f 1 4 64 0 0).bind fun bt352 => ((parcels_Seal.f 1 4 0 0 1073741789).bind fun bt357 => ((parcels_Open.f 1 0 0 0 0).bind fun bt362 => (if t327 = 0 then (if t331 = 0 then (if bt333.2.2.2 = 0 then (if bt338.2 = 0 then (if bt340.2 = 0 then (if bt342.2.2.2 = 110 then (if bt347.2.2.2 = 100 then (if bt352.2.2.2 = 1 then (if bt357.2.2.2 = 350 then (if bt362.2 = 350 then (if t328 = 2 then (if t329 = 1024 then (if bt333.2.1 = 1024 then (if bt338.1 = 1000 then (if bt340.1 = 1001 then (some ((Int.tmod (wrap64 ((wrap64 (bt333.2.2.1 - t330)) + 1073741789)) 1073741789) == 1)) else (some false)) else (some false)) else (some false)) else (some false)) else (some false)) else (some false)) else (some false)) else (some false)) else (some false)) else (some false)) else (some false)) else (some false)) else (some false)) else (some false)) else (some false)))))))))) = some r := H
  have A2 := Aside0.mk A20
  clear A20
  replace H := Option.bind_eq_some_iff.mp H
  obtain ⟨⟨t333, t334, t335, t336⟩, A30, H⟩ := H
  replace H : ((parcels_Open.f 77 3 t328 t329 t330).bind fun bt338 => ((parcels_Open.f 77 3 t333 t334 t335).bind fun bt340 => ((parcels_Seal.f 0 4 0 0 0).bind fun bt342 => ((parcels_Seal.f 1 2 0 0 0).bind fun bt347 => ((parcels_Seal.f 1 4 64 0 0).bind fun bt352 => ((parcels_Seal.f 1 4 0 0 1073741789).bind fun bt357 => ((parcels_Open.f 1 0 0 0 0).bind fun bt362 => (if t327 = 0 then (if t331 = 0 then (if t336 = 0 then (if bt338.2 = 0 then (if bt340.2 = 0 then (if bt342.2.2.2 = 110 then (if bt347.2.2.2 = 100 then (if bt352.2.2.2 = 1 then (if bt357.2.2.2 = 350 then (if bt362.2 = 350 then (if t328 = 2 then (if t329 = 1024 then (if t334 = 1024 then (if bt338.1 = 1000 then (if bt340.1 = 1001 then (some ((Int.tmod (wrap64 ((wrap64 (t335 - t330)) + 1073741789)) 1073741789) == 1)) else (some false)) else (some false)) else (some false)) else (some false)) else (some false)) else (some false)) else (some false)) else (some false)) else (some false)) else (some false)) else (some false)) else (some false)) else (some false)) else (some false)) else (some false))))))))) = some r := H
  have A3 := Aside0.mk A30
  clear A30
  replace H := Option.bind_eq_some_iff.mp H
  obtain ⟨⟨t338, t339⟩, A40, H⟩ := H
  replace H : ((parcels_Open.f 77 3 t333 t334 t335).bind fun bt340 => ((parcels_Seal.f 0 4 0 0 0).bind fun bt342 => ((parcels_Seal.f 1 2 0 0 0).bind fun bt347 => ((parcels_Seal.f 1 4 64 0 0).bind fun bt352 => ((parcels_Seal.f 1 4 0 0 1073741789).bind fun bt357 => ((parcels_Open.f 1 0 0 0 0).bind fun bt362 => (if t327 = 0 then (if t331 = 0 then (if t336 = 0 then (if t339 = 0 then (if bt340.2 = 0 then (if bt342.2.2.2 = 110 then (if bt347.2.2.2 = 100 then (if bt352.2.2.2 = 1 then (if bt357.2.2.2 = 350 then (if bt362.2 = 350 then (if t328 = 2 then (if t329 = 1024 then (if t334 = 1024 then (if t338 = 1000 then (if bt340.1 = 1001 then (some ((Int.tmod (wrap64 ((wrap64 (t335 - t330)) + 1073741789)) 1073741789) == 1)) else (some false)) else (some false)) else (some false)) else (some false)) else (some false)) else (some false)) else (some false)) else (some false)) else (some false)) else (some false)) else (some false)) else (some false)) else (some false)) else (some false)) else (some false)))))))) = some r := H
  have A4 := Aside0.mk A40
  clear A40
  replace H := Option.bind_eq_some_iff.mp H
  obtain ⟨⟨t340, t341⟩, A50, H⟩ := H
  replace H : ((parcels_Seal.f 0 4 0 0 0).bind fun bt342 => ((parcels_Seal.f 1 2 0 0 0).bind fun bt347 => ((parcels_Seal.f 1 4 64 0 0).bind fun bt352 => ((parcels_Seal.f 1 4 0 0 1073741789).bind fun bt357 => ((parcels_Open.f 1 0 0 0 0).bind fun bt362 => (if t327 = 0 then (if t331 = 0 then (if t336 = 0 then (if t339 = 0 then (if t341 = 0 then (if bt342.2.2.2 = 110 then (if bt347.2.2.2 = 100 then (if bt352.2.2.2 = 1 then (if bt357.2.2.2 = 350 then (if bt362.2 = 350 then (if t328 = 2 then (if t329 = 1024 then (if t334 = 1024 then (if t338 = 1000 then (if t340 = 1001 then (some ((Int.tmod (wrap64 ((wrap64 (t335 - t330)) + 1073741789)) 1073741789) == 1)) else (some false)) else (some false)) else (some false)) else (some false)) else (some false)) else (some false)) else (some false)) else (some false)) else (some false)) else (some false)) else (some false)) else (some false)) else (some false)) else (some false)) else (some false))))))) = some r := H
  have A5 := Aside0.mk A50
  clear A50
  replace H := Option.bind_eq_some_iff.mp H
  obtain ⟨⟨t342, t343, t344, t345⟩, A60, H⟩ := H
  replace H : ((parcels_Seal.f 1 2 0 0 0).bind fun bt347 => ((parcels_Seal.f 1 4 64 0 0).bind fun bt352 => ((parcels_Seal.f 1 4 0 0 1073741789).bind fun bt357 => ((parcels_Open.f 1 0 0 0 0).bind fun bt362 => (if t327 = 0 then (if t331 = 0 then (if t336 = 0 then (if t339 = 0 then (if t341 = 0 then (if t345 = 110 then (if bt347.2.2.2 = 100 then (if bt352.2.2.2 = 1 then (if bt357.2.2.2 = 350 then (if bt362.2 = 350 then (if t328 = 2 then (if t329 = 1024 then (if t334 = 1024 then (if t338 = 1000 then (if t340 = 1001 then (some ((Int.tmod (wrap64 ((wrap64 (t335 - t330)) + 1073741789)) 1073741789) == 1)) else (some false)) else (some false)) else (some false)) else (some false)) else (some false)) else (some false)) else (some false)) else (some false)) else (some false)) else (some false)) else (some false)) else (some false)) else (some false)) else (some false)) else (some false)))))) = some r := H
  have A6 := Aside0.mk A60
  clear A60
  replace H := Option.bind_eq_some_iff.mp H
  obtain ⟨⟨t347, t348, t349, t350⟩, A70, H⟩ := H
  replace H : ((parcels_Seal.f 1 4 64 0 0).bind fun bt352 => ((parcels_Seal.f 1 4 0 0 1073741789).bind fun bt357 => ((parcels_Open.f 1 0 0 0 0).bind fun bt362 => (if t327 = 0 then (if t331 = 0 then (if t336 = 0 then (if t339 = 0 then (if t341 = 0 then (if t345 = 110 then (if t350 = 100 then (if bt352.2.2.2 = 1 then (if bt357.2.2.2 = 350 then (if bt362.2 = 350 then (if t328 = 2 then (if t329 = 1024 then (if t334 = 1024 then (if t338 = 1000 then (if t340 = 1001 then (some ((Int.tmod (wrap64 ((wrap64 (t335 - t330)) + 1073741789)) 1073741789) == 1)) else (some false)) else (some false)) else (some false)) else (some false)) else (some false)) else (some false)) else (some false)) else (some false)) else (some false)) else (some false)) else (some false)) else (some false)) else (some false)) else (some false)) else (some false))))) = some r := H
  have A7 := Aside0.mk A70
  clear A70
  replace H := Option.bind_eq_some_iff.mp H
  obtain ⟨⟨t352, t353, t354, t355⟩, A80, H⟩ := H
  replace H : ((parcels_Seal.f 1 4 0 0 1073741789).bind fun bt357 => ((parcels_Open.f 1 0 0 0 0).bind fun bt362 => (if t327 = 0 then (if t331 = 0 then (if t336 = 0 then (if t339 = 0 then (if t341 = 0 then (if t345 = 110 then (if t350 = 100 then (if t355 = 1 then (if bt357.2.2.2 = 350 then (if bt362.2 = 350 then (if t328 = 2 then (if t329 = 1024 then (if t334 = 1024 then (if t338 = 1000 then (if t340 = 1001 then (some ((Int.tmod (wrap64 ((wrap64 (t335 - t330)) + 1073741789)) 1073741789) == 1)) else (some false)) else (some false)) else (some false)) else (some false)) else (some false)) else (some false)) else (some false)) else (some false)) else (some false)) else (some false)) else (some false)) else (some false)) else (some false)) else (some false)) else (some false)))) = some r := H
  have A8 := Aside0.mk A80
  clear A80
  replace H := Option.bind_eq_some_iff.mp H
  obtain ⟨⟨t357, t358, t359, t360⟩, A90, H⟩ := H
  replace H : ((parcels_Open.f 1 0 0 0 0).bind fun bt362 => (if t327 = 0 then (if t331 = 0 then (if t336 = 0 then (if t339 = 0 then (if t341 = 0 then (if t345 = 110 then (if t350 = 100 then (if t355 = 1 then (if t360 = 350 then (if bt362.2 = 350 then (if t328 = 2 then (if t329 = 1024 then (if t334 = 1024 then (if t338 = 1000 then (if t340 = 1001 then (some ((Int.tmod (wrap64 ((wrap64 (t335 - t330)) + 1073741789)) 1073741789) == 1)) else (some false)) else (some false)) else (some false)) else (some false)) else (some false)) else (some false)) else (some false)) else (some false)) else (some false)) else (some false)) else (some false)) else (some false)) else (some false)) else (some false)) else (some false))) = some r := H
  have A9 := Aside0.mk A90
  clear A90
  replace H := Option.bind_eq_some_iff.mp H
  obtain ⟨⟨t362, t363⟩, A100, H⟩ := H
  replace H : (if t327 = 0 then (if t331 = 0 then (if t336 = 0 then (if t339 = 0 then (if t341 = 0 then (if t345 = 110 then (if t350 = 100 then (if t355 = 1 then (if t360 = 350 then (if t363 = 350 then (if t328 = 2 then (if t329 = 1024 then (if t334 = 1024 then (if t338 = 1000 then (if t340 = 1001 then (some ((Int.tmod (wrap64 ((wrap64 (t335 - t330)) + 1073741789)) 1073741789) == 1)) else (some false)) else (some false)) else (some false)) else (some false)) else (some false)) else (some false)) else (some false)) else (some false)) else (some false)) else (some false)) else (some false)) else (some false)) else (some false)) else (some false)) else (some false)) = some r := H
  have A10 := Aside0.mk A100
  clear A100
  by_cases c11 : t327 = 0
  · rw [if_pos c11] at H
    have c11b0 : (t327 == 0) = true := beq_iff_eq.mpr c11
    have c11b1 : (t327 != 0) = false := bne_eq_false_iff_eq.mpr c11
    clear c11
    by_cases c12 : t331 = 0
    · rw [if_pos c12] at H
      have c12b0 : (t331 == 0) = true := beq_iff_eq.mpr c12
      have c12b1 : (t331 != 0) = false := bne_eq_false_iff_eq.mpr c12
      clear c12
      by_cases c13 : t336 = 0
      · rw [if_pos c13] at H
        have c13b0 : (t336 == 0) = true := beq_iff_eq.mpr c13
        have c13b1 : (t336 != 0) = false := bne_eq_false_iff_eq.mpr c13
        clear c13
        by_cases c14 : t339 = 0
        · rw [if_pos c14] at H
          have c14b0 : (t339 == 0) = true := beq_iff_eq.mpr c14
          have c14b1 : (t339 != 0) = false := bne_eq_false_iff_eq.mpr c14
          clear c14
          by_cases c15 : t341 = 0
          · rw [if_pos c15] at H
            have c15b0 : (t341 == 0) = true := beq_iff_eq.mpr c15
            have c15b1 : (t341 != 0) = false := bne_eq_false_iff_eq.mpr c15
            clear c15
            by_cases c16 : t345 = 110
            · rw [if_pos c16] at H
              have c16b0 : (t345 == 110) = true := beq_iff_eq.mpr c16
              have c16b1 : (t345 != 110) = false := bne_eq_false_iff_eq.mpr c16
              clear c16
              by_cases c17 : t350 = 100
              · rw [if_pos c17] at H
                have c17b0 : (t350 == 100) = true := beq_iff_eq.mpr c17
                have c17b1 : (t350 != 100) = false := bne_eq_false_iff_eq.mpr c17
                clear c17
                by_cases c18 : t355 = 1
                · rw [if_pos c18] at H
                  have c18b0 : (t355 == 1) = true := beq_iff_eq.mpr c18
                  have c18b1 : (t355 != 1) = false := bne_eq_false_iff_eq.mpr c18
                  clear c18
                  by_cases c19 : t360 = 350
                  · rw [if_pos c19] at H
                    have c19b0 : (t360 == 350) = true := beq_iff_eq.mpr c19
                    have c19b1 : (t360 != 350) = false := bne_eq_false_iff_eq.mpr c19
                    clear c19
                    by_cases c20 : t363 = 350
                    · rw [if_pos c20] at H
                      have c20b0 : (t363 == 350) = true := beq_iff_eq.mpr c20
                      have c20b1 : (t363 != 350) = false := bne_eq_false_iff_eq.mpr c20
                      clear c20
                      by_cases c21 : t328 = 2
                      · rw [if_pos c21] at H
                        have c21b0 : (t328 == 2) = true := beq_iff_eq.mpr c21
                        have c21b1 : (t328 != 2) = false := bne_eq_false_iff_eq.mpr c21
                        clear c21
                        by_cases c22 : t329 = 1024
                        · rw [if_pos c22] at H
                          have c22b0 : (t329 == 1024) = true := beq_iff_eq.mpr c22
                          have c22b1 : (t329 != 1024) = false := bne_eq_false_iff_eq.mpr c22
                          clear c22
                          by_cases c23 : t334 = 1024
                          · rw [if_pos c23] at H
                            have c23b0 : (t334 == 1024) = true := beq_iff_eq.mpr c23
                            have c23b1 : (t334 != 1024) = false := bne_eq_false_iff_eq.mpr c23
                            clear c23
                            by_cases c24 : t338 = 1000
                            · rw [if_pos c24] at H
                              have c24b0 : (t338 == 1000) = true := beq_iff_eq.mpr c24
                              have c24b1 : (t338 != 1000) = false := bne_eq_false_iff_eq.mpr c24
                              clear c24
                              by_cases c25 : t340 = 1001
                              · rw [if_pos c25] at H
                                have c25b0 : (t340 == 1001) = true := beq_iff_eq.mpr c25
                                have c25b1 : (t340 != 1001) = false := bne_eq_false_iff_eq.mpr c25
                                clear c25
                                obtain rfl := Option.some.inj H
                                go_enter Tryd.func26, Tryd.ntmps26
                                go_wp2_with (first | ((with_reducible refine gate_callee (f := 31) rfl ?_); refine goesL_ (some 22) rfl rfl Tryd.func31 (by kernel_rfl) rfl #[.int .i64 4, .int .i64 77] rfl (by (try simp only [List.map_toArray, List.map_cons, List.map_nil]); first | done | rfl | (simp only [List.length_drop, List.length_take]; rfl)) ?_; (with_reducible refine (group_Pow.calls 4 77 t326 t327 _ A1.out).mono ?_); rintro e w26 ⟨rfl, hb⟩; refine ⟨_, rfl, ?_⟩; have n0_ := Aside0.mk (below_step (by repeat (first | (with_reducible first | exact HB.out | apply below_alloc | apply pw_below_drewN | apply below_drew1) | exact HB.out)) hb); clear HB; have HB := n0_; clear n0_; (try clear hb); (try clear hb2); (try clear hk); (try clear hi)) | ((with_reducible refine gate_callee (f := 27) rfl ?_); refine goesL_ (some 27) rfl rfl Tryd.func27 (by kernel_rfl) rfl #[.int .i64 5, .int .i64 t326, .int .i64 3, .int .i64 2, .int .i64 1000] rfl (by (try simp only [List.map_toArray, List.map_cons, List.map_nil]); first | done | rfl | (simp only [List.length_drop, List.length_take]; rfl)) ?_; (with_reducible refine (parcels_Seal.calls 5 t326 3 2 1000 t328 t329 t330 t331 _ A2.out).mono ?_); rintro e w27 ⟨rfl, hb⟩; refine ⟨_, rfl, ?_⟩; have n0_ := Aside0.mk (below_step (by repeat (first | (with_reducible first | exact HB.out | apply below_alloc | apply pw_below_drewN | apply below_drew1) | exact HB.out)) hb); clear HB; have HB := n0_; clear n0_; (try clear hb); (try clear hb2); (try clear hk); (try clear hi)) | ((with_reducible refine gate_dst (N := 3) rfl ?_); refine box_event ?hg (N := 3) ?hd (cs := #[.int .i64 0, .int .i64 0, .int .i64 0]) (t := 48) ?hr ?_; (case hd => rfl); (case hg => rfl); (case hr => first | (go_simp; done) | (go_simp; rfl)); intro gb332 hg w28 hbox hb; have n0_ := Aside0.mk (below_step (by repeat (first | (with_reducible first | exact HB.out | apply below_alloc | apply pw_below_drewN | apply below_drew1) | exact HB.out)) hb); have n1_ := Aside0.mk (hbox); have n2_ := Aside0.mk ((by rw [hg]; exact (below_size (by repeat (first | (with_reducible first | exact HB.out | apply below_alloc | apply pw_below_drewN | apply below_drew1) | exact HB.out))) : w.heap.size ≤ gb332)); have n3_ := Aside0.mk ((by rw [hg]; exact (below_size (by repeat (first | (with_reducible first | exact HB.out | apply below_alloc | apply pw_below_drewN | apply below_drew1) | exact HB.out))) : w.heap.size ≤ gb332)); clear HB; have HB := n0_; have BK332 := n1_; have GW332 := n2_; have GE332 := n3_; clear n0_ n1_ n2_ n3_; clear hb hbox hg; have hcz29_0 : w28.cell? ⟨gb332, 0, none⟩ = some (.int .i64 0) := (blk_cell BK332.out 0).trans rfl; have hcz29_1 : w28.cell? ⟨gb332, 1, none⟩ = some (.int .i64 0) := (blk_cell BK332.out 1).trans rfl; have hcz29_2 : w28.cell? ⟨gb332, 2, none⟩ = some (.int .i64 0) := (blk_cell BK332.out 2).trans rfl; have hfz29_0 := blk_frozen BK332.out 0; have hfz29_1 := blk_frozen BK332.out 1; have hfz29_2 := blk_frozen BK332.out 2) | ((with_reducible refine gate_callee (f := 27) rfl ?_); refine goesL_ (some 32) rfl rfl Tryd.func27 (by kernel_rfl) rfl #[.int .i64 5, .int .i64 t326, .int .i64 3, .int .i64 2, .int .i64 1001] rfl (by (try simp only [List.map_toArray, List.map_cons, List.map_nil]); first | done | rfl | (simp only [List.length_drop, List.length_take]; rfl)) ?_; (with_reducible refine (parcels_Seal.calls 5 t326 3 2 1001 t333 t334 t335 t336 _ A3.out).mono ?_); rintro e w30 ⟨rfl, hb⟩; refine ⟨_, rfl, ?_⟩; have n0_ := Aside0.mk (blk_below (g := gb332) (o := .cells #[.int .i64 t328, .int .i64 t329, .int .i64 t330] 48 (0, 0)) (by (with_reducible repeat (first | refine blk_drewN ?_ _ | refine blk_drew ?_ | refine blk_alloc ?_ _)); refine blk_put (cs := #[.int .i64 t328, .int .i64 t329, .int .i64 0]) ?_ 2 _ rfl; (with_reducible repeat (first | refine blk_drewN ?_ _ | refine blk_drew ?_ | refine blk_alloc ?_ _)); refine blk_put (cs := #[.int .i64 t328, .int .i64 0, .int .i64 0]) ?_ 1 _ rfl; (with_reducible repeat (first | refine blk_drewN ?_ _ | refine blk_drew ?_ | refine blk_alloc ?_ _)); refine blk_put (cs := #[.int .i64 0, .int .i64 0, .int .i64 0]) ?_ 0 _ rfl; (with_reducible repeat (first | refine blk_drewN ?_ _ | refine blk_drew ?_ | refine blk_alloc ?_ _)); exact BK332.out) hb); have n1_ := Aside0.mk (below_step (by repeat (first | (with_reducible first | exact HB.out | apply below_alloc | apply pw_below_drewN | apply below_drew1 | refine below_set ?_ GE332.out) | exact HB.out)) hb); clear BK332; clear HB; have BK332 := n0_; have HB := n1_; clear n0_ n1_; (try clear hb); (try clear hb2); (try clear hk); (try clear hi)) | ((with_reducible refine gate_dst (N := 5) rfl ?_); refine box_event ?hg (N := 5) ?hd (cs := #[.int .i64 0, .int .i64 0, .int .i64 0]) (t := 48) ?hr ?_; (case hd => rfl); (case hg => rfl); (case hr => first | (go_simp; done) | (go_simp; rfl)); intro gb337 hg w31 hbox hb; have n0_ := Aside0.mk (blk_below (g := gb332) (o := .cells #[.int .i64 t328, .int .i64 t329, .int .i64 t330] 48 (0, 0)) (by (with_reducible repeat (first | refine blk_drewN ?_ _ | refine blk_drew ?_ | refine blk_alloc ?_ _)); exact BK332.out) hb); have n1_ := Aside0.mk (below_step (by repeat (first | (with_reducible first | exact HB.out | apply below_alloc | apply pw_below_drewN | apply below_drew1 | refine below_set ?_ GE332.out) | exact HB.out)) hb); have n2_ := Aside0.mk (hbox); have n3_ := Aside0.mk ((by rw [hg]; exact (below_size (by repeat (first | (with_reducible first | exact HB.out | apply below_alloc | apply pw_below_drewN | apply below_drew1 | refine below_set ?_ GE332.out) | exact HB.out))) : w.heap.size ≤ gb337)); have n4_ := Aside0.mk ((by rw [hg]; exact (below_size (by repeat (first | (with_reducible first | exact HB.out | apply below_alloc | apply pw_below_drewN | apply below_drew1 | refine below_set ?_ GE332.out) | exact HB.out))) : w.heap.size ≤ gb337)); have n5_ := Aside0.mk ((by rw [hg]; exact Nat.ne_of_lt (blk_lt (g := gb332) (o := .cells #[.int .i64 t328, .int .i64 t329, .int .i64 t330] 48 (0, 0)) (by (with_reducible repeat (first | refine blk_drewN ?_ _ | refine blk_drew ?_ | refine blk_alloc ?_ _)); exact BK332.out)) : gb332 ≠ gb337)); have n6_ := Aside0.mk ((by rw [hg]; exact Nat.ne_of_gt (blk_lt (g := gb332) (o := .cells #[.int .i64 t328, .int .i64 t329, .int .i64 t330] 48 (0, 0)) (by (with_reducible repeat (first | refine blk_drewN ?_ _ | refine blk_drew ?_ | refine blk_alloc ?_ _)); exact BK332.out)) : gb337 ≠ gb332)); clear BK332; clear HB; have BK332 := n0_; have HB := n1_; have BK337 := n2_; have GW337 := n3_; have GE337 := n4_; have NB332_337 := n5_; have NB337_332 := n6_; clear n0_ n1_ n2_ n3_ n4_ n5_ n6_; clear hb hbox hg; have hnb32 := NB337_332.out; have hnc32 := NB332_337.out; have hcz33_0 : w31.cell? ⟨gb337, 0, none⟩ = some (.int .i64 0) := (blk_cell BK337.out 0).trans rfl; have hcz33_1 : w31.cell? ⟨gb337, 1, none⟩ = some (.int .i64 0) := (blk_cell BK337.out 1).trans rfl; have hcz33_2 : w31.cell? ⟨gb337, 2, none⟩ = some (.int .i64 0) := (blk_cell BK337.out 2).trans rfl; have hfz33_0 := blk_frozen BK337.out 0; have hfz33_1 := blk_frozen BK337.out 1; have hfz33_2 := blk_frozen BK337.out 2; have hcz34_0 : w31.cell? ⟨gb332, 0, none⟩ = some (.int .i64 t328) := (blk_cell BK332.out 0).trans rfl; have hcz34_1 : w31.cell? ⟨gb332, 1, none⟩ = some (.int .i64 t329) := (blk_cell BK332.out 1).trans rfl; have hcz34_2 : w31.cell? ⟨gb332, 2, none⟩ = some (.int .i64 t330) := (blk_cell BK332.out 2).trans rfl; have hfz34_0 := blk_frozen BK332.out 0; have hfz34_1 := blk_frozen BK332.out 1; have hfz34_2 := blk_frozen BK332.out 2) | ((with_reducible refine gate_callee (f := 30) rfl ?_); refine goesL_ (some 37) rfl rfl Tryd.func30 (by kernel_rfl) rfl #[.int .i64 77, .int .i64 3, .agg #[.int .i64 t328, .int .i64 t329, .int .i64 t330]] rfl (by (try simp only [List.map_toArray, List.map_cons, List.map_nil]); first | done | rfl | (simp only [List.length_drop, List.length_take]; rfl)) ?_; (with_reducible refine (parcels_Open.calls 77 3 t328 t329 t330 t338 t339 _ A4.out).mono ?_); rintro e w35 ⟨rfl, hb⟩; refine ⟨_, rfl, ?_⟩; have n0_ := Aside0.mk (blk_below (g := gb332) (o := .cells #[.int .i64 t328, .int .i64 t329, .int .i64 t330] 48 (0, 0)) (by (with_reducible repeat (first | refine blk_drewN ?_ _ | refine blk_drew ?_ | refine blk_alloc ?_ _)); refine blk_far ?_ NB332_337.out _; (with_reducible repeat (first | refine blk_drewN ?_ _ | refine blk_drew ?_ | refine blk_alloc ?_ _)); refine blk_far ?_ NB332_337.out _; (with_reducible repeat (first | refine blk_drewN ?_ _ | refine blk_drew ?_ | refine blk_alloc ?_ _)); refine blk_far ?_ NB332_337.out _; (with_reducible repeat (first | refine blk_drewN ?_ _ | refine blk_drew ?_ | refine blk_alloc ?_ _)); exact BK332.out) hb); have n1_ := Aside0.mk (blk_below (g := gb337) (o := .cells #[.int .i64 t333, .int .i64 t334, .int .i64 t335] 48 (0, 0)) (by (with_reducible repeat (first | refine blk_drewN ?_ _ | refine blk_drew ?_ | refine blk_alloc ?_ _)); refine blk_put (cs := #[.int .i64 t333, .int .i64 t334, .int .i64 0]) ?_ 2 _ rfl; (with_reducible repeat (first | refine blk_drewN ?_ _ | refine blk_drew ?_ | refine blk_alloc ?_ _)); refine blk_put (cs := #[.int .i64 t333, .int .i64 0, .int .i64 0]) ?_ 1 _ rfl; (with_reducible repeat (first | refine blk_drewN ?_ _ | refine blk_drew ?_ | refine blk_alloc ?_ _)); refine blk_put (cs := #[.int .i64 0, .int .i64 0, .int .i64 0]) ?_ 0 _ rfl; (with_reducible repeat (first | refine blk_drewN ?_ _ | refine blk_drew ?_ | refine blk_alloc ?_ _)); exact BK337.out) hb); have n2_ := Aside0.mk (below_step (by repeat (first | (with_reducible first | exact HB.out | apply below_alloc | apply pw_below_drewN | apply below_drew1 | refine below_set ?_ GE332.out | refine below_set ?_ GE337.out) | exact HB.out)) hb); clear BK332; clear BK337; clear HB; have BK332 := n0_; have BK337 := n1_; have HB := n2_; clear n0_ n1_ n2_; (try clear hb); (try clear hb2); (try clear hk); (try clear hi); have hcz36_0 : w35.cell? ⟨gb337, 0, none⟩ = some (.int .i64 t333) := (blk_cell BK337.out 0).trans rfl; have hcz36_1 : w35.cell? ⟨gb337, 1, none⟩ = some (.int .i64 t334) := (blk_cell BK337.out 1).trans rfl; have hcz36_2 : w35.cell? ⟨gb337, 2, none⟩ = some (.int .i64 t335) := (blk_cell BK337.out 2).trans rfl; have hfz36_0 := blk_frozen BK337.out 0; have hfz36_1 := blk_frozen BK337.out 1; have hfz36_2 := blk_frozen BK337.out 2) | ((with_reducible refine gate_callee (f := 30) rfl ?_); refine goesL_ (some 42) rfl rfl Tryd.func30 (by kernel_rfl) rfl #[.int .i64 77, .int .i64 3, .agg #[.int .i64 t333, .int .i64 t334, .int .i64 t335]] rfl (by (try simp only [List.map_toArray, List.map_cons, List.map_nil]); first | done | rfl | (simp only [List.length_drop, List.length_take]; rfl)) ?_; (with_reducible refine (parcels_Open.calls 77 3 t333 t334 t335 t340 t341 _ A5.out).mono ?_); rintro e w37 ⟨rfl, hb⟩; refine ⟨_, rfl, ?_⟩; have n0_ := Aside0.mk (blk_below (g := gb332) (o := .cells #[.int .i64 t328, .int .i64 t329, .int .i64 t330] 48 (0, 0)) (by (with_reducible repeat (first | refine blk_drewN ?_ _ | refine blk_drew ?_ | refine blk_alloc ?_ _)); exact BK332.out) hb); have n1_ := Aside0.mk (blk_below (g := gb337) (o := .cells #[.int .i64 t333, .int .i64 t334, .int .i64 t335] 48 (0, 0)) (by (with_reducible repeat (first | refine blk_drewN ?_ _ | refine blk_drew ?_ | refine blk_alloc ?_ _)); exact BK337.out) hb); have n2_ := Aside0.mk (below_step (by repeat (first | (with_reducible first | exact HB.out | apply below_alloc | apply pw_below_drewN | apply below_drew1 | refine below_set ?_ GE332.out | refine below_set ?_ GE337.out) | exact HB.out)) hb); clear BK332; clear BK337; clear HB; have BK332 := n0_; have BK337 := n1_; have HB := n2_; clear n0_ n1_ n2_; (try clear hb); (try clear hb2); (try clear hk); (try clear hi)) | ((with_reducible refine gate_callee (f := 27) rfl ?_); refine goesL_ (some 46) rfl rfl Tryd.func27 (by kernel_rfl) rfl #[.int .i64 0, .int .i64 4, .int .i64 0, .int .i64 0, .int .i64 0] rfl (by (try simp only [List.map_toArray, List.map_cons, List.map_nil]); first | done | rfl | (simp only [List.length_drop, List.length_take]; rfl)) ?_; (with_reducible refine (parcels_Seal.calls 0 4 0 0 0 t342 t343 t344 t345 _ A6.out).mono ?_); rintro e w38 ⟨rfl, hb⟩; refine ⟨_, rfl, ?_⟩; have n0_ := Aside0.mk (blk_below (g := gb332) (o := .cells #[.int .i64 t328, .int .i64 t329, .int .i64 t330] 48 (0, 0)) (by (with_reducible repeat (first | refine blk_drewN ?_ _ | refine blk_drew ?_ | refine blk_alloc ?_ _)); exact BK332.out) hb); have n1_ := Aside0.mk (blk_below (g := gb337) (o := .cells #[.int .i64 t333, .int .i64 t334, .int .i64 t335] 48 (0, 0)) (by (with_reducible repeat (first | refine blk_drewN ?_ _ | refine blk_drew ?_ | refine blk_alloc ?_ _)); exact BK337.out) hb); have n2_ := Aside0.mk (below_step (by repeat (first | (with_reducible first | exact HB.out | apply below_alloc | apply pw_below_drewN | apply below_drew1 | refine below_set ?_ GE332.out | refine below_set ?_ GE337.out) | exact HB.out)) hb); clear BK332; clear BK337; clear HB; have BK332 := n0_; have BK337 := n1_; have HB := n2_; clear n0_ n1_ n2_; (try clear hb); (try clear hb2); (try clear hk); (try clear hi)) | ((with_reducible refine gate_dst (N := 11) rfl ?_); refine box_event ?hg (N := 11) ?hd (cs := #[.int .i64 0, .int .i64 0, .int .i64 0]) (t := 48) ?hr ?_; (case hd => rfl); (case hg => rfl); (case hr => first | (go_simp; done) | (go_simp; rfl)); intro gb346 hg w39 hbox hb; have n0_ := Aside0.mk (blk_below (g := gb332) (o := .cells #[.int .i64 t328, .int .i64 t329, .int .i64 t330] 48 (0, 0)) (by (with_reducible repeat (first | refine blk_drewN ?_ _ | refine blk_drew ?_ | refine blk_alloc ?_ _)); exact BK332.out) hb); have n1_ := Aside0.mk (blk_below (g := gb337) (o := .cells #[.int .i64 t333, .int .i64 t334, .int .i64 t335] 48 (0, 0)) (by (with_reducible repeat (first | refine blk_drewN ?_ _ | refine blk_drew ?_ | refine blk_alloc ?_ _)); exact BK337.out) hb); have n2_ := Aside0.mk (below_step (by repeat (first | (with_reducible first | exact HB.out | apply below_alloc | apply pw_below_drewN | apply below_drew1 | refine below_set ?_ GE332.out | refine below_set ?_ GE337.out) | exact HB.out)) hb); have n3_ := Aside0.mk (hbox); have n4_ := Aside0.mk ((by rw [hg]; exact (below_size (by repeat (first | (with_reducible first | exact HB.out | apply below_alloc | apply pw_below_drewN | apply below_drew1 | refine below_set ?_ GE332.out | refine below_set ?_ GE337.out) | exact HB.out))) : w.heap.size ≤ gb346)); have n5_ := Aside0.mk ((by rw [hg]; exact (below_size (by repeat (first | (with_reducible first | exact HB.out | apply below_alloc | apply pw_below_drewN | apply below_drew1 | refine below_set ?_ GE332.out | refine below_set ?_ GE337.out) | exact HB.out))) : w.heap.size ≤ gb346)); have n6_ := Aside0.mk ((by rw [hg]; exact Nat.ne_of_lt (blk_lt (g := gb332) (o := .cells #[.int .i64 t328, .int .i64 t329, .int .i64 t330] 48 (0, 0)) (by (with_reducible repeat (first | refine blk_drewN ?_ _ | refine blk_drew ?_ | refine blk_alloc ?_ _)); exact BK332.out)) : gb332 ≠ gb346)); have n7_ := Aside0.mk ((by rw [hg]; exact Nat.ne_of_gt (blk_lt (g := gb332) (o := .cells #[.int .i64 t328, .int .i64 t329, .int .i64 t330] 48 (0, 0)) (by (with_reducible repeat (first | refine blk_drewN ?_ _ | refine blk_drew ?_ | refine blk_alloc ?_ _)); exact BK332.out)) : gb346 ≠ gb332)); have n8_ := Aside0.mk ((by rw [hg]; exact Nat.ne_of_lt (blk_lt (g := gb337) (o := .cells #[.int .i64 t333, .int .i64 t334, .int .i64 t335] 48 (0, 0)) (by (with_reducible repeat (first | refine blk_drewN ?_ _ | refine blk_drew ?_ | refine blk_alloc ?_ _)); exact BK337.out)) : gb337 ≠ gb346)); have n9_ := Aside0.mk ((by rw [hg]; exact Nat.ne_of_gt (blk_lt (g := gb337) (o := .cells #[.int .i64 t333, .int .i64 t334, .int .i64 t335] 48 (0, 0)) (by (with_reducible repeat (first | refine blk_drewN ?_ _ | refine blk_drew ?_ | refine blk_alloc ?_ _)); exact BK337.out)) : gb346 ≠ gb337)); clear BK332; clear BK337; clear HB; have BK332 := n0_; have BK337 := n1_; have HB := n2_; have BK346 := n3_; have GW346 := n4_; have GE346 := n5_; have NB332_346 := n6_; have NB346_332 := n7_; have NB337_346 := n8_; have NB346_337 := n9_; clear n0_ n1_ n2_ n3_ n4_ n5_ n6_ n7_ n8_ n9_; clear hb hbox hg; have hnb40 := NB346_332.out; have hnc40 := NB332_346.out; have hnb41 := NB346_337.out; have hnc41 := NB337_346.out; have hcz42_0 : w39.cell? ⟨gb346, 0, none⟩ = some (.int .i64 0) := (blk_cell BK346.out 0).trans rfl; have hcz42_1 : w39.cell? ⟨gb346, 1, none⟩ = some (.int .i64 0) := (blk_cell BK346.out 1).trans rfl; have hcz42_2 : w39.cell? ⟨gb346, 2, none⟩ = some (.int .i64 0) := (blk_cell BK346.out 2).trans rfl; have hfz42_0 := blk_frozen BK346.out 0; have hfz42_1 := blk_frozen BK346.out 1; have hfz42_2 := blk_frozen BK346.out 2) | ((with_reducible refine gate_callee (f := 27) rfl ?_); refine goesL_ (some 50) rfl rfl Tryd.func27 (by kernel_rfl) rfl #[.int .i64 1, .int .i64 2, .int .i64 0, .int .i64 0, .int .i64 0] rfl (by (try simp only [List.map_toArray, List.map_cons, List.map_nil]); first | done | rfl | (simp only [List.length_drop, List.length_take]; rfl)) ?_; (with_reducible refine (parcels_Seal.calls 1 2 0 0 0 t347 t348 t349 t350 _ A7.out).mono ?_); rintro e w43 ⟨rfl, hb⟩; refine ⟨_, rfl, ?_⟩; have n0_ := Aside0.mk (blk_below (g := gb332) (o := .cells #[.int .i64 t328, .int .i64 t329, .int .i64 t330] 48 (0, 0)) (by (with_reducible repeat (first | refine blk_drewN ?_ _ | refine blk_drew ?_ | refine blk_alloc ?_ _)); refine blk_far ?_ NB332_346.out _; (with_reducible repeat (first | refine blk_drewN ?_ _ | refine blk_drew ?_ | refine blk_alloc ?_ _)); refine blk_far ?_ NB332_346.out _; (with_reducible repeat (first | refine blk_drewN ?_ _ | refine blk_drew ?_ | refine blk_alloc ?_ _)); refine blk_far ?_ NB332_346.out _; (with_reducible repeat (first | refine blk_drewN ?_ _ | refine blk_drew ?_ | refine blk_alloc ?_ _)); exact BK332.out) hb); have n1_ := Aside0.mk (blk_below (g := gb337) (o := .cells #[.int .i64 t333, .int .i64 t334, .int .i64 t335] 48 (0, 0)) (by (with_reducible repeat (first | refine blk_drewN ?_ _ | refine blk_drew ?_ | refine blk_alloc ?_ _)); refine blk_far ?_ NB337_346.out _; (with_reducible repeat (first | refine blk_drewN ?_ _ | refine blk_drew ?_ | refine blk_alloc ?_ _)); refine blk_far ?_ NB337_346.out _; (with_reducible repeat (first | refine blk_drewN ?_ _ | refine blk_drew ?_ | refine blk_alloc ?_ _)); refine blk_far ?_ NB337_346.out _; (with_reducible repeat (first | refine blk_drewN ?_ _ | refine blk_drew ?_ | refine blk_alloc ?_ _)); exact BK337.out) hb); have n2_ := Aside0.mk (blk_below (g := gb346) (o := .cells #[.int .i64 t342, .int .i64 t343, .int .i64 t344] 48 (0, 0)) (by (with_reducible repeat (first | refine blk_drewN ?_ _ | refine blk_drew ?_ | refine blk_alloc ?_ _)); refine blk_put (cs := #[.int .i64 t342, .int .i64 t343, .int .i64 0]) ?_ 2 _ rfl; (with_reducible repeat (first | refine blk_drewN ?_ _ | refine blk_drew ?_ | refine blk_alloc ?_ _)); refine blk_put (cs := #[.int .i64 t342, .int .i64 0, .int .i64 0]) ?_ 1 _ rfl; (with_reducible repeat (first | refine blk_drewN ?_ _ | refine blk_drew ?_ | refine blk_alloc ?_ _)); refine blk_put (cs := #[.int .i64 0, .int .i64 0, .int .i64 0]) ?_ 0 _ rfl; (with_reducible repeat (first | refine blk_drewN ?_ _ | refine blk_drew ?_ | refine blk_alloc ?_ _)); exact BK346.out) hb); have n3_ := Aside0.mk (below_step (by repeat (first | (with_reducible first | exact HB.out | apply below_alloc | apply pw_below_drewN | apply below_drew1 | refine below_set ?_ GE332.out | refine below_set ?_ GE337.out | refine below_set ?_ GE346.out) | exact HB.out)) hb); clear BK332; clear BK337; clear BK346; clear HB; have BK332 := n0_; have BK337 := n1_; have BK346 := n2_; have HB := n3_; clear n0_ n1_ n2_ n3_; (try clear hb); (try clear hb2); (try clear hk); (try clear hi)) | ((with_reducible refine gate_dst (N := 13) rfl ?_); refine box_event ?hg (N := 13) ?hd (cs := #[.int .i64 0, .int .i64 0, .int .i64 0]) (t := 48) ?hr ?_; (case hd => rfl); (case hg => rfl); (case hr => first | (go_simp; done) | (go_simp; rfl)); intro gb351 hg w44 hbox hb; have n0_ := Aside0.mk (blk_below (g := gb332) (o := .cells #[.int .i64 t328, .int .i64 t329, .int .i64 t330] 48 (0, 0)) (by (with_reducible repeat (first | refine blk_drewN ?_ _ | refine blk_drew ?_ | refine blk_alloc ?_ _)); exact BK332.out) hb); have n1_ := Aside0.mk (blk_below (g := gb337) (o := .cells #[.int .i64 t333, .int .i64 t334, .int .i64 t335] 48 (0, 0)) (by (with_reducible repeat (first | refine blk_drewN ?_ _ | refine blk_drew ?_ | refine blk_alloc ?_ _)); exact BK337.out) hb); have n2_ := Aside0.mk (blk_below (g := gb346) (o := .cells #[.int .i64 t342, .int .i64 t343, .int .i64 t344] 48 (0, 0)) (by (with_reducible repeat (first | refine blk_drewN ?_ _ | refine blk_drew ?_ | refine blk_alloc ?_ _)); exact BK346.out) hb); have n3_ := Aside0.mk (below_step (by repeat (first | (with_reducible first | exact HB.out | apply below_alloc | apply pw_below_drewN | apply below_drew1 | refine below_set ?_ GE332.out | refine below_set ?_ GE337.out | refine below_set ?_ GE346.out) | exact HB.out)) hb); have n4_ := Aside0.mk (hbox); have n5_ := Aside0.mk ((by rw [hg]; exact (below_size (by repeat (first | (with_reducible first | exact HB.out | apply below_alloc | apply pw_below_drewN | apply below_drew1 | refine below_set ?_ GE332.out | refine below_set ?_ GE337.out | refine below_set ?_ GE346.out) | exact HB.out))) : w.heap.size ≤ gb351)); have n6_ := Aside0.mk ((by rw [hg]; exact (below_size (by repeat (first | (with_reducible first | exact HB.out | apply below_alloc | apply pw_below_drewN | apply below_drew1 | refine below_set ?_ GE332.out | refine below_set ?_ GE337.out | refine below_set ?_ GE346.out) | exact HB.out))) : w.heap.size ≤ gb351)); have n7_ := Aside0.mk ((by rw [hg]; exact Nat.ne_of_lt (blk_lt (g := gb332) (o := .cells #[.int .i64 t328, .int .i64 t329, .int .i64 t330] 48 (0, 0)) (by (with_reducible repeat (first | refine blk_drewN ?_ _ | refine blk_drew ?_ | refine blk_alloc ?_ _)); exact BK332.out)) : gb332 ≠ gb351)); have n8_ := Aside0.mk ((by rw [hg]; exact Nat.ne_of_gt (blk_lt (g := gb332) (o := .cells #[.int .i64 t328, .int .i64 t329, .int .i64 t330] 48 (0, 0)) (by (with_reducible repeat (first | refine blk_drewN ?_ _ | refine blk_drew ?_ | refine blk_alloc ?_ _)); exact BK332.out)) : gb351 ≠ gb332)); have n9_ := Aside0.mk ((by rw [hg]; exact Nat.ne_of_lt (blk_lt (g := gb337) (o := .cells #[.int .i64 t333, .int .i64 t334, .int .i64 t335] 48 (0, 0)) (by (with_reducible repeat (first | refine blk_drewN ?_ _ | refine blk_drew ?_ | refine blk_alloc ?_ _)); exact BK337.out)) : gb337 ≠ gb351)); have n10_ := Aside0.mk ((by rw [hg]; exact Nat.ne_of_gt (blk_lt (g := gb337) (o := .cells #[.int .i64 t333, .int .i64 t334, .int .i64 t335] 48 (0, 0)) (by (with_reducible repeat (first | refine blk_drewN ?_ _ | refine blk_drew ?_ | refine blk_alloc ?_ _)); exact BK337.out)) : gb351 ≠ gb337)); have n11_ := Aside0.mk ((by rw [hg]; exact Nat.ne_of_lt (blk_lt (g := gb346) (o := .cells #[.int .i64 t342, .int .i64 t343, .int .i64 t344] 48 (0, 0)) (by (with_reducible repeat (first | refine blk_drewN ?_ _ | refine blk_drew ?_ | refine blk_alloc ?_ _)); exact BK346.out)) : gb346 ≠ gb351)); have n12_ := Aside0.mk ((by rw [hg]; exact Nat.ne_of_gt (blk_lt (g := gb346) (o := .cells #[.int .i64 t342, .int .i64 t343, .int .i64 t344] 48 (0, 0)) (by (with_reducible repeat (first | refine blk_drewN ?_ _ | refine blk_drew ?_ | refine blk_alloc ?_ _)); exact BK346.out)) : gb351 ≠ gb346)); clear BK332; clear BK337; clear BK346; clear HB; have BK332 := n0_; have BK337 := n1_; have BK346 := n2_; have HB := n3_; have BK351 := n4_; have GW351 := n5_; have GE351 := n6_; have NB332_351 := n7_; have NB351_332 := n8_; have NB337_351 := n9_; have NB351_337 := n10_; have NB346_351 := n11_; have NB351_346 := n12_; clear n0_ n1_ n2_ n3_ n4_ n5_ n6_ n7_ n8_ n9_ n10_ n11_ n12_; clear hb hbox hg; have hnb45 := NB351_332.out; have hnc45 := NB332_351.out; have hnb46 := NB351_337.out; have hnc46 := NB337_351.out; have hnb47 := NB351_346.out; have hnc47 := NB346_351.out; have hcz48_0 : w44.cell? ⟨gb351, 0, none⟩ = some (.int .i64 0) := (blk_cell BK351.out 0).trans rfl; have hcz48_1 : w44.cell? ⟨gb351, 1, none⟩ = some (.int .i64 0) := (blk_cell BK351.out 1).trans rfl; have hcz48_2 : w44.cell? ⟨gb351, 2, none⟩ = some (.int .i64 0) := (blk_cell BK351.out 2).trans rfl; have hfz48_0 := blk_frozen BK351.out 0; have hfz48_1 := blk_frozen BK351.out 1; have hfz48_2 := blk_frozen BK351.out 2) | ((with_reducible refine gate_callee (f := 27) rfl ?_); refine goesL_ (some 54) rfl rfl Tryd.func27 (by kernel_rfl) rfl #[.int .i64 1, .int .i64 4, .int .i64 64, .int .i64 0, .int .i64 0] rfl (by (try simp only [List.map_toArray, List.map_cons, List.map_nil]); first | done | rfl | (simp only [List.length_drop, List.length_take]; rfl)) ?_; (with_reducible refine (parcels_Seal.calls 1 4 64 0 0 t352 t353 t354 t355 _ A8.out).mono ?_); rintro e w49 ⟨rfl, hb⟩; refine ⟨_, rfl, ?_⟩; have n0_ := Aside0.mk (blk_below (g := gb332) (o := .cells #[.int .i64 t328, .int .i64 t329, .int .i64 t330] 48 (0, 0)) (by (with_reducible repeat (first | refine blk_drewN ?_ _ | refine blk_drew ?_ | refine blk_alloc ?_ _)); refine blk_far ?_ NB332_351.out _; (with_reducible repeat (first | refine blk_drewN ?_ _ | refine blk_drew ?_ | refine blk_alloc ?_ _)); refine blk_far ?_ NB332_351.out _; (with_reducible repeat (first | refine blk_drewN ?_ _ | refine blk_drew ?_ | refine blk_alloc ?_ _)); refine blk_far ?_ NB332_351.out _; (with_reducible repeat (first | refine blk_drewN ?_ _ | refine blk_drew ?_ | refine blk_alloc ?_ _)); exact BK332.out) hb); have n1_ := Aside0.mk (blk_below (g := gb337) (o := .cells #[.int .i64 t333, .int .i64 t334, .int .i64 t335] 48 (0, 0)) (by (with_reducible repeat (first | refine blk_drewN ?_ _ | refine blk_drew ?_ | refine blk_alloc ?_ _)); refine blk_far ?_ NB337_351.out _; (with_reducible repeat (first | refine blk_drewN ?_ _ | refine blk_drew ?_ | refine blk_alloc ?_ _)); refine blk_far ?_ NB337_351.out _; (with_reducible repeat (first | refine blk_drewN ?_ _ | refine blk_drew ?_ | refine blk_alloc ?_ _)); refine blk_far ?_ NB337_351.out _; (with_reducible repeat (first | refine blk_drewN ?_ _ | refine blk_drew ?_ | refine blk_alloc ?_ _)); exact BK337.out) hb); have n2_ := Aside0.mk (blk_below (g := gb346) (o := .cells #[.int .i64 t342, .int .i64 t343, .int .i64 t344] 48 (0, 0)) (by (with_reducible repeat (first | refine blk_drewN ?_ _ | refine blk_drew ?_ | refine blk_alloc ?_ _)); refine blk_far ?_ NB346_351.out _; (with_reducible repeat (first | refine blk_drewN ?_ _ | refine blk_drew ?_ | refine blk_alloc ?_ _)); refine blk_far ?_ NB346_351.out _; (with_reducible repeat (first | refine blk_drewN ?_ _ | refine blk_drew ?_ | refine blk_alloc ?_ _)); refine blk_far ?_ NB346_351.out _; (with_reducible repeat (first | refine blk_drewN ?_ _ | refine blk_drew ?_ | refine blk_alloc ?_ _)); exact BK346.out) hb); have n3_ := Aside0.mk (blk_below (g := gb351) (o := .cells #[.int .i64 t347, .int .i64 t348, .int .i64 t349] 48 (0, 0)) (by (with_reducible repeat (first | refine blk_drewN ?_ _ | refine blk_drew ?_ | refine blk_alloc ?_ _)); refine blk_put (cs := #[.int .i64 t347, .int .i64 t348, .int .i64 0]) ?_ 2 _ rfl; (with_reducible repeat (first | refine blk_drewN ?_ _ | refine blk_drew ?_ | refine blk_alloc ?_ _)); refine blk_put (cs := #[.int .i64 t347, .int .i64 0, .int .i64 0]) ?_ 1 _ rfl; (with_reducible repeat (first | refine blk_drewN ?_ _ | refine blk_drew ?_ | refine blk_alloc ?_ _)); refine blk_put (cs := #[.int .i64 0, .int .i64 0, .int .i64 0]) ?_ 0 _ rfl; (with_reducible repeat (first | refine blk_drewN ?_ _ | refine blk_drew ?_ | refine blk_alloc ?_ _)); exact BK351.out) hb); have n4_ := Aside0.mk (below_step (by repeat (first | (with_reducible first | exact HB.out | apply below_alloc | apply pw_below_drewN | apply below_drew1 | refine below_set ?_ GE332.out | refine below_set ?_ GE337.out | refine below_set ?_ GE346.out | refine below_set ?_ GE351.out) | exact HB.out)) hb); clear BK332; clear BK337; clear BK346; clear BK351; clear HB; have BK332 := n0_; have BK337 := n1_; have BK346 := n2_; have BK351 := n3_; have HB := n4_; clear n0_ n1_ n2_ n3_ n4_; (try clear hb); (try clear hb2); (try clear hk); (try clear hi)) | ((with_reducible refine gate_dst (N := 15) rfl ?_); refine box_event ?hg (N := 15) ?hd (cs := #[.int .i64 0, .int .i64 0, .int .i64 0]) (t := 48) ?hr ?_; (case hd => rfl); (case hg => rfl); (case hr => first | (go_simp; done) | (go_simp; rfl)); intro gb356 hg w50 hbox hb; have n0_ := Aside0.mk (blk_below (g := gb332) (o := .cells #[.int .i64 t328, .int .i64 t329, .int .i64 t330] 48 (0, 0)) (by (with_reducible repeat (first | refine blk_drewN ?_ _ | refine blk_drew ?_ | refine blk_alloc ?_ _)); exact BK332.out) hb); have n1_ := Aside0.mk (blk_below (g := gb337) (o := .cells #[.int .i64 t333, .int .i64 t334, .int .i64 t335] 48 (0, 0)) (by (with_reducible repeat (first | refine blk_drewN ?_ _ | refine blk_drew ?_ | refine blk_alloc ?_ _)); exact BK337.out) hb); have n2_ := Aside0.mk (blk_below (g := gb346) (o := .cells #[.int .i64 t342, .int .i64 t343, .int .i64 t344] 48 (0, 0)) (by (with_reducible repeat (first | refine blk_drewN ?_ _ | refine blk_drew ?_ | refine blk_alloc ?_ _)); exact BK346.out) hb); have n3_ := Aside0.mk (blk_below (g := gb351) (o := .cells #[.int .i64 t347, .int .i64 t348, .int .i64 t349] 48 (0, 0)) (by (with_reducible repeat (first | refine blk_drewN ?_ _ | refine blk_drew ?_ | refine blk_alloc ?_ _)); exact BK351.out) hb); have n4_ := Aside0.mk (below_step (by repeat (first | (with_reducible first | exact HB.out | apply below_alloc | apply pw_below_drewN | apply below_drew1 | refine below_set ?_ GE332.out | refine below_set ?_ GE337.out | refine below_set ?_ GE346.out | refine below_set ?_ GE351.out) | exact HB.out)) hb); have n5_ := Aside0.mk (hbox); have n6_ := Aside0.mk ((by rw [hg]; exact (below_size (by repeat (first | (with_reducible first | exact HB.out | apply below_alloc | apply pw_below_drewN | apply below_drew1 | refine below_set ?_ GE332.out | refine below_set ?_ GE337.out | refine below_set ?_ GE346.out | refine below_set ?_ GE351.out) | exact HB.out))) : w.heap.size ≤ gb356)); have n7_ := Aside0.mk ((by rw [hg]; exact (below_size (by repeat (first | (with_reducible first | exact HB.out | apply below_alloc | apply pw_below_drewN | apply below_drew1 | refine below_set ?_ GE332.out | refine below_set ?_ GE337.out | refine below_set ?_ GE346.out | refine below_set ?_ GE351.out) | exact HB.out))) : w.heap.size ≤ gb356)); have n8_ := Aside0.mk ((by rw [hg]; exact Nat.ne_of_lt (blk_lt (g := gb332) (o := .cells #[.int .i64 t328, .int .i64 t329, .int .i64 t330] 48 (0, 0)) (by (with_reducible repeat (first | refine blk_drewN ?_ _ | refine blk_drew ?_ | refine blk_alloc ?_ _)); exact BK332.out)) : gb332 ≠ gb356)); have n9_ := Aside0.mk ((by rw [hg]; exact Nat.ne_of_gt (blk_lt (g := gb332) (o := .cells #[.int .i64 t328, .int .i64 t329, .int .i64 t330] 48 (0, 0)) (by (with_reducible repeat (first | refine blk_drewN ?_ _ | refine blk_drew ?_ | refine blk_alloc ?_ _)); exact BK332.out)) : gb356 ≠ gb332)); have n10_ := Aside0.mk ((by rw [hg]; exact Nat.ne_of_lt (blk_lt (g := gb337) (o := .cells #[.int .i64 t333, .int .i64 t334, .int .i64 t335] 48 (0, 0)) (by (with_reducible repeat (first | refine blk_drewN ?_ _ | refine blk_drew ?_ | refine blk_alloc ?_ _)); exact BK337.out)) : gb337 ≠ gb356)); have n11_ := Aside0.mk ((by rw [hg]; exact Nat.ne_of_gt (blk_lt (g := gb337) (o := .cells #[.int .i64 t333, .int .i64 t334, .int .i64 t335] 48 (0, 0)) (by (with_reducible repeat (first | refine blk_drewN ?_ _ | refine blk_drew ?_ | refine blk_alloc ?_ _)); exact BK337.out)) : gb356 ≠ gb337)); have n12_ := Aside0.mk ((by rw [hg]; exact Nat.ne_of_lt (blk_lt (g := gb346) (o := .cells #[.int .i64 t342, .int .i64 t343, .int .i64 t344] 48 (0, 0)) (by (with_reducible repeat (first | refine blk_drewN ?_ _ | refine blk_drew ?_ | refine blk_alloc ?_ _)); exact BK346.out)) : gb346 ≠ gb356)); have n13_ := Aside0.mk ((by rw [hg]; exact Nat.ne_of_gt (blk_lt (g := gb346) (o := .cells #[.int .i64 t342, .int .i64 t343, .int .i64 t344] 48 (0, 0)) (by (with_reducible repeat (first | refine blk_drewN ?_ _ | refine blk_drew ?_ | refine blk_alloc ?_ _)); exact BK346.out)) : gb356 ≠ gb346)); have n14_ := Aside0.mk ((by rw [hg]; exact Nat.ne_of_lt (blk_lt (g := gb351) (o := .cells #[.int .i64 t347, .int .i64 t348, .int .i64 t349] 48 (0, 0)) (by (with_reducible repeat (first | refine blk_drewN ?_ _ | refine blk_drew ?_ | refine blk_alloc ?_ _)); exact BK351.out)) : gb351 ≠ gb356)); have n15_ := Aside0.mk ((by rw [hg]; exact Nat.ne_of_gt (blk_lt (g := gb351) (o := .cells #[.int .i64 t347, .int .i64 t348, .int .i64 t349] 48 (0, 0)) (by (with_reducible repeat (first | refine blk_drewN ?_ _ | refine blk_drew ?_ | refine blk_alloc ?_ _)); exact BK351.out)) : gb356 ≠ gb351)); clear BK332; clear BK337; clear BK346; clear BK351; clear HB; have BK332 := n0_; have BK337 := n1_; have BK346 := n2_; have BK351 := n3_; have HB := n4_; have BK356 := n5_; have GW356 := n6_; have GE356 := n7_; have NB332_356 := n8_; have NB356_332 := n9_; have NB337_356 := n10_; have NB356_337 := n11_; have NB346_356 := n12_; have NB356_346 := n13_; have NB351_356 := n14_; have NB356_351 := n15_; clear n0_ n1_ n2_ n3_ n4_ n5_ n6_ n7_ n8_ n9_ n10_ n11_ n12_ n13_ n14_ n15_; clear hb hbox hg; have hnb51 := NB356_332.out; have hnc51 := NB332_356.out; have hnb52 := NB356_337.out; have hnc52 := NB337_356.out; have hnb53 := NB356_346.out; have hnc53 := NB346_356.out; have hnb54 := NB356_351.out; have hnc54 := NB351_356.out; have hcz55_0 : w50.cell? ⟨gb356, 0, none⟩ = some (.int .i64 0) := (blk_cell BK356.out 0).trans rfl; have hcz55_1 : w50.cell? ⟨gb356, 1, none⟩ = some (.int .i64 0) := (blk_cell BK356.out 1).trans rfl; have hcz55_2 : w50.cell? ⟨gb356, 2, none⟩ = some (.int .i64 0) := (blk_cell BK356.out 2).trans rfl; have hfz55_0 := blk_frozen BK356.out 0; have hfz55_1 := blk_frozen BK356.out 1; have hfz55_2 := blk_frozen BK356.out 2) | ((with_reducible refine gate_callee (f := 27) rfl ?_); refine goesL_ (some 58) rfl rfl Tryd.func27 (by kernel_rfl) rfl #[.int .i64 1, .int .i64 4, .int .i64 0, .int .i64 0, .int .i64 1073741789] rfl (by (try simp only [List.map_toArray, List.map_cons, List.map_nil]); first | done | rfl | (simp only [List.length_drop, List.length_take]; rfl)) ?_; (with_reducible refine (parcels_Seal.calls 1 4 0 0 1073741789 t357 t358 t359 t360 _ A9.out).mono ?_); rintro e w56 ⟨rfl, hb⟩; refine ⟨_, rfl, ?_⟩; have n0_ := Aside0.mk (blk_below (g := gb332) (o := .cells #[.int .i64 t328, .int .i64 t329, .int .i64 t330] 48 (0, 0)) (by (with_reducible repeat (first | refine blk_drewN ?_ _ | refine blk_drew ?_ | refine blk_alloc ?_ _)); refine blk_far ?_ NB332_356.out _; (with_reducible repeat (first | refine blk_drewN ?_ _ | refine blk_drew ?_ | refine blk_alloc ?_ _)); refine blk_far ?_ NB332_356.out _; (with_reducible repeat (first | refine blk_drewN ?_ _ | refine blk_drew ?_ | refine blk_alloc ?_ _)); refine blk_far ?_ NB332_356.out _; (with_reducible repeat (first | refine blk_drewN ?_ _ | refine blk_drew ?_ | refine blk_alloc ?_ _)); exact BK332.out) hb); have n1_ := Aside0.mk (blk_below (g := gb337) (o := .cells #[.int .i64 t333, .int .i64 t334, .int .i64 t335] 48 (0, 0)) (by (with_reducible repeat (first | refine blk_drewN ?_ _ | refine blk_drew ?_ | refine blk_alloc ?_ _)); refine blk_far ?_ NB337_356.out _; (with_reducible repeat (first | refine blk_drewN ?_ _ | refine blk_drew ?_ | refine blk_alloc ?_ _)); refine blk_far ?_ NB337_356.out _; (with_reducible repeat (first | refine blk_drewN ?_ _ | refine blk_drew ?_ | refine blk_alloc ?_ _)); refine blk_far ?_ NB337_356.out _; (with_reducible repeat (first | refine blk_drewN ?_ _ | refine blk_drew ?_ | refine blk_alloc ?_ _)); exact BK337.out) hb); have n2_ := Aside0.mk (blk_below (g := gb346) (o := .cells #[.int .i64 t342, .int .i64 t343, .int .i64 t344] 48 (0, 0)) (by (with_reducible repeat (first | refine blk_drewN ?_ _ | refine blk_drew ?_ | refine blk_alloc ?_ _)); refine blk_far ?_ NB346_356.out _; (with_reducible repeat (first | refine blk_drewN ?_ _ | refine blk_drew ?_ | refine blk_alloc ?_ _)); refine blk_far ?_ NB346_356.out _; (with_reducible repeat (first | refine blk_drewN ?_ _ | refine blk_drew ?_ | refine blk_alloc ?_ _)); refine blk_far ?_ NB346_356.out _; (with_reducible repeat (first | refine blk_drewN ?_ _ | refine blk_drew ?_ | refine blk_alloc ?_ _)); exact BK346.out) hb); have n3_ := Aside0.mk (blk_below (g := gb351) (o := .cells #[.int .i64 t347, .int .i64 t348, .int .i64 t349] 48 (0, 0)) (by (with_reducible repeat (first | refine blk_drewN ?_ _ | refine blk_drew ?_ | refine blk_alloc ?_ _)); refine blk_far ?_ NB351_356.out _; (with_reducible repeat (first | refine blk_drewN ?_ _ | refine blk_drew ?_ | refine blk_alloc ?_ _)); refine blk_far ?_ NB351_356.out _; (with_reducible repeat (first | refine blk_drewN ?_ _ | refine blk_drew ?_ | refine blk_alloc ?_ _)); refine blk_far ?_ NB351_356.out _; (with_reducible repeat (first | refine blk_drewN ?_ _ | refine blk_drew ?_ | refine blk_alloc ?_ _)); exact BK351.out) hb); have n4_ := Aside0.mk (blk_below (g := gb356) (o := .cells #[.int .i64 t352, .int .i64 t353, .int .i64 t354] 48 (0, 0)) (by (with_reducible repeat (first | refine blk_drewN ?_ _ | refine blk_drew ?_ | refine blk_alloc ?_ _)); refine blk_put (cs := #[.int .i64 t352, .int .i64 t353, .int .i64 0]) ?_ 2 _ rfl; (with_reducible repeat (first | refine blk_drewN ?_ _ | refine blk_drew ?_ | refine blk_alloc ?_ _)); refine blk_put (cs := #[.int .i64 t352, .int .i64 0, .int .i64 0]) ?_ 1 _ rfl; (with_reducible repeat (first | refine blk_drewN ?_ _ | refine blk_drew ?_ | refine blk_alloc ?_ _)); refine blk_put (cs := #[.int .i64 0, .int .i64 0, .int .i64 0]) ?_ 0 _ rfl; (with_reducible repeat (first | refine blk_drewN ?_ _ | refine blk_drew ?_ | refine blk_alloc ?_ _)); exact BK356.out) hb); have n5_ := Aside0.mk (below_step (by repeat (first | (with_reducible first | exact HB.out | apply below_alloc | apply pw_below_drewN | apply below_drew1 | refine below_set ?_ GE332.out | refine below_set ?_ GE337.out | refine below_set ?_ GE346.out | refine below_set ?_ GE351.out | refine below_set ?_ GE356.out) | exact HB.out)) hb); clear BK332; clear BK337; clear BK346; clear BK351; clear BK356; clear HB; have BK332 := n0_; have BK337 := n1_; have BK346 := n2_; have BK351 := n3_; have BK356 := n4_; have HB := n5_; clear n0_ n1_ n2_ n3_ n4_ n5_; (try clear hb); (try clear hb2); (try clear hk); (try clear hi)) | ((with_reducible refine gate_dst (N := 17) rfl ?_); refine box_event ?hg (N := 17) ?hd (cs := #[.int .i64 0, .int .i64 0, .int .i64 0]) (t := 48) ?hr ?_; (case hd => rfl); (case hg => rfl); (case hr => first | (go_simp; done) | (go_simp; rfl)); intro gb361 hg w57 hbox hb; have n0_ := Aside0.mk (blk_below (g := gb332) (o := .cells #[.int .i64 t328, .int .i64 t329, .int .i64 t330] 48 (0, 0)) (by (with_reducible repeat (first | refine blk_drewN ?_ _ | refine blk_drew ?_ | refine blk_alloc ?_ _)); exact BK332.out) hb); have n1_ := Aside0.mk (blk_below (g := gb337) (o := .cells #[.int .i64 t333, .int .i64 t334, .int .i64 t335] 48 (0, 0)) (by (with_reducible repeat (first | refine blk_drewN ?_ _ | refine blk_drew ?_ | refine blk_alloc ?_ _)); exact BK337.out) hb); have n2_ := Aside0.mk (blk_below (g := gb346) (o := .cells #[.int .i64 t342, .int .i64 t343, .int .i64 t344] 48 (0, 0)) (by (with_reducible repeat (first | refine blk_drewN ?_ _ | refine blk_drew ?_ | refine blk_alloc ?_ _)); exact BK346.out) hb); have n3_ := Aside0.mk (blk_below (g := gb351) (o := .cells #[.int .i64 t347, .int .i64 t348, .int .i64 t349] 48 (0, 0)) (by (with_reducible repeat (first | refine blk_drewN ?_ _ | refine blk_drew ?_ | refine blk_alloc ?_ _)); exact BK351.out) hb); have n4_ := Aside0.mk (blk_below (g := gb356) (o := .cells #[.int .i64 t352, .int .i64 t353, .int .i64 t354] 48 (0, 0)) (by (with_reducible repeat (first | refine blk_drewN ?_ _ | refine blk_drew ?_ | refine blk_alloc ?_ _)); exact BK356.out) hb); have n5_ := Aside0.mk (below_step (by repeat (first | (with_reducible first | exact HB.out | apply below_alloc | apply pw_below_drewN | apply below_drew1 | refine below_set ?_ GE332.out | refine below_set ?_ GE337.out | refine below_set ?_ GE346.out | refine below_set ?_ GE351.out | refine below_set ?_ GE356.out) | exact HB.out)) hb); have n6_ := Aside0.mk (hbox); have n7_ := Aside0.mk ((by rw [hg]; exact (below_size (by repeat (first | (with_reducible first | exact HB.out | apply below_alloc | apply pw_below_drewN | apply below_drew1 | refine below_set ?_ GE332.out | refine below_set ?_ GE337.out | refine below_set ?_ GE346.out | refine below_set ?_ GE351.out | refine below_set ?_ GE356.out) | exact HB.out))) : w.heap.size ≤ gb361)); have n8_ := Aside0.mk ((by rw [hg]; exact (below_size (by repeat (first | (with_reducible first | exact HB.out | apply below_alloc | apply pw_below_drewN | apply below_drew1 | refine below_set ?_ GE332.out | refine below_set ?_ GE337.out | refine below_set ?_ GE346.out | refine below_set ?_ GE351.out | refine below_set ?_ GE356.out) | exact HB.out))) : w.heap.size ≤ gb361)); have n9_ := Aside0.mk ((by rw [hg]; exact Nat.ne_of_lt (blk_lt (g := gb332) (o := .cells #[.int .i64 t328, .int .i64 t329, .int .i64 t330] 48 (0, 0)) (by (with_reducible repeat (first | refine blk_drewN ?_ _ | refine blk_drew ?_ | refine blk_alloc ?_ _)); exact BK332.out)) : gb332 ≠ gb361)); have n10_ := Aside0.mk ((by rw [hg]; exact Nat.ne_of_gt (blk_lt (g := gb332) (o := .cells #[.int .i64 t328, .int .i64 t329, .int .i64 t330] 48 (0, 0)) (by (with_reducible repeat (first | refine blk_drewN ?_ _ | refine blk_drew ?_ | refine blk_alloc ?_ _)); exact BK332.out)) : gb361 ≠ gb332)); have n11_ := Aside0.mk ((by rw [hg]; exact Nat.ne_of_lt (blk_lt (g := gb337) (o := .cells #[.int .i64 t333, .int .i64 t334, .int .i64 t335] 48 (0, 0)) (by (with_reducible repeat (first | refine blk_drewN ?_ _ | refine blk_drew ?_ | refine blk_alloc ?_ _)); exact BK337.out)) : gb337 ≠ gb361)); have n12_ := Aside0.mk ((by rw [hg]; exact Nat.ne_of_gt (blk_lt (g := gb337) (o := .cells #[.int .i64 t333, .int .i64 t334, .int .i64 t335] 48 (0, 0)) (by (with_reducible repeat (first | refine blk_drewN ?_ _ | refine blk_drew ?_ | refine blk_alloc ?_ _)); exact BK337.out)) : gb361 ≠ gb337)); have n13_ := Aside0.mk ((by rw [hg]; exact Nat.ne_of_lt (blk_lt (g := gb346) (o := .cells #[.int .i64 t342, .int .i64 t343, .int .i64 t344] 48 (0, 0)) (by (with_reducible repeat (first | refine blk_drewN ?_ _ | refine blk_drew ?_ | refine blk_alloc ?_ _)); exact BK346.out)) : gb346 ≠ gb361)); have n14_ := Aside0.mk ((by rw [hg]; exact Nat.ne_of_gt (blk_lt (g := gb346) (o := .cells #[.int .i64 t342, .int .i64 t343, .int .i64 t344] 48 (0, 0)) (by (with_reducible repeat (first | refine blk_drewN ?_ _ | refine blk_drew ?_ | refine blk_alloc ?_ _)); exact BK346.out)) : gb361 ≠ gb346)); have n15_ := Aside0.mk ((by rw [hg]; exact Nat.ne_of_lt (blk_lt (g := gb351) (o := .cells #[.int .i64 t347, .int .i64 t348, .int .i64 t349] 48 (0, 0)) (by (with_reducible repeat (first | refine blk_drewN ?_ _ | refine blk_drew ?_ | refine blk_alloc ?_ _)); exact BK351.out)) : gb351 ≠ gb361)); have n16_ := Aside0.mk ((by rw [hg]; exact Nat.ne_of_gt (blk_lt (g := gb351) (o := .cells #[.int .i64 t347, .int .i64 t348, .int .i64 t349] 48 (0, 0)) (by (with_reducible repeat (first | refine blk_drewN ?_ _ | refine blk_drew ?_ | refine blk_alloc ?_ _)); exact BK351.out)) : gb361 ≠ gb351)); have n17_ := Aside0.mk ((by rw [hg]; exact Nat.ne_of_lt (blk_lt (g := gb356) (o := .cells #[.int .i64 t352, .int .i64 t353, .int .i64 t354] 48 (0, 0)) (by (with_reducible repeat (first | refine blk_drewN ?_ _ | refine blk_drew ?_ | refine blk_alloc ?_ _)); exact BK356.out)) : gb356 ≠ gb361)); have n18_ := Aside0.mk ((by rw [hg]; exact Nat.ne_of_gt (blk_lt (g := gb356) (o := .cells #[.int .i64 t352, .int .i64 t353, .int .i64 t354] 48 (0, 0)) (by (with_reducible repeat (first | refine blk_drewN ?_ _ | refine blk_drew ?_ | refine blk_alloc ?_ _)); exact BK356.out)) : gb361 ≠ gb356)); clear BK332; clear BK337; clear BK346; clear BK351; clear BK356; clear HB; have BK332 := n0_; have BK337 := n1_; have BK346 := n2_; have BK351 := n3_; have BK356 := n4_; have HB := n5_; have BK361 := n6_; have GW361 := n7_; have GE361 := n8_; have NB332_361 := n9_; have NB361_332 := n10_; have NB337_361 := n11_; have NB361_337 := n12_; have NB346_361 := n13_; have NB361_346 := n14_; have NB351_361 := n15_; have NB361_351 := n16_; have NB356_361 := n17_; have NB361_356 := n18_; clear n0_ n1_ n2_ n3_ n4_ n5_ n6_ n7_ n8_ n9_ n10_ n11_ n12_ n13_ n14_ n15_ n16_ n17_ n18_; clear hb hbox hg; have hnb58 := NB361_332.out; have hnc58 := NB332_361.out; have hnb59 := NB361_337.out; have hnc59 := NB337_361.out; have hnb60 := NB361_346.out; have hnc60 := NB346_361.out; have hnb61 := NB361_351.out; have hnc61 := NB351_361.out; have hnb62 := NB361_356.out; have hnc62 := NB356_361.out; have hcz63_0 : w57.cell? ⟨gb361, 0, none⟩ = some (.int .i64 0) := (blk_cell BK361.out 0).trans rfl; have hcz63_1 : w57.cell? ⟨gb361, 1, none⟩ = some (.int .i64 0) := (blk_cell BK361.out 1).trans rfl; have hcz63_2 : w57.cell? ⟨gb361, 2, none⟩ = some (.int .i64 0) := (blk_cell BK361.out 2).trans rfl; have hfz63_0 := blk_frozen BK361.out 0; have hfz63_1 := blk_frozen BK361.out 1; have hfz63_2 := blk_frozen BK361.out 2) | ((with_reducible refine gate_callee (f := 30) rfl ?_); refine goesL_ (some 63) rfl rfl Tryd.func30 (by kernel_rfl) rfl #[.int .i64 1, .int .i64 0, .agg #[.int .i64 0, .int .i64 0, .int .i64 0]] rfl (by (try simp only [List.map_toArray, List.map_cons, List.map_nil]); first | done | rfl | (simp only [List.length_drop, List.length_take]; rfl)) ?_; (with_reducible refine (parcels_Open.calls 1 0 0 0 0 t362 t363 _ A10.out).mono ?_); rintro e w64 ⟨rfl, hb⟩; refine ⟨_, rfl, ?_⟩; have n0_ := Aside0.mk (blk_below (g := gb332) (o := .cells #[.int .i64 t328, .int .i64 t329, .int .i64 t330] 48 (0, 0)) (by (with_reducible repeat (first | refine blk_drewN ?_ _ | refine blk_drew ?_ | refine blk_alloc ?_ _)); refine blk_far ?_ NB332_361.out _; (with_reducible repeat (first | refine blk_drewN ?_ _ | refine blk_drew ?_ | refine blk_alloc ?_ _)); refine blk_far ?_ NB332_361.out _; (with_reducible repeat (first | refine blk_drewN ?_ _ | refine blk_drew ?_ | refine blk_alloc ?_ _)); refine blk_far ?_ NB332_361.out _; (with_reducible repeat (first | refine blk_drewN ?_ _ | refine blk_drew ?_ | refine blk_alloc ?_ _)); exact BK332.out) hb); have n1_ := Aside0.mk (blk_below (g := gb337) (o := .cells #[.int .i64 t333, .int .i64 t334, .int .i64 t335] 48 (0, 0)) (by (with_reducible repeat (first | refine blk_drewN ?_ _ | refine blk_drew ?_ | refine blk_alloc ?_ _)); refine blk_far ?_ NB337_361.out _; (with_reducible repeat (first | refine blk_drewN ?_ _ | refine blk_drew ?_ | refine blk_alloc ?_ _)); refine blk_far ?_ NB337_361.out _; (with_reducible repeat (first | refine blk_drewN ?_ _ | refine blk_drew ?_ | refine blk_alloc ?_ _)); refine blk_far ?_ NB337_361.out _; (with_reducible repeat (first | refine blk_drewN ?_ _ | refine blk_drew ?_ | refine blk_alloc ?_ _)); exact BK337.out) hb); have n2_ := Aside0.mk (blk_below (g := gb346) (o := .cells #[.int .i64 t342, .int .i64 t343, .int .i64 t344] 48 (0, 0)) (by (with_reducible repeat (first | refine blk_drewN ?_ _ | refine blk_drew ?_ | refine blk_alloc ?_ _)); refine blk_far ?_ NB346_361.out _; (with_reducible repeat (first | refine blk_drewN ?_ _ | refine blk_drew ?_ | refine blk_alloc ?_ _)); refine blk_far ?_ NB346_361.out _; (with_reducible repeat (first | refine blk_drewN ?_ _ | refine blk_drew ?_ | refine blk_alloc ?_ _)); refine blk_far ?_ NB346_361.out _; (with_reducible repeat (first | refine blk_drewN ?_ _ | refine blk_drew ?_ | refine blk_alloc ?_ _)); exact BK346.out) hb); have n3_ := Aside0.mk (blk_below (g := gb351) (o := .cells #[.int .i64 t347, .int .i64 t348, .int .i64 t349] 48 (0, 0)) (by (with_reducible repeat (first | refine blk_drewN ?_ _ | refine blk_drew ?_ | refine blk_alloc ?_ _)); refine blk_far ?_ NB351_361.out _; (with_reducible repeat (first | refine blk_drewN ?_ _ | refine blk_drew ?_ | refine blk_alloc ?_ _)); refine blk_far ?_ NB351_361.out _; (with_reducible repeat (first | refine blk_drewN ?_ _ | refine blk_drew ?_ | refine blk_alloc ?_ _)); refine blk_far ?_ NB351_361.out _; (with_reducible repeat (first | refine blk_drewN ?_ _ | refine blk_drew ?_ | refine blk_alloc ?_ _)); exact BK351.out) hb); have n4_ := Aside0.mk (blk_below (g := gb356) (o := .cells #[.int .i64 t352, .int .i64 t353, .int .i64 t354] 48 (0, 0)) (by (with_reducible repeat (first | refine blk_drewN ?_ _ | refine blk_drew ?_ | refine blk_alloc ?_ _)); refine blk_far ?_ NB356_361.out _; (with_reducible repeat (first | refine blk_drewN ?_ _ | refine blk_drew ?_ | refine blk_alloc ?_ _)); refine blk_far ?_ NB356_361.out _; (with_reducible repeat (first | refine blk_drewN ?_ _ | refine blk_drew ?_ | refine blk_alloc ?_ _)); refine blk_far ?_ NB356_361.out _; (with_reducible repeat (first | refine blk_drewN ?_ _ | refine blk_drew ?_ | refine blk_alloc ?_ _)); exact BK356.out) hb); have n5_ := Aside0.mk (blk_below (g := gb361) (o := .cells #[.int .i64 t357, .int .i64 t358, .int .i64 t359] 48 (0, 0)) (by (with_reducible repeat (first | refine blk_drewN ?_ _ | refine blk_drew ?_ | refine blk_alloc ?_ _)); refine blk_put (cs := #[.int .i64 t357, .int .i64 t358, .int .i64 0]) ?_ 2 _ rfl; (with_reducible repeat (first | refine blk_drewN ?_ _ | refine blk_drew ?_ | refine blk_alloc ?_ _)); refine blk_put (cs := #[.int .i64 t357, .int .i64 0, .int .i64 0]) ?_ 1 _ rfl; (with_reducible repeat (first | refine blk_drewN ?_ _ | refine blk_drew ?_ | refine blk_alloc ?_ _)); refine blk_put (cs := #[.int .i64 0, .int .i64 0, .int .i64 0]) ?_ 0 _ rfl; (with_reducible repeat (first | refine blk_drewN ?_ _ | refine blk_drew ?_ | refine blk_alloc ?_ _)); exact BK361.out) hb); have n6_ := Aside0.mk (below_step (by repeat (first | (with_reducible first | exact HB.out | apply below_alloc | apply pw_below_drewN | apply below_drew1 | refine below_set ?_ GE332.out | refine below_set ?_ GE337.out | refine below_set ?_ GE346.out | refine below_set ?_ GE351.out | refine below_set ?_ GE356.out | refine below_set ?_ GE361.out) | exact HB.out)) hb); clear BK332; clear BK337; clear BK346; clear BK351; clear BK356; clear BK361; clear HB; have BK332 := n0_; have BK337 := n1_; have BK346 := n2_; have BK351 := n3_; have BK356 := n4_; have BK361 := n5_; have HB := n6_; clear n0_ n1_ n2_ n3_ n4_ n5_ n6_; (try clear hb); (try clear hb2); (try clear hk); (try clear hi); have hcz65_0 : w64.cell? ⟨gb332, 0, none⟩ = some (.int .i64 t328) := (blk_cell BK332.out 0).trans rfl; have hcz65_1 : w64.cell? ⟨gb332, 1, none⟩ = some (.int .i64 t329) := (blk_cell BK332.out 1).trans rfl; have hcz65_2 : w64.cell? ⟨gb332, 2, none⟩ = some (.int .i64 t330) := (blk_cell BK332.out 2).trans rfl; have hfz65_0 := blk_frozen BK332.out 0; have hfz65_1 := blk_frozen BK332.out 1; have hfz65_2 := blk_frozen BK332.out 2; have hcz66_0 : w64.cell? ⟨gb337, 0, none⟩ = some (.int .i64 t333) := (blk_cell BK337.out 0).trans rfl; have hcz66_1 : w64.cell? ⟨gb337, 1, none⟩ = some (.int .i64 t334) := (blk_cell BK337.out 1).trans rfl; have hcz66_2 : w64.cell? ⟨gb337, 2, none⟩ = some (.int .i64 t335) := (blk_cell BK337.out 2).trans rfl; have hfz66_0 := blk_frozen BK337.out 0; have hfz66_1 := blk_frozen BK337.out 1; have hfz66_2 := blk_frozen BK337.out 2))
                                go_ret
                                exact ⟨by first | rfl | (simp [errW_none, errW_some] <;> rfl) | (simp [*, errW_none, errW_some] <;> rfl), by repeat (first | (with_reducible first | exact HB.out | apply below_alloc | apply pw_below_drewN | apply below_drew1 | refine below_set ?_ GE332.out | refine below_set ?_ GE337.out | refine below_set ?_ GE346.out | refine below_set ?_ GE351.out | refine below_set ?_ GE356.out | refine below_set ?_ GE361.out) | exact HB.out)⟩
                              · rw [if_neg c25] at H
                                have c25b0 : (t340 == 1001) = false := beq_eq_false_iff_ne.mpr c25
                                have c25b1 : (t340 != 1001) = true := bne_iff_ne.mpr c25
                                exact absurd (H.trans (congrArg some HT.out)) (by simp)
                            · rw [if_neg c24] at H
                              have c24b0 : (t338 == 1000) = false := beq_eq_false_iff_ne.mpr c24
                              have c24b1 : (t338 != 1000) = true := bne_iff_ne.mpr c24
                              exact absurd (H.trans (congrArg some HT.out)) (by simp)
                          · rw [if_neg c23] at H
                            have c23b0 : (t334 == 1024) = false := beq_eq_false_iff_ne.mpr c23
                            have c23b1 : (t334 != 1024) = true := bne_iff_ne.mpr c23
                            exact absurd (H.trans (congrArg some HT.out)) (by simp)
                        · rw [if_neg c22] at H
                          have c22b0 : (t329 == 1024) = false := beq_eq_false_iff_ne.mpr c22
                          have c22b1 : (t329 != 1024) = true := bne_iff_ne.mpr c22
                          exact absurd (H.trans (congrArg some HT.out)) (by simp)
                      · rw [if_neg c21] at H
                        have c21b0 : (t328 == 2) = false := beq_eq_false_iff_ne.mpr c21
                        have c21b1 : (t328 != 2) = true := bne_iff_ne.mpr c21
                        exact absurd (H.trans (congrArg some HT.out)) (by simp)
                    · rw [if_neg c20] at H
                      have c20b0 : (t363 == 350) = false := beq_eq_false_iff_ne.mpr c20
                      have c20b1 : (t363 != 350) = true := bne_iff_ne.mpr c20
                      exact absurd (H.trans (congrArg some HT.out)) (by simp)
                  · rw [if_neg c19] at H
                    have c19b0 : (t360 == 350) = false := beq_eq_false_iff_ne.mpr c19
                    have c19b1 : (t360 != 350) = true := bne_iff_ne.mpr c19
                    exact absurd (H.trans (congrArg some HT.out)) (by simp)
                · rw [if_neg c18] at H
                  have c18b0 : (t355 == 1) = false := beq_eq_false_iff_ne.mpr c18
                  have c18b1 : (t355 != 1) = true := bne_iff_ne.mpr c18
                  exact absurd (H.trans (congrArg some HT.out)) (by simp)
              · rw [if_neg c17] at H
                have c17b0 : (t350 == 100) = false := beq_eq_false_iff_ne.mpr c17
                have c17b1 : (t350 != 100) = true := bne_iff_ne.mpr c17
                exact absurd (H.trans (congrArg some HT.out)) (by simp)
            · rw [if_neg c16] at H
              have c16b0 : (t345 == 110) = false := beq_eq_false_iff_ne.mpr c16
              have c16b1 : (t345 != 110) = true := bne_iff_ne.mpr c16
              exact absurd (H.trans (congrArg some HT.out)) (by simp)
          · rw [if_neg c15] at H
            have c15b0 : (t341 == 0) = false := beq_eq_false_iff_ne.mpr c15
            have c15b1 : (t341 != 0) = true := bne_iff_ne.mpr c15
            exact absurd (H.trans (congrArg some HT.out)) (by simp)
        · rw [if_neg c14] at H
          have c14b0 : (t339 == 0) = false := beq_eq_false_iff_ne.mpr c14
          have c14b1 : (t339 != 0) = true := bne_iff_ne.mpr c14
          exact absurd (H.trans (congrArg some HT.out)) (by simp)
      · rw [if_neg c13] at H
        have c13b0 : (t336 == 0) = false := beq_eq_false_iff_ne.mpr c13
        have c13b1 : (t336 != 0) = true := bne_iff_ne.mpr c13
        exact absurd (H.trans (congrArg some HT.out)) (by simp)
    · rw [if_neg c12] at H
      have c12b0 : (t331 == 0) = false := beq_eq_false_iff_ne.mpr c12
      have c12b1 : (t331 != 0) = true := bne_iff_ne.mpr c12
      exact absurd (H.trans (congrArg some HT.out)) (by simp)
  · rw [if_neg c11] at H
    have c11b0 : (t327 == 0) = false := beq_eq_false_iff_ne.mpr c11
    have c11b1 : (t327 != 0) = true := bne_iff_ne.mpr c11
    exact absurd (H.trans (congrArg some HT.out)) (by simp)

end Go.Proofs.YthladfegmedpnaaDoor.P

/- Plain laws of the stage 'parcels'. -/
namespace Go.Proofs.YthladfegmedpnaaDoor.P
open Go.RowKit Go.Proofs.YthladfegmedpnaaDoorW.PrintWords Go.Proofs.YthladfegmedpnaaDoorW.PrintLast Go.Proofs.YthladfegmedpnaaDoorW.PrintMore Go.Proofs.YthladfegmedpnaaDoor
set_option linter.unusedVariables false
set_option linter.unusedSimpArgs false

theorem inQ_iff35 {e : Int} : inQ e = true ↔ 0 ≤ e ∧ e < 1073741789 := by unfold inQ; simp
theorem ge_some (n lo hi : Int) : (if n ≥ lo then (some (decide (n < hi))) else (some false)) = some (decide (lo ≤ n) && decide (n < hi)) := by
  by_cases h : n ≥ lo
  · rw [if_pos h, decide_eq_true (show lo ≤ n from h), Bool.true_and]
  · rw [if_neg h, decide_eq_false (show ¬ lo ≤ n from h), Bool.false_and]
theorem ref35_Secret_f (n : Int) : signatoryref35_Secret.f n = some (isSecret n) := ge_some n 1 1073741789
theorem ref35_Person_f (n : Int) : signatoryref35_Person.f n = some (isPers n) := ge_some n 0 64
theorem ref35_Row_f (n : Int) : signatoryref35_Row.f n = some (isPers n) := ge_some n 0 64
theorem ref35_Number_f (n : Int) : signatoryref35_Number.f n = some (inQ n) := ge_some n 0 1073741789
theorem ref35_Right_f (k : Nat) (hk : 40 ≤ k) (row point cipher : Int) : signatoryref35_Right.f k row point cipher = some (rightP row point cipher) := by
  unfold signatoryref35_Right.f rightP
  rw [ref35_Row_f, Option.bind_some, ref10_Valid_f k hk, Option.bind_some, ref35_Number_f, Option.bind_some]
  cases isPers row <;> cases vld point <;> cases inQ cipher <;> rfl
theorem pers_i64 {n : Int} (h : isPers n = true) : i64 n := by have := pers_lt h; exact ⟨by omega, by omega⟩
theorem secret35_lt {s : Int} (h : isSecret s = true) : 1 ≤ s ∧ s < 1073741789 := by
  unfold isSecret at h
  simpa using h
theorem secret35_i64 {s : Int} (h : isSecret s = true) : i64 s := by have := secret35_lt h; exact ⟨by omega, by omega⟩
theorem seal_no {u key dealer row value : Int} {e : Int} (h : sealE u key dealer row value = e) (he : e ≠ 0) : parcels_Seal.f u key dealer row value = some (0, 0, 0, e) := by
  rw [seal_f, h, if_neg he]
theorem seal_yes {u key dealer row value : Int} (h : sealE u key dealer row value = 0) : parcels_Seal.f u key dealer row value = some (row, pwz 4 u, (value + padz (pwz key u) dealer row) % 1073741789, 0) := by
  rw [seal_f, if_pos h]
theorem sealE_yes {u key dealer row value : Int} (h1 : isSecret u = true) (h2 : vld key = true) (h3 : isPers dealer = true) (h4 : isPers row = true) (h5 : inQ value = true) : sealE u key dealer row value = 0 := by
  unfold sealE
  rw [h1, h2, h3, h4, h5]; rfl

theorem open_go {c p : Int} (hc : 0 ≤ c ∧ c < 1073741789) (hp : 0 ≤ p ∧ p < 1073741789) : Int.tmod (wrap64 ((wrap64 (c + 1073741789)) - p)) 1073741789 = (c - p + 1073741789) % 1073741789 := by
  have e1 : wrap64 (c + 1073741789) = c + 1073741789 := by unfold wrap64; omega
  have e2 : wrap64 (c + 1073741789 - p) = c - p + 1073741789 := by unfold wrap64; omega
  rw [e1, e2, Int.tmod_eq_emod_of_nonneg (by omega)]
theorem right_parts {row point cipher : Int} (h : rightP row point cipher = true) : isPers row = true ∧ vld point = true ∧ inQ cipher = true := by
  unfold rightP at h
  simp only [Bool.and_eq_true] at h
  exact ⟨h.1.1, h.1.2, h.2⟩

theorem with_no {d dealer row point cipher : Int} {e : Int} (h : withE d dealer row point cipher = e) (he : e ≠ 0) : parcels_With.f d dealer row point cipher = some (0, e) := by rw [withE_f, h, if_neg he]
theorem with_yes {d dealer row point cipher : Int} (h1 : vld d = true) (h2 : isPers dealer = true) (h3 : rightP row point cipher = true) : parcels_With.f d dealer row point cipher = some (opened d dealer row cipher, 0) := by
  rw [withE_f, if_pos (by unfold withE; rw [h1, h2, h3]; rfl)]
theorem open_no {s dealer row point cipher : Int} {e : Int} (h : openE s dealer row point cipher = e) (he : e ≠ 0) : parcels_Open.f s dealer row point cipher = some (0, e) := by rw [openE_f, h, if_neg he]
theorem open_yes {s dealer row point cipher : Int} (h1 : isSecret s = true) (h2 : isPers dealer = true) (h3 : rightP row point cipher = true) : parcels_Open.f s dealer row point cipher = some (opened (pwz point s) dealer row cipher, 0) := by
  rw [openE_f, if_pos (by unfold openE; rw [h1, h2, h3]; rfl)]

/-- What is sealed is opened. -/
theorem unsealed {p v : Int} (hp : 0 ≤ p ∧ p < 1073741789) (hv : 0 ≤ v ∧ v < 1073741789) : ((v + p) % 1073741789 - p + 1073741789) % 1073741789 = v := by omega
theorem pwz_swap (u s : Int) : pwz (pwz 4 u) s = pwz (pwz 4 s) u := by
  rw [← pwz_mul vld_four, ← pwz_mul vld_four, Int.mul_comm]

theorem sane35_end {key c1 c2 : Int} (q1 : group_Pow.f 4 77 = some (key, 0)) (q2 : parcels_Seal.f 5 key 3 2 1000 = some (2, 1024, c1, 0)) (q3 : parcels_Seal.f 5 key 3 2 1001 = some (2, 1024, c2, 0))
    (q4 : parcels_Open.f 77 3 2 1024 c1 = some (1000, 0)) (q5 : parcels_Open.f 77 3 2 1024 c2 = some (1001, 0)) (q6 : parcels_Seal.f 0 4 0 0 0 = some (0, 0, 0, 110)) (q7 : parcels_Seal.f 1 2 0 0 0 = some (0, 0, 0, 100))
    (q8 : parcels_Seal.f 1 4 64 0 0 = some (0, 0, 0, 1)) (q9 : parcels_Seal.f 1 4 0 0 1073741789 = some (0, 0, 0, 350)) (q10 : parcels_Open.f 1 0 0 0 0 = some (0, 350)) (hc : (Int.tmod (wrap64 ((wrap64 (c2 - c1)) + 1073741789)) 1073741789 == 1) = true) : signatorylaw35_sane.f = some true := by
  unfold signatorylaw35_sane.f
  rw [q1, Option.bind_some, q2, Option.bind_some, q3, Option.bind_some, q4, Option.bind_some, q5, Option.bind_some, q6, Option.bind_some, q7, Option.bind_some, q8, Option.bind_some, q9, Option.bind_some, q10, Option.bind_some]
  rw [if_pos rfl, if_pos rfl, if_pos rfl, if_pos rfl, if_pos rfl, if_pos rfl, if_pos rfl, if_pos rfl, if_pos rfl, if_pos rfl, if_pos rfl, if_pos rfl, if_pos rfl, if_pos rfl, if_pos rfl]
  rw [hc]

theorem pwz_four_five : pwz 4 5 = 1024 := by
  unfold pwz Nt.pw
  rw [show Nt.xp 5 = 5 from by decide]
  decide

theorem diff_go {c1 c2 p : Int} (hp : 0 ≤ p ∧ p < 1073741789) (h1 : c1 = (1000 + p) % 1073741789) (h2 : c2 = (1001 + p) % 1073741789) : (Int.tmod (wrap64 ((wrap64 (c2 - c1)) + 1073741789)) 1073741789 == 1) = true := by
  have e1 : wrap64 (c2 - c1) = c2 - c1 := by unfold wrap64; omega
  have e2 : wrap64 (c2 - c1 + 1073741789) = c2 - c1 + 1073741789 := by unfold wrap64; omega
  rw [e1, e2, Int.tmod_eq_emod_of_nonneg (by omega), beq_iff_eq]
  omega

theorem sane35 : signatorylaw35_sane.f = some true := by
  have hs5 : isSecret 5 = true := by decide
  have hs77 : isSecret 77 = true := by decide
  have hs1 : isSecret 1 = true := by decide
  have hs0 : isSecret 0 = false := by decide
  have hp3 : isPers 3 = true := by decide
  have hp2 : isPers 2 = true := by decide
  have hp0 : isPers 0 = true := by decide
  have hp64 : isPers 64 = false := by decide
  have hq0 : inQ 1000 = true := by decide
  have hq1 : inQ 1001 = true := by decide
  have hqQ : inQ 1073741789 = false := by decide
  have h77 : i64 77 := ⟨by decide, by decide⟩
  have hk : vld (pwz 4 77) = true := vld_pw vld_four 77
  have hpt : vld 1024 = true := by rw [← pwz_four_five]; exact vld_pw vld_four 5
  have hsw : pwz 1024 77 = pwz (pwz 4 77) 5 := by rw [← pwz_four_five]; exact pwz_swap 5 77
  have q1 : group_Pow.f 4 77 = some (pwz 4 77, 0) := by unfold group_Pow.f; rw [if_pos h77, if_pos vld_four]
  have q2 := seal_yes (sealE_yes hs5 hk hp3 hp2 hq0)
  have q3 := seal_yes (sealE_yes hs5 hk hp3 hp2 hq1)
  have hpd := padz_lt (pwz (pwz 4 77) 5) 3 2
  have u1 := unsealed hpd (v := 1000) ⟨by decide, by decide⟩
  have u2 := unsealed hpd (v := 1001) ⟨by decide, by decide⟩
  have r1 : rightP 2 1024 ((1000 + padz (pwz (pwz 4 77) 5) 3 2) % 1073741789) = true := by
    unfold rightP; rw [hp2, hpt, inQ_iff35.2 (by omega)]; rfl
  have r2 : rightP 2 1024 ((1001 + padz (pwz (pwz 4 77) 5) 3 2) % 1073741789) = true := by
    unfold rightP; rw [hp2, hpt, inQ_iff35.2 (by omega)]; rfl
  have q4 := open_yes hs77 hp3 r1
  have q5 := open_yes hs77 hp3 r2
  unfold opened at q4 q5
  rw [hsw, u1] at q4
  rw [hsw, u2] at q5
  rw [pwz_four_five] at q2 q3
  refine sane35_end q1 q2 q3 q4 q5 (seal_no (by unfold sealE; rw [hs0]; rfl) (by decide)) (seal_no (by unfold sealE; rw [hs1, vld_two]; rfl) (by decide)) (seal_no (by unfold sealE; rw [hs1, vld_four, hp64]; rfl) (by decide))
    (seal_no (by unfold sealE; rw [hs1, vld_four, hp0, hqQ]; rfl) (by decide)) (open_no (by unfold openE; rw [hs1, hp0]; unfold rightP; rw [hp0, vld_zero]; rfl) (by decide)) (diff_go hpd rfl rfl)

end Go.Proofs.YthladfegmedpnaaDoor.P
