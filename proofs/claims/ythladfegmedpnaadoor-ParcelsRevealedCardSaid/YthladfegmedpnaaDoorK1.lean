set_option linter.unusedVariables false
set_option linter.unusedSimpArgs false
namespace Go.Proofs.YthladfegmedpnaaDoor.Nt

/-- The product of f 1, .., f n. -/
def pr (f : Nat → Int) : Nat → Int
  | 0 => 1
  | n + 1 => pr f n * f (n + 1)

/-- The sum of f 1, .., f n. -/
def sm (f : Nat → Nat) : Nat → Nat
  | 0 => 0
  | n + 1 => sm f n + f (n + 1)

theorem pr_congr {f g : Nat → Int} : ∀ (n : Nat), (∀ k, 1 ≤ k → k ≤ n → f k = g k) → pr f n = pr g n
  | 0, _ => rfl
  | n + 1, h => by
    simp only [pr]
    rw [pr_congr n (fun k h1 h2 => h k h1 (by omega)), h (n + 1) (by omega) (by omega)]

theorem sm_congr {f g : Nat → Nat} : ∀ (n : Nat), (∀ k, 1 ≤ k → k ≤ n → f k = g k) → sm f n = sm g n
  | 0, _ => rfl
  | n + 1, h => by
    simp only [sm]
    rw [sm_congr n (fun k h1 h2 => h k h1 (by omega)), h (n + 1) (by omega) (by omega)]

theorem pr_mul (f g : Nat → Int) : ∀ (n : Nat), pr (fun k => f k * g k) n = pr f n * pr g n
  | 0 => by simp [pr]
  | n + 1 => by simp only [pr]; rw [pr_mul f g n]; simp [Int.mul_assoc, Int.mul_left_comm, Int.mul_comm]

theorem sm_add (f g : Nat → Nat) : ∀ (n : Nat), sm (fun k => f k + g k) n = sm f n + sm g n
  | 0 => by simp [sm]
  | n + 1 => by simp only [sm]; rw [sm_add f g n]; omega

theorem sm_zero : ∀ (n : Nat), sm (fun _ => 0) n = 0
  | 0 => rfl
  | n + 1 => by simp only [sm]; rw [sm_zero n]

theorem sm_const (c : Nat) : ∀ (n : Nat), sm (fun _ => c) n = n * c
  | 0 => by simp [sm]
  | n + 1 => by simp only [sm]; rw [sm_const c n]; rw [Nat.add_mul]; omega

theorem sm_swap (f : Nat → Nat → Nat) (m : Nat) : ∀ (n : Nat), sm (fun i => sm (fun j => f i j) m) n = sm (fun j => sm (fun i => f i j) n) m
  | 0 => by simp only [sm]; exact (sm_zero m).symm
  | n + 1 => by simp only [sm]; rw [sm_swap f m n, sm_add]

/-- The list 1, .., n. -/
def upto : Nat → List Nat
  | 0 => []
  | n + 1 => upto n ++ [n + 1]

theorem mem_upto {k : Nat} : ∀ {n : Nat}, k ∈ upto n ↔ 1 ≤ k ∧ k ≤ n
  | 0 => by simp [upto]; omega
  | n + 1 => by simp [upto, mem_upto (n := n)]; omega

theorem length_upto : ∀ (n : Nat), (upto n).length = n
  | 0 => rfl
  | n + 1 => by simp [upto, length_upto n]

def prl (l : List Int) : Int := l.foldr (· * ·) 1
def sml (l : List Nat) : Nat := l.foldr (· + ·) 0

theorem prl_append (a b : List Int) : prl (a ++ b) = prl a * prl b := by
  induction a with
  | nil => simp [prl]
  | cons x l ih => simp only [prl, List.cons_append, List.foldr_cons] at *; rw [ih, Int.mul_assoc]

theorem sml_append (a b : List Nat) : sml (a ++ b) = sml a + sml b := by
  induction a with
  | nil => simp [sml]
  | cons x l ih => simp only [sml, List.cons_append, List.foldr_cons] at *; rw [ih]; omega

theorem pr_eq (f : Nat → Int) : ∀ n, pr f n = prl ((upto n).map f)
  | 0 => rfl
  | n + 1 => by simp only [pr, upto, List.map_append]; rw [prl_append, pr_eq f n]; simp [prl]

theorem sm_eq (f : Nat → Nat) : ∀ n, sm f n = sml ((upto n).map f)
  | 0 => rfl
  | n + 1 => by simp only [sm, upto, List.map_append]; rw [sml_append, sm_eq f n]; simp [sml]

theorem prl_perm {a b : List Int} (h : a.Perm b) : prl a = prl b := by
  induction h with
  | nil => rfl
  | cons x _ ih => simp only [prl, List.foldr_cons] at *; rw [ih]
  | swap x y l => simp only [prl, List.foldr_cons]; rw [← Int.mul_assoc, ← Int.mul_assoc, Int.mul_comm y x]
  | trans _ _ i j => exact i.trans j

theorem sml_perm {a b : List Nat} (h : a.Perm b) : sml a = sml b := by
  induction h with
  | nil => rfl
  | cons x _ ih => simp only [sml, List.foldr_cons] at *; rw [ih]
  | swap x y l => simp only [sml, List.foldr_cons]; omega
  | trans _ _ i j => exact i.trans j

theorem perm_of_inj : ∀ (l m : List Nat), l.Nodup → (∀ x ∈ l, x ∈ m) → l.length = m.length → l.Perm m
  | [], m, _, _, h => by
    have : m = [] := List.length_eq_zero_iff.1 h.symm
    rw [this]
  | x :: l, m, hd, hs, hl => by
    have hx : x ∈ m := hs x (by simp)
    have hm : m.Perm (x :: m.erase x) := List.perm_cons_erase hx
    refine List.Perm.trans (List.Perm.cons x ?_) hm.symm
    refine perm_of_inj l (m.erase x) (List.nodup_cons.1 hd).2 ?_ ?_
    · intro y hy
      have hne : y ≠ x := fun e => (List.nodup_cons.1 hd).1 (e ▸ hy)
      exact (List.mem_erase_of_ne hne).2 (hs y (by simp [hy]))
    · have := hm.length_eq
      simp at hl this
      omega

theorem nodup_upto : ∀ n, (upto n).Nodup
  | 0 => by simp [upto]
  | n + 1 => by
    simp only [upto]
    refine List.nodup_append.2 ⟨nodup_upto n, by simp, ?_⟩
    intro a ha b hb
    have := (mem_upto.1 ha).2
    simp at hb
    omega

theorem nodup_map {s : Nat → Nat} : ∀ (l : List Nat), l.Nodup → (∀ a ∈ l, ∀ b ∈ l, s a = s b → a = b) → (l.map s).Nodup
  | [], _, _ => by simp
  | x :: l, hd, hi => by
    simp only [List.map_cons, List.nodup_cons]
    refine ⟨?_, nodup_map l (List.nodup_cons.1 hd).2 (fun a ha b hb => hi a (by simp [ha]) b (by simp [hb]))⟩
    intro hx
    obtain ⟨y, hy, e⟩ := List.mem_map.1 hx
    have := hi y (by simp [hy]) x (by simp) e
    exact (List.nodup_cons.1 hd).1 (this ▸ hy)

theorem perm_upto {s : Nat → Nat} {n : Nat} (hr : ∀ k, 1 ≤ k → k ≤ n → 1 ≤ s k ∧ s k ≤ n)
    (hi : ∀ a b, 1 ≤ a → a ≤ n → 1 ≤ b → b ≤ n → s a = s b → a = b) : ((upto n).map s).Perm (upto n) := by
  refine perm_of_inj _ _ (nodup_map _ (nodup_upto n) ?_) ?_ (by simp)
  · intro a ha b hb e
    have := mem_upto.1 ha; have := mem_upto.1 hb
    exact hi a b (by omega) (by omega) (by omega) (by omega) e
  · intro x hx
    obtain ⟨y, hy, rfl⟩ := List.mem_map.1 hx
    have := mem_upto.1 hy
    exact mem_upto.2 (hr y this.1 this.2)

theorem pr_perm {s : Nat → Nat} {n : Nat} (f : Nat → Int) (hr : ∀ k, 1 ≤ k → k ≤ n → 1 ≤ s k ∧ s k ≤ n)
    (hi : ∀ a b, 1 ≤ a → a ≤ n → 1 ≤ b → b ≤ n → s a = s b → a = b) : pr (fun k => f (s k)) n = pr f n := by
  rw [pr_eq, pr_eq]
  have h := (perm_upto hr hi).map f
  rw [List.map_map] at h
  exact prl_perm h

theorem sm_perm {s : Nat → Nat} {n : Nat} (f : Nat → Nat) (hr : ∀ k, 1 ≤ k → k ≤ n → 1 ≤ s k ∧ s k ≤ n)
    (hi : ∀ a b, 1 ≤ a → a ≤ n → 1 ≤ b → b ≤ n → s a = s b → a = b) : sm (fun k => f (s k)) n = sm f n := by
  rw [sm_eq, sm_eq]
  have h := (perm_upto hr hi).map f
  rw [List.map_map] at h
  exact sml_perm h

/-! Gauss: residues to both sides of 0. -/

/-- the sign of a * k modulo n. -/
def ep (a n k : Nat) : Int := if a * k % n ≤ n / 2 then 1 else -1
/-- its absolute value. -/
def sg (a n k : Nat) : Nat := if a * k % n ≤ n / 2 then a * k % n else n - a * k % n
/-- the symbol of Jacobi. -/
def J (a n : Nat) : Int := pr (ep a n) (n / 2)

theorem ep_cases (a n k : Nat) : ep a n k = 1 ∨ ep a n k = -1 := by unfold ep; split <;> simp

theorem ep_sg (a n k : Nat) (hn : 0 < n) : (n : Int) ∣ (a : Int) * k - ep a n k * sg a n k := by
  have h := Nat.div_add_mod (a * k) n
  have hlt := Nat.mod_lt (a * k) hn
  have hc : ((a * k : Nat) : Int) = (n : Int) * ((a * k / n : Nat) : Int) + ((a * k % n : Nat) : Int) := by rw [← Int.natCast_mul, ← Int.natCast_add, h]
  rw [Int.natCast_mul] at hc
  unfold ep sg
  split
  · refine ⟨((a * k / n : Nat) : Int), ?_⟩; rw [hc]; omega
  · refine ⟨((a * k / n : Nat) : Int) + 1, ?_⟩
    rw [hc, Int.ofNat_sub (by omega), Int.mul_add]; omega

theorem coprime_mod {a n k : Nat} (hc : Nat.Coprime a n) (h1 : 1 ≤ k) (h2 : k < n) : a * k % n ≠ 0 := by
  intro h
  have hd : n ∣ a * k := Nat.dvd_of_mod_eq_zero h
  have := Nat.Coprime.dvd_of_dvd_mul_left hc.symm hd
  have := Nat.le_of_dvd (by omega) this
  omega

theorem sg_range {a n k : Nat} (ho : n % 2 = 1) (hc : Nat.Coprime a n) (h1 : 1 ≤ k) (h2 : k ≤ n / 2) : 1 ≤ sg a n k ∧ sg a n k ≤ n / 2 := by
  have h0 := coprime_mod hc h1 (by omega)
  have hlt := Nat.mod_lt (a * k) (show 0 < n by omega)
  unfold sg
  split <;> omega

/-- a representation by a sign and a number up to half is the only one. -/
theorem rep_unique {n x y : Nat} {s t : Int} (ho : n % 2 = 1) (hs : s = 1 ∨ s = -1) (ht : t = 1 ∨ t = -1) (hx : 1 ≤ x ∧ x ≤ n / 2) (hy : 1 ≤ y ∧ y ≤ n / 2)
    (h : (n : Int) ∣ s * x - t * y) : s = t ∧ x = y := by
  obtain ⟨c, hc⟩ := h
  have key : ∀ (z : Int), (n : Int) * c = z → -(n : Int) < z → z < n → z = 0 := by
    intro z e h1 h2
    have hc0 : c = 0 := by
      rcases Int.lt_trichotomy c 0 with h | h | h
      · have : (n : Int) * c ≤ (n : Int) * (-1) := Int.mul_le_mul_of_nonneg_left (by omega) (by omega)
        omega
      · exact h
      · have : (n : Int) * 1 ≤ (n : Int) * c := Int.mul_le_mul_of_nonneg_left (by omega) (by omega)
        omega
    rw [hc0] at e; omega
  rcases hs with rfl | rfl <;> rcases ht with rfl | rfl
  · have := key _ hc.symm (by omega) (by omega); omega
  · have := key _ hc.symm (by omega) (by omega); omega
  · have := key _ hc.symm (by omega) (by omega); omega
  · have := key _ hc.symm (by omega) (by omega); omega

theorem dvd_cancel {a n : Nat} {z : Int} (hc : Nat.Coprime a n) (h : (n : Int) ∣ (a : Int) * z) : (n : Int) ∣ z := by
  have h' : n ∣ a * z.natAbs := by
    have := Int.natAbs_dvd_natAbs.2 h
    rwa [Int.natAbs_mul, Int.natAbs_natCast, Int.natAbs_natCast] at this
  have := Nat.Coprime.dvd_of_dvd_mul_left hc.symm h'
  exact Int.dvd_natAbs.1 (Int.natCast_dvd_natCast.2 this)

theorem sg_inj {a n : Nat} (ho : n % 2 = 1) (hc : Nat.Coprime a n) (k l : Nat) (hk1 : 1 ≤ k) (hk2 : k ≤ n / 2) (hl1 : 1 ≤ l) (hl2 : l ≤ n / 2) (h : sg a n k = sg a n l) : k = l := by
  have e1 := ep_sg a n k (by omega)
  have e2 := ep_sg a n l (by omega)
  rw [← h] at e2
  -- multiply the second by ep k * ep l
  have hkl : (n : Int) ∣ (a : Int) * (1 * k - (ep a n k * ep a n l) * l) := by
    have h3 := Int.dvd_sub e1 (Int.dvd_mul_of_dvd_right (b := ep a n k * ep a n l) e2)
    have : (a : Int) * k - ep a n k * sg a n k - ep a n k * ep a n l * ((a : Int) * l - ep a n l * sg a n k) = (a : Int) * (1 * k - (ep a n k * ep a n l) * l) := by
      rcases ep_cases a n k with u | u <;> rcases ep_cases a n l with v | v <;> rw [u, v] <;> simp [Int.mul_sub, Int.mul_add, Int.sub_neg] <;> omega
    rwa [this] at h3
  have h4 := dvd_cancel hc hkl
  exact (rep_unique ho (Or.inl rfl) (by rcases ep_cases a n k with u | u <;> rcases ep_cases a n l with v | v <;> rw [u, v] <;> simp) ⟨hk1, hk2⟩ ⟨hl1, hl2⟩ h4).2

theorem J_cases (a n : Nat) : J a n = 1 ∨ J a n = -1 := by
  unfold J
  generalize n / 2 = h
  induction h with
  | zero => exact Or.inl rfl
  | succ h ih => simp only [pr]; rcases ih with u | u <;> rcases ep_cases a n (h + 1) with v | v <;> rw [u, v] <;> simp

theorem J_mod {a b n : Nat} (h : a % n = b % n) : J a n = J b n := by
  unfold J
  refine pr_congr _ fun k _ _ => ?_
  unfold ep
  rw [Nat.mul_mod a, h, ← Nat.mul_mod]

theorem J_one {n : Nat} (ho : n % 2 = 1) : J 1 n = 1 := by
  unfold J
  have : pr (ep 1 n) (n / 2) = pr (fun _ => 1) (n / 2) := pr_congr _ fun k h1 h2 => by
    unfold ep; rw [Nat.one_mul, Nat.mod_eq_of_lt (by omega), if_pos h2]
  rw [this]
  generalize n / 2 = h
  induction h with
  | zero => rfl
  | succ h ih => simp only [pr]; rw [ih]; rfl

theorem J_mul {a b n : Nat} (ho : n % 2 = 1) (ha : Nat.Coprime a n) (hb : Nat.Coprime b n) : J (a * b) n = J a n * J b n := by
  have hab : Nat.Coprime (a * b) n := Nat.Coprime.mul_left ha hb
  have h : pr (ep (a * b) n) (n / 2) = pr (fun k => ep a n (sg b n k) * ep b n k) (n / 2) := by
    refine pr_congr _ fun k h1 h2 => ?_
    have r := sg_range ho hb h1 h2
    have e1 := ep_sg (a * b) n k (by omega)
    have e2 := ep_sg b n k (by omega)
    have e3 := ep_sg a n (sg b n k) (by omega)
    have h3 : (n : Int) ∣ ep (a * b) n k * sg (a * b) n k - (ep a n (sg b n k) * ep b n k) * sg a n (sg b n k) := by
      have hh := Int.dvd_sub (Int.dvd_add (Int.dvd_mul_of_dvd_right (b := (a : Int)) e2) (Int.dvd_mul_of_dvd_right (b := ep b n k) e3)) e1
      have e : (a : Int) * ((b : Int) * k - ep b n k * sg b n k) + ep b n k * ((a : Int) * sg b n k - ep a n (sg b n k) * sg a n (sg b n k)) - (((a * b : Nat) : Int) * k - ep (a * b) n k * sg (a * b) n k)
        = ep (a * b) n k * sg (a * b) n k - (ep a n (sg b n k) * ep b n k) * sg a n (sg b n k) := by
        rw [Int.natCast_mul]
        simp only [Int.mul_sub]
        rw [show (ep b n k : Int) * ((a : Int) * sg b n k) = (a : Int) * (ep b n k * sg b n k) by rw [Int.mul_left_comm]]
        rw [show (a : Int) * ((b : Int) * k) = (a : Int) * b * k by rw [Int.mul_assoc]]
        rw [show ep a n (sg b n k) * ep b n k * (sg a n (sg b n k) : Int) = ep b n k * (ep a n (sg b n k) * sg a n (sg b n k)) by rw [Int.mul_comm (ep a n (sg b n k)), Int.mul_assoc]]
        omega
      rwa [e] at hh
    refine (rep_unique ho (ep_cases _ _ _) ?_ (sg_range ho hab h1 h2) (sg_range ho ha r.1 r.2) h3).1
    rcases ep_cases a n (sg b n k) with u | u <;> rcases ep_cases b n k with v | v <;> rw [u, v] <;> simp
  unfold J
  rw [h, pr_mul (fun k => ep a n (sg b n k)) (ep b n), pr_perm (ep a n) (fun k h1 h2 => sg_range ho hb h1 h2) (fun k l a1 a2 b1 b2 e => sg_inj ho hb k l a1 a2 b1 b2 e)]

/-- (-1) to a power. -/
def sgn (n : Nat) : Int := if n % 2 = 0 then 1 else -1

theorem sgn_add (a b : Nat) : sgn (a + b) = sgn a * sgn b := by
  unfold sgn
  rcases Nat.mod_two_eq_zero_or_one a with u | u <;> rcases Nat.mod_two_eq_zero_or_one b with v | v
  · rw [if_pos (by omega), if_pos u, if_pos v]; rfl
  · rw [if_neg (by omega), if_pos u, if_neg (by omega)]; rfl
  · rw [if_neg (by omega), if_neg (by omega), if_pos v]; rfl
  · rw [if_pos (by omega), if_neg (by omega), if_neg (by omega)]; rfl

/-- how many of the residues are above half. -/
def mu (a n : Nat) : Nat := sm (fun k => if a * k % n ≤ n / 2 then 0 else 1) (n / 2)

theorem pr_sgn (p : Nat → Bool) : ∀ m, pr (fun k => if p k = true then (1 : Int) else -1) m = sgn (sm (fun k => if p k = true then 0 else 1) m)
  | 0 => rfl
  | m + 1 => by
    simp only [pr, sm]
    rw [sgn_add, pr_sgn p m]
    cases p (m + 1) <;> rfl

theorem J_mu (a n : Nat) : J a n = sgn (mu a n) := by
  have := pr_sgn (fun k => decide (a * k % n ≤ n / 2)) (n / 2)
  simp only [decide_eq_true_eq] at this
  exact this

theorem sm_mod2 {f g : Nat → Nat} : ∀ (n : Nat), (∀ k, 1 ≤ k → k ≤ n → f k % 2 = g k % 2) → sm f n % 2 = sm g n % 2
  | 0, _ => rfl
  | n + 1, h => by
    simp only [sm]
    have := sm_mod2 n (fun k h1 h2 => h k h1 (by omega))
    have := h (n + 1) (by omega) (by omega)
    omega

/-- for odd a and n: the floors have the parity of mu. -/
theorem mu_floor {a n : Nat} (hn : n % 2 = 1) (ha : a % 2 = 1) (hc : Nat.Coprime a n) : mu a n % 2 = sm (fun k => a * k / n) (n / 2) % 2 := by
  have h1 : sm (fun k => k) (n / 2) % 2 = (sm (fun k => a * k / n) (n / 2) + (sm (fun k => sg a n k) (n / 2) + mu a n)) % 2 := by
    unfold mu
    rw [← sm_add, ← sm_add]
    refine sm_mod2 _ fun k h1 h2 => ?_
    have hd := Nat.div_add_mod (a * k) n
    have hlt := Nat.mod_lt (a * k) (show 0 < n by omega)
    have hp : (a * k) % 2 = k % 2 := by rw [Nat.mul_mod, ha]; omega
    have hq : (n * (a * k / n)) % 2 = (a * k / n) % 2 := by rw [Nat.mul_mod, hn]; omega
    unfold sg
    split <;> omega
  have h2 : sm (fun k => sg a n k) (n / 2) = sm (fun k => k) (n / 2) :=
    sm_perm (fun k => k) (fun k h1 h2 => sg_range hn hc h1 h2) (fun k l a1 a2 b1 b2 e => sg_inj hn hc k l a1 a2 b1 b2 e)
  omega

theorem count_le (n : Nat) (hn : 0 < n) (z : Nat) : ∀ (m : Nat), sm (fun j => if n * j ≤ z then 1 else 0) m = min m (z / n)
  | 0 => by simp [sm]
  | m + 1 => by
    simp only [sm]
    rw [count_le n hn z m]
    have hd := Nat.div_add_mod z n
    have hlt := Nat.mod_lt z hn
    by_cases h : n * (m + 1) ≤ z
    · rw [if_pos h]
      have : m + 1 ≤ z / n := (Nat.le_div_iff_mul_le hn).2 (by rw [Nat.mul_comm]; exact h)
      omega
    · rw [if_neg h]
      have : ¬ m + 1 ≤ z / n := fun h' => h (by rw [Nat.mul_comm]; exact (Nat.le_div_iff_mul_le hn).1 h')
      omega

theorem floor_count {a n : Nat} (hn : n % 2 = 1) (ha : a % 2 = 1) (k : Nat) (h2 : k ≤ n / 2) : a * k / n = sm (fun j => if n * j ≤ a * k then 1 else 0) (a / 2) := by
  rw [count_le n (by omega)]
  have : a * k / n ≤ a / 2 := by
    have h3 : a * k ≤ a * (n / 2) := Nat.mul_le_mul_left a h2
    have h4 : a * k / n < a / 2 + 1 := by
      rw [Nat.div_lt_iff_lt_mul (by omega)]
      have e1 : 2 * (a * (n / 2)) = a * (2 * (n / 2)) := by rw [Nat.mul_left_comm]
      have e2 : 2 * (n / 2) = n - 1 := by omega
      have e3 : 2 * ((a / 2 + 1) * n) = (2 * (a / 2 + 1)) * n := by rw [Nat.mul_assoc]
      have e4 : 2 * (a / 2 + 1) = a + 1 := by omega
      rw [e2] at e1; rw [e4, Nat.add_mul a 1 n] at e3
      have e5 : a * (n - 1) = a * n - a := by rw [Nat.mul_sub, Nat.mul_one]
      have e6 : a * 1 ≤ a * n := Nat.mul_le_mul_left a (by omega)
      omega
    omega
  omega

/-- the law of reciprocity, as a count of points. -/
theorem mu_recip {m n : Nat} (hm : m % 2 = 1) (hn : n % 2 = 1) (hc : Nat.Coprime m n) : (mu m n + mu n m) % 2 = (m / 2 * (n / 2)) % 2 := by
  have h1 := mu_floor hn hm hc
  have h2 := mu_floor hm hn hc.symm
  have h3 : sm (fun k => m * k / n) (n / 2) = sm (fun k => sm (fun j => if n * j ≤ m * k then 1 else 0) (m / 2)) (n / 2) :=
    sm_congr _ fun k _ hk => floor_count hn hm k hk
  have h4 : sm (fun j => n * j / m) (m / 2) = sm (fun j => sm (fun k => if m * k ≤ n * j then 1 else 0) (n / 2)) (m / 2) :=
    sm_congr _ fun k _ hk => floor_count hm hn k hk
  rw [sm_swap] at h3
  have h5 : sm (fun k => m * k / n) (n / 2) + sm (fun j => n * j / m) (m / 2) = m / 2 * (n / 2) := by
    rw [h3, h4, ← sm_add]
    rw [← sm_const (n / 2) (m / 2)]
    refine sm_congr _ fun j hj1 hj2 => ?_
    rw [← sm_add]
    have := sm_const 1 (n / 2)
    rw [Nat.mul_one] at this
    refine Eq.trans (sm_congr _ fun k hk1 hk2 => ?_) this
    have hne : n * j ≠ m * k := by
      intro e
      have hd : n ∣ m * k := ⟨j, e.symm⟩
      have := Nat.Coprime.dvd_of_dvd_mul_left hc.symm hd
      have := Nat.le_of_dvd (by omega) this
      omega
    by_cases h : n * j ≤ m * k
    · rw [if_pos h, if_neg (by omega)]
    · rw [if_neg h, if_pos (by omega)]
  omega

theorem J_recip {m n : Nat} (hm : m % 2 = 1) (hn : n % 2 = 1) (hc : Nat.Coprime m n) : J m n = (if m % 4 = 3 ∧ n % 4 = 3 then -1 else 1) * J n m := by
  have h := mu_recip hm hn hc
  rw [J_mu, J_mu]
  have e : (m / 2 * (n / 2)) % 2 = if m % 4 = 3 ∧ n % 4 = 3 then 1 else 0 := by
    rw [Nat.mul_mod]
    have : m / 2 % 2 = if m % 4 = 3 then 1 else 0 := by split <;> omega
    rw [this]
    have : n / 2 % 2 = if n % 4 = 3 then 1 else 0 := by split <;> omega
    rw [this]
    by_cases a : m % 4 = 3 <;> by_cases b : n % 4 = 3 <;> simp [a, b]
  rw [e] at h
  unfold sgn
  by_cases a : m % 4 = 3 ∧ n % 4 = 3
  · rw [if_pos a] at h ⊢
    rcases Nat.mod_two_eq_zero_or_one (mu m n) with u | u
    · rw [if_pos u, if_neg (by omega)]; rfl
    · rw [if_neg (by omega), if_pos (by omega)]; rfl
  · rw [if_neg a] at h ⊢
    rcases Nat.mod_two_eq_zero_or_one (mu m n) with u | u
    · rw [if_pos u, if_pos (by omega)]; rfl
    · rw [if_neg (by omega), if_neg (by omega)]; rfl

theorem J_two {n : Nat} (hn : n % 2 = 1) : J 2 n = if n % 8 = 3 ∨ n % 8 = 5 then -1 else 1 := by
  rw [J_mu]
  have h : mu 2 n = n / 2 - n / 2 / 2 := by
    unfold mu
    have e : sm (fun k => if 2 * k % n ≤ n / 2 then 0 else 1) (n / 2) = sm (fun k => if k ≤ n / 2 / 2 then 0 else 1) (n / 2) := by
      refine sm_congr _ fun k h1 h2 => ?_
      rw [Nat.mod_eq_of_lt (by omega)]
      by_cases a : 2 * k ≤ n / 2
      · rw [if_pos a, if_pos (by omega)]
      · rw [if_neg a, if_neg (by omega)]
    rw [e]
    have g : ∀ c m, sm (fun k => if k ≤ c then 0 else 1) m = m - c := by
      intro c m
      induction m with
      | zero => simp [sm]
      | succ m ih => simp only [sm]; rw [ih]; split <;> omega
    exact g _ _
  rw [h]
  unfold sgn
  split <;> split <;> first | rfl | omega

/-! the criterion of Euler. -/

theorem pr_fac_dvd {n : Nat} : ∀ (m : Nat) (z : Int), (∀ k, 1 ≤ k → k ≤ m → Nat.Coprime k n) → (n : Int) ∣ pr (fun k => (k : Int)) m * z → (n : Int) ∣ z
  | 0, z, _, h => by simpa [pr] using h
  | m + 1, z, hc, h => by
    simp only [pr] at h
    rw [Int.mul_assoc] at h
    exact dvd_cancel (hc (m + 1) (by omega) (by omega)) (pr_fac_dvd m _ (fun k h1 h2 => hc k h1 (by omega)) h)

theorem pr_ep {a n : Nat} (hn : 0 < n) : ∀ (m : Nat), (n : Int) ∣ (a : Int) ^ m * pr (fun k => (k : Int)) m - pr (ep a n) m * pr (fun k => (sg a n k : Int)) m
  | 0 => by simp [pr]
  | m + 1 => by
    have ih := pr_ep (a := a) hn m
    have e := ep_sg a n (m + 1) hn
    simp only [pr]
    generalize hA : (a : Int) ^ m = A at *
    generalize hB : pr (fun k => (k : Int)) m = B at *
    generalize hC : pr (ep a n) m = C at *
    generalize hD : pr (fun k => (sg a n k : Int)) m = D at *
    generalize hE : ep a n (m + 1) = E at *
    generalize hF : (sg a n (m + 1) : Int) = F at *
    rw [Int.pow_succ, hA]
    have h := Int.dvd_add (Int.dvd_mul_of_dvd_right (b := (a : Int) * ((m + 1 : Nat) : Int)) ih) (Int.dvd_mul_of_dvd_right (b := C * D) e)
    have q : (a : Int) * ((m + 1 : Nat) : Int) * (A * B - C * D) + C * D * ((a : Int) * ((m + 1 : Nat) : Int) - E * F) = A * (a : Int) * (B * ((m + 1 : Nat) : Int)) - C * E * (D * F) := by
      simp only [Int.mul_sub]
      have q1 : (a : Int) * ((m + 1 : Nat) : Int) * (A * B) = A * (a : Int) * (B * ((m + 1 : Nat) : Int)) := by
        simp only [Int.mul_assoc, Int.mul_comm, Int.mul_left_comm]
      have q2 : C * D * ((a : Int) * ((m + 1 : Nat) : Int)) = (a : Int) * ((m + 1 : Nat) : Int) * (C * D) := Int.mul_comm _ _
      have q3 : C * D * (E * F) = C * E * (D * F) := by simp only [Int.mul_comm, Int.mul_left_comm]
      rw [q1, q2, q3]; omega
    rwa [q] at h

theorem euler {a p : Nat} (ho : p % 2 = 1) (hp : ∀ k, 1 ≤ k → k < p → Nat.Coprime k p) (hc : Nat.Coprime a p) : (p : Int) ∣ (a : Int) ^ (p / 2) - J a p := by
  have h := pr_ep (a := a) (n := p) (by omega) (p / 2)
  have hs : pr (fun k => (sg a p k : Int)) (p / 2) = pr (fun k => (k : Int)) (p / 2) :=
    pr_perm (fun k => (k : Int)) (fun k h1 h2 => sg_range ho hc h1 h2) (fun k l a1 a2 b1 b2 e => sg_inj ho hc k l a1 a2 b1 b2 e)
  rw [hs] at h
  refine pr_fac_dvd (p / 2) _ (fun k h1 h2 => hp k h1 (by omega)) ?_
  have e : (a : Int) ^ (p / 2) * pr (fun k => (k : Int)) (p / 2) - pr (ep a p) (p / 2) * pr (fun k => (k : Int)) (p / 2) = pr (fun k => (k : Int)) (p / 2) * ((a : Int) ^ (p / 2) - J a p) := by
    unfold J
    rw [Int.mul_sub, Int.mul_comm _ (pr (ep a p) (p / 2)), Int.mul_comm _ ((a : Int) ^ (p / 2))]
  rwa [e] at h

theorem euler_nat {a p : Nat} (h3 : 3 ≤ p) (ho : p % 2 = 1) (hp : ∀ k, 1 ≤ k → k < p → Nat.Coprime k p) (hc : Nat.Coprime a p) :
    (J a p = 1 ∧ a ^ (p / 2) % p = 1) ∨ (J a p = -1 ∧ a ^ (p / 2) % p = p - 1) := by
  have h := euler ho hp hc
  rcases J_cases a p with u | u
  · refine Or.inl ⟨u, ?_⟩
    rw [u] at h
    have h' := Int.emod_emod_of_dvd ((a : Int) ^ (p / 2)) (Int.dvd_refl (p : Int))
    have e := Int.emod_eq_emod_iff_emod_sub_eq_zero.2 (Int.emod_eq_zero_of_dvd h)
    have : ((a ^ (p / 2) % p : Nat) : Int) = ((1 % p : Nat) : Int) := by
      rw [Int.natCast_emod, Int.natCast_pow, e, Int.natCast_emod]; rfl
    have h1 : 1 % p = 1 := Nat.mod_eq_of_lt (by omega)
    omega
  · refine Or.inr ⟨u, ?_⟩
    rw [u] at h
    have e := Int.emod_eq_emod_iff_emod_sub_eq_zero.2 (Int.emod_eq_zero_of_dvd h)
    have e2 : (-1 : Int) % (p : Int) = (p : Int) - 1 := by
      rw [← Int.add_emod_right]
      exact Int.emod_eq_of_lt (by omega) (by omega)
    have : ((a ^ (p / 2) % p : Nat) : Int) = ((p - 1 : Nat) : Int) := by
      rw [Int.natCast_emod, Int.natCast_pow, e, e2, Int.ofNat_sub (by omega)]; rfl
    omega

end Go.Proofs.YthladfegmedpnaaDoor.Nt
namespace Go.Proofs.YthladfegmedpnaaDoor.Nt

def P : Nat := 2147483579
def Q : Nat := 1073741789

/-- no number from lo on, 2 ^ d many, divides n. -/
def nd (n : Nat) : Nat → Nat → Bool
  | 0, lo => n % lo != 0
  | d + 1, lo => nd n d lo && nd n d (lo + 2 ^ d)

theorem nd_spec {n : Nat} : ∀ (d lo : Nat), nd n d lo = true → ∀ k, lo ≤ k → k < lo + 2 ^ d → n % k ≠ 0
  | 0, lo, h, k, h1, h2 => by
    have : k = lo := by simp at h2; omega
    subst this
    simpa [nd] using h
  | d + 1, lo, h, k, h1, h2 => by
    simp only [nd, Bool.and_eq_true] at h
    have e : 2 ^ (d + 1) = 2 ^ d + 2 ^ d := by rw [Nat.pow_succ]; omega
    by_cases hk : k < lo + 2 ^ d
    · exact nd_spec d lo h.1 k h1 hk
    · exact nd_spec d (lo + 2 ^ d) h.2 k (by omega) (by omega)

theorem prime_of_nd {n : Nat} (h : nd n 16 2 = true) (hn : n < 65536 * 65536) (h2 : 2 ≤ n) : ∀ k, 1 ≤ k → k < n → Nat.Coprime k n := by
  intro k h1 hk
  have hs := nd_spec 16 2 h
  have e : Nat.gcd k n ∣ n := Nat.gcd_dvd_right k n
  have e' : Nat.gcd k n ≤ k := Nat.le_of_dvd (by omega) (Nat.gcd_dvd_left k n)
  show Nat.gcd k n = 1
  generalize Nat.gcd k n = g at *
  obtain ⟨c, hc⟩ := e
  rcases Nat.lt_or_ge g 2 with hg | hg
  · rcases Nat.eq_zero_or_pos g with h0 | h0
    · subst h0; omega
    · omega
  · exfalso
    have c1 : c ≠ 0 := by intro h0; subst h0; omega
    have c2 : c ≠ 1 := by intro h0; subst h0; omega
    rcases Nat.lt_or_ge g 65538 with a | a
    · exact hs g hg (by omega) (by rw [hc]; exact Nat.mul_mod_right g c)
    · rcases Nat.lt_or_ge c 65538 with b | b
      · exact hs c (by omega) (by omega) (by rw [hc]; exact Nat.mul_mod_left g c)
      · have : 65538 * 65538 ≤ g * c := Nat.mul_le_mul a b
        omega

theorem nd_P : nd P 16 2 = true := by decide +kernel
theorem nd_Q : nd Q 16 2 = true := by decide +kernel
theorem prime_P : ∀ k, 1 ≤ k → k < P → Nat.Coprime k P := prime_of_nd nd_P (by decide) (by decide)
theorem prime_Q : ∀ k, 1 ≤ k → k < Q → Nat.Coprime k Q := prime_of_nd nd_Q (by decide) (by decide)

end Go.Proofs.YthladfegmedpnaaDoor.Nt
namespace Go.Proofs.YthladfegmedpnaaDoor.Nt

theorem P_odd : P % 2 = 1 := by decide
theorem Q_odd : Q % 2 = 1 := by decide
theorem P_half : P / 2 = Q := by decide
theorem P_pos : 0 < P := by decide
theorem Q_pos : 0 < Q := by decide
theorem P_eq : P = 2 * Q + 1 := by decide

/-- the elements of the group. -/
def El (x : Nat) : Prop := 1 ≤ x ∧ x < P ∧ x ^ Q % P = 1

instance (x : Nat) : Decidable (El x) := inferInstanceAs (Decidable (_ ∧ _ ∧ _))

theorem el_iff_J {x : Nat} (h1 : 1 ≤ x) (h2 : x < P) : x ^ Q % P = 1 ↔ J x P = 1 := by
  have h := euler_nat (a := x) (p := P) (by decide) P_odd prime_P (prime_P x h1 h2)
  rw [P_half] at h
  have h3 : P - 1 ≠ 1 := by decide
  rcases h with ⟨a, b⟩ | ⟨a, b⟩
  · simp [a, b]
  · rw [a, b]; simp [h3]

theorem fermat_Q {x : Nat} (h1 : 1 ≤ x) (h2 : x < Q) : x ^ (Q - 1) % Q = 1 := by
  have h := euler_nat (a := x) (p := Q) (by decide) Q_odd prime_Q (prime_Q x h1 h2)
  have e : Q - 1 = Q / 2 + Q / 2 := by decide
  rw [e, Nat.pow_add, Nat.mul_mod]
  rcases h with ⟨_, b⟩ | ⟨_, b⟩ <;> rw [b]
  · decide
  · decide

theorem pow_mod_P (a n : Nat) : (a % P) ^ n % P = a ^ n % P := (Nat.pow_mod a n P).symm

theorem el_pos_of_pow {x : Nat} (h2 : x < P) (h : x ^ Q % P = 1) : 1 ≤ x := by
  rcases Nat.eq_zero_or_pos x with h0 | h0
  · subst h0
    rw [Nat.zero_pow Q_pos] at h
    exact absurd h (by decide)
  · exact h0

theorem el_mul {a b : Nat} (ha : El a) (hb : El b) : El (a * b % P) := by
  have hlt : a * b % P < P := Nat.mod_lt _ P_pos
  have hp : (a * b % P) ^ Q % P = 1 := by
    rw [pow_mod_P, Nat.mul_pow, Nat.mul_mod, ha.2.2, hb.2.2]
    decide
  exact ⟨el_pos_of_pow hlt hp, hlt, hp⟩

theorem el_one : El 1 := ⟨by decide, by decide, by rw [Nat.one_pow]; decide⟩

theorem el_pow {a : Nat} (ha : El a) (n : Nat) : El (a ^ n % P) := by
  induction n with
  | zero => exact el_one
  | succ n ih =>
    have := el_mul ih ha
    rw [Nat.pow_succ]
    rwa [Nat.mod_mul_mod] at this

theorem pow_mod_Q {a : Nat} (ha : El a) (n : Nat) : a ^ n % P = a ^ (n % Q) % P := by
  have h := Nat.div_add_mod n Q
  have e : a ^ n = (a ^ Q) ^ (n / Q) * a ^ (n % Q) := by
    rw [← Nat.pow_mul, ← Nat.pow_add, h]
  rw [e, Nat.mul_mod, Nat.pow_mod, ha.2.2, Nat.one_pow, show 1 % P = 1 by decide, Nat.one_mul, Nat.mod_mod]

theorem pow_congr {a m n : Nat} (ha : El a) (h : m % Q = n % Q) : a ^ m % P = a ^ n % P := by
  rw [pow_mod_Q ha m, h, ← pow_mod_Q ha n]

/-- The exponent that stands for an integer. -/
def xp (n : Int) : Nat := (n % (Q : Int)).toNat

theorem xp_lt (n : Int) : xp n < Q := by
  unfold xp
  have := Int.emod_lt_of_pos n (show (0 : Int) < Q by decide)
  have := Int.emod_nonneg n (show (Q : Int) ≠ 0 by decide)
  omega

theorem xp_cast (n : Int) : (xp n : Int) = n % (Q : Int) := by
  unfold xp
  have := Int.emod_nonneg n (show (Q : Int) ≠ 0 by decide)
  omega

/-- The power of an element. -/
def pw (a : Nat) (n : Int) : Nat := a ^ xp n % P

theorem pw_lt (a : Nat) (n : Int) : pw a n < P := Nat.mod_lt _ P_pos
theorem el_pw {a : Nat} (ha : El a) (n : Int) : El (pw a n) := el_pow ha _

theorem xp_nat (n : Nat) : xp (n : Int) = n % Q := by
  have := xp_cast (n : Int)
  omega

theorem pw_nat {a : Nat} (ha : El a) (n : Nat) : pw a (n : Int) = a ^ n % P := by
  unfold pw; rw [xp_nat, ← pow_mod_Q ha]

theorem pw_add {a : Nat} (ha : El a) (m n : Int) : pw a (m + n) = pw a m * pw a n % P := by
  unfold pw
  rw [← Nat.mul_mod, ← Nat.pow_add]
  refine pow_congr ha ?_
  have h1 := xp_cast (m + n)
  have h2 := xp_cast m
  have h3 := xp_cast n
  have h4 := xp_lt (m + n)
  have : ((xp (m + n) : Int)) % (Q : Int) = ((xp m + xp n : Nat) : Int) % (Q : Int) := by
    rw [h1, Int.natCast_add, h2, h3, Int.emod_emod, ← Int.add_emod]
  omega

theorem pw_mul {a : Nat} (ha : El a) (m n : Int) : pw a (m * n) = pw (pw a m) n := by
  unfold pw
  rw [pow_mod_P, ← Nat.pow_mul]
  refine pow_congr ha ?_
  have h1 := xp_cast (m * n)
  have h2 := xp_cast m
  have h3 := xp_cast n
  have : ((xp (m * n) : Int)) % (Q : Int) = ((xp m * xp n : Nat) : Int) % (Q : Int) := by
    rw [h1, Int.natCast_mul, h2, h3, Int.emod_emod, ← Int.mul_emod]
  omega

theorem pw_prod {a b : Nat} (n : Int) : pw (a * b % P) n = pw a n * pw b n % P := by
  unfold pw
  rw [pow_mod_P, Nat.mul_pow, Nat.mul_mod]

theorem pw_zero (a : Nat) : pw a 0 = 1 := by
  have : xp 0 = 0 := by decide
  unfold pw; rw [this, Nat.pow_zero]; decide

theorem pw_one {a : Nat} (h : a < P) : pw a 1 = a := by
  have : xp 1 = 1 := by decide
  unfold pw; rw [this, Nat.pow_one, Nat.mod_eq_of_lt h]

theorem one_pw (n : Int) : pw 1 n = 1 := by
  unfold pw; rw [Nat.one_pow]; decide

theorem xp_congr {m n : Int} (h : m % (Q : Int) = n % (Q : Int)) : xp m = xp n := by unfold xp; rw [h]
theorem pw_congr {m n : Int} (a : Nat) (h : m % (Q : Int) = n % (Q : Int)) : pw a m = pw a n := by unfold pw; rw [xp_congr h]

theorem pw_emod (a : Nat) (n : Int) : pw a (n % (Q : Int)) = pw a n := pw_congr a (Int.emod_emod _ _)

theorem mul_lt_id {x : Nat} (h : x < P) : 1 * x % P = x := by rw [Nat.one_mul, Nat.mod_eq_of_lt h]

theorem pw_neg_mul {a : Nat} (ha : El a) (n : Int) : pw a (-n) * pw a n % P = 1 := by
  rw [← pw_add ha, Int.add_left_neg, pw_zero]

/-- an inverse modulo Q of a number. -/
theorem inv_Q {n : Nat} (h1 : 1 ≤ n) (h2 : n < Q) : (n * (n ^ (Q - 2) % Q)) % Q = 1 := by
  have h := fermat_Q h1 h2
  have e : Q - 1 = (Q - 2) + 1 := by decide
  rw [e, Nat.pow_succ, Nat.mul_comm] at h
  rw [Nat.mul_mod, Nat.mod_mod, ← Nat.mul_mod]; exact h

/-- every element but 1 has the order Q. -/
theorem pw_eq_one {a : Nat} (ha : El a) (hne : a ≠ 1) {n : Int} (h : pw a n = 1) : n % (Q : Int) = 0 := by
  rw [← pw_emod] at h
  have hlt := Int.emod_lt_of_pos n (show (0 : Int) < Q by decide)
  have hge := Int.emod_nonneg n (show (Q : Int) ≠ 0 by decide)
  generalize n % (Q : Int) = r at *
  obtain ⟨m, rfl⟩ := Int.eq_ofNat_of_zero_le hge
  rcases Nat.eq_zero_or_pos m with h0 | h0
  · simp [h0]
  · exfalso
    have hi := inv_Q h0 (by omega)
    have e := pw_mul ha (m : Int) ((m ^ (Q - 2) % Q : Nat) : Int)
    rw [h, one_pw] at e
    have e2 : ((m : Int) * ((m ^ (Q - 2) % Q : Nat) : Int)) = ((m * (m ^ (Q - 2) % Q) : Nat) : Int) := by rw [Int.natCast_mul]
    rw [e2, pw_nat ha] at e
    rw [pow_mod_Q ha, hi, Nat.pow_one, Nat.mod_eq_of_lt ha.2.1] at e
    exact hne e

theorem pw_inj {a : Nat} (ha : El a) (hne : a ≠ 1) {m n : Int} (h : pw a m = pw a n) : m % (Q : Int) = n % (Q : Int) := by
  have e : pw a (m + -n) = 1 := by
    rw [pw_add ha, h, ← pw_add ha, Int.add_right_neg, pw_zero]
  have := pw_eq_one ha hne e
  exact Int.emod_eq_emod_iff_emod_sub_eq_zero.2 (by rwa [Int.sub_eq_add_neg])

theorem mul_comm_P (a b : Nat) : a * b % P = b * a % P := by rw [Nat.mul_comm]

theorem mul_cancel {a b c : Nat} (ha : El a) (hb : b < P) (hc : c < P) (h : a * b % P = a * c % P) : b = c := by
  have e : ∀ x, x < P → pw a (-1) * (a * x % P) % P = x := by
    intro x hx
    rw [Nat.mul_mod_mod, ← Nat.mul_assoc, ← Nat.mod_mul_mod]
    have := pw_neg_mul ha 1
    rw [pw_one ha.2.1] at this
    rw [this, Nat.one_mul, Nat.mod_eq_of_lt hx]
  rw [← e b hb, ← e c hc, h]

end Go.Proofs.YthladfegmedpnaaDoor.Nt
namespace Go.Proofs.YthladfegmedpnaaDoor.Nt

/-- What holds at the head of the loop that decides whether x0 is a square. -/
structure Inv (x0 x n : Nat) (s : Bool) : Prop where
  pos : 1 ≤ x
  le : x ≤ P
  nle : n ≤ P
  odd : n % 2 = 1
  cop : Nat.Coprime x n
  val : J x0 P = (if s then 1 else -1) * J x n

theorem Inv.start {x0 : Nat} (h1 : 1 ≤ x0) (h2 : x0 < P) : Inv x0 x0 P true :=
  ⟨h1, by omega, by omega, P_odd, prime_P x0 h1 h2, by simp⟩

theorem Inv.even {x0 x n : Nat} {s : Bool} (h : Inv x0 x n s) (he : x % 2 = 0) : Inv x0 (x / 2) n (if n % 8 = 3 ∨ n % 8 = 5 then !s else s) := by
  have hx : x = 2 * (x / 2) := by omega
  have hp := h.pos
  have hle := h.le
  have hc := h.cop
  rw [hx] at hc
  have c1 : Nat.Coprime 2 n := Nat.Coprime.coprime_mul_right hc
  have c2 : Nat.Coprime (x / 2) n := Nat.Coprime.coprime_mul_left hc
  refine ⟨by omega, by omega, h.nle, h.odd, c2, ?_⟩
  have hv := h.val
  rw [hx, J_mul h.odd c1 c2, J_two h.odd] at hv
  rw [hv]
  by_cases c : n % 8 = 3 ∨ n % 8 = 5
  · rw [if_pos c, if_pos c]; cases s <;> simp
  · rw [if_neg c, if_neg c]; cases s <;> simp

theorem Inv.swap {x0 x n : Nat} {s : Bool} (h : Inv x0 x n s) (ho : x % 2 = 1) (hx : 1 < x) : Inv x0 (n % x) x (if x % 4 = 3 ∧ n % 4 = 3 then !s else s) := by
  have hlt := Nat.mod_lt n (show 0 < x by omega)
  have hle := h.le
  have hc : Nat.Coprime (n % x) x := by
    have := h.cop
    rwa [Nat.coprime_iff_gcd_eq_one, Nat.gcd_rec] at this
  refine ⟨?_, by omega, h.le, ho, hc, ?_⟩
  · rcases Nat.eq_zero_or_pos (n % x) with h0 | h0
    · rw [h0, Nat.coprime_zero_left] at hc; omega
    · exact h0
  · have hv := h.val
    rw [J_recip ho h.odd h.cop] at hv
    rw [hv, J_mod (a := n % x) (b := n) (by rw [Nat.mod_mod])]
    by_cases c : x % 4 = 3 ∧ n % 4 = 3
    · rw [if_pos c, if_pos c]; cases s <;> simp
    · rw [if_neg c, if_neg c]; cases s <;> simp

theorem Inv.done {x0 n : Nat} {s : Bool} (h : Inv x0 1 n s) (h1 : 1 ≤ x0) (h2 : x0 < P) : s = decide (El x0) := by
  have hv := h.val
  rw [J_one h.odd] at hv
  have e : El x0 ↔ J x0 P = 1 := by
    unfold El
    rw [← el_iff_J h1 h2]
    simp [h1, h2]
  rw [Bool.eq_iff_iff, decide_eq_true_iff, e, hv]
  cases s <;> simp

end Go.Proofs.YthladfegmedpnaaDoor.Nt

/- The squares of an element, and the bits of an exponent. -/
namespace Go.Proofs.YthladfegmedpnaaDoor.Nt

def sqs : Nat → Nat → Nat → List (Nat × Bool)
  | 0, _, _ => []
  | k + 1, a, n => if n = 0 then [] else (a, n % 2 == 1) :: sqs k (a * a % P) (n / 2)

def stepc (c : Nat) (x : Nat × Bool) : Nat := if x.2 = true then c * x.1 % P else c

theorem foldl_sqs : ∀ (k a n c : Nat), n < 2 ^ k → c < P → (sqs k a n).foldl stepc c = c * a ^ n % P
  | 0, a, n, c, h, hc => by
    have : n = 0 := by simp at h; exact h
    subst this
    simp [sqs, Nat.mod_eq_of_lt hc]
  | k + 1, a, n, c, h, hc => by
    simp only [sqs]
    by_cases h0 : n = 0
    · subst h0; simp [Nat.mod_eq_of_lt hc]
    · rw [if_neg h0, List.foldl_cons]
      have hlt : n / 2 < 2 ^ k := by rw [Nat.pow_succ] at h; omega
      have hp : ∀ c', c' * (a * a % P) ^ (n / 2) % P = c' * a ^ (2 * (n / 2)) % P := fun c' => by
        rw [Nat.mul_mod, ← Nat.pow_mod, ← Nat.mul_mod, ← Nat.pow_two, ← Nat.pow_mul]
      by_cases ho : n % 2 = 1
      · have e : stepc c (a, n % 2 == 1) = c * a % P := by simp [stepc, ho]
        rw [e, foldl_sqs k _ _ _ hlt (Nat.mod_lt _ P_pos), hp, Nat.mod_mul_mod, Nat.mul_assoc, ← Nat.pow_succ']
        have : (2 * (n / 2)).succ = n := by omega
        rw [this]
      · have e : stepc c (a, n % 2 == 1) = c := by simp [stepc, ho]
        rw [e, foldl_sqs k _ _ _ hlt hc, hp]
        have : 2 * (n / 2) = n := by omega
        rw [this]

theorem stepc_lt {c : Nat} {x : Nat × Bool} (h : c < P) : stepc c x < P := by
  unfold stepc; split
  · exact Nat.mod_lt _ P_pos
  · exact h
theorem foldl_lt : ∀ (l : List (Nat × Bool)) (c : Nat), c < P → l.foldl stepc c < P
  | [], _, h => h
  | _ :: l, _, h => foldl_lt l _ (stepc_lt h)
theorem sqs_lt : ∀ (k a n : Nat), a < P → ∀ x ∈ sqs k a n, x.1 < P
  | 0, _, _, _, _, h => by simp [sqs] at h
  | k + 1, a, n, ha, x, h => by
    simp only [sqs] at h
    split at h
    · simp at h
    · rcases List.mem_cons.1 h with rfl | h
      · exact ha
      · exact sqs_lt k _ _ (Nat.mod_lt _ P_pos) x h

end Go.Proofs.YthladfegmedpnaaDoor.Nt
