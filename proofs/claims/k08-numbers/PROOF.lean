import PyProof.Rows.All
import Wide.All
import OpenK.AllK
import Wide.FinOn
import PyProof.EqAt
import PyProof.EqKinds
import PyProof.TupleCall
import PyProof.Draws
import PyProof.EnumMake
import PyProof.ListStr
import PyProof.Rows.StrRev
import PyProof.Rows.StrCountLaw
import KE.KRevSl
import KE.IntBitsLaws
import HandS.ForMost
import HandS.Codes
import HandS.Walk
import HandS.Style
import HandS.Replace
import HandS.More
import HandS.IsInst
import HandS.Deep
import PyProof.Rows.SortShellAny
import HandS.CallRecv
import HandS.EndBits
import PySem.Challenge.RW_padleap_k08_whole_numbers
set_option Elab.async false
set_option linter.all false
set_option maxRecDepth 100000
set_option maxHeartbeats 4000000
/-! Padleap in plain Lean: standings as two lists of leapers, the nearest to the free pad first (true: a, false: b). -/
namespace PL
abbrev Zp := List Bool × List Bool

/-- the code of a leaper's sign -/
def sg (k : Bool) : Nat := if k = true then 97 else 98
theorem sg_inj {x y : Bool} (h : sg x = sg y) : x = y := by cases x <;> cases y <;> simp_all [sg]
theorem sg_ne (x : Bool) : sg x ≠ 46 := by cases x <;> decide
/-- the standing's text, by codes -/
def cps (z : Zp) : List Nat := (z.1.reverse).map sg ++ 46 :: z.2.map sg
def fr (z : Zp) : Nat := z.1.length
def pads (z : Zp) : Nat := z.1.length + z.2.length + 1
theorem cps_len (z : Zp) : (cps z).length = pads z := by
  simp [cps, pads]; omega

/-! ### moves -/
def nextL : Zp → List (Nat × Zp)
  | (true :: L, R) => [(L.length, (L, true :: R))]
  | (false :: true :: L, R) => [(L.length, (L, false :: true :: R))]
  | _ => []
def nextR : Zp → List (Nat × Zp)
  | (L, false :: R) => [(L.length + 1, (false :: L, R))]
  | (L, true :: false :: R) => [(L.length + 2, (true :: false :: L, R))]
  | _ => []
def next (z : Zp) : List (Nat × Zp) := nextL z ++ nextR z
def movers (z : Zp) : List Nat := (next z).map (·.1)

/-- each shape that a move may have -/
theorem next_cases {z : Zp} {p : Nat} {y : Zp} (h : (p, y) ∈ next z) :
    (∃ L R, z = (true :: L, R) ∧ p = L.length ∧ y = (L, true :: R)) ∨
    (∃ L R, z = (false :: true :: L, R) ∧ p = L.length ∧ y = (L, false :: true :: R)) ∨
    (∃ L R, z = (L, false :: R) ∧ p = L.length + 1 ∧ y = (false :: L, R)) ∨
    (∃ L R, z = (L, true :: false :: R) ∧ p = L.length + 2 ∧ y = (true :: false :: L, R)) := by
  rcases List.mem_append.mp h with h | h
  · unfold nextL at h
    split at h
    · rename_i L R _
      obtain ⟨h1, h2⟩ := Prod.mk.inj (List.mem_singleton.mp h)
      exact .inl ⟨L, R, rfl, h1, h2⟩
    · rename_i L R _
      obtain ⟨h1, h2⟩ := Prod.mk.inj (List.mem_singleton.mp h)
      exact .inr (.inl ⟨L, R, rfl, h1, h2⟩)
    · cases h
  · unfold nextR at h
    split at h
    · rename_i L R _
      obtain ⟨h1, h2⟩ := Prod.mk.inj (List.mem_singleton.mp h)
      exact .inr (.inr (.inl ⟨L, R, rfl, h1, h2⟩))
    · rename_i L R _
      obtain ⟨h1, h2⟩ := Prod.mk.inj (List.mem_singleton.mp h)
      exact .inr (.inr (.inr ⟨L, R, rfl, h1, h2⟩))
    · cases h

/-! ### counts, the goal, moves left -/
def na (z : Zp) : Nat := z.1.count true + z.2.count true
def nb (z : Zp) : Nat := z.1.count false + z.2.count false
def goal (z : Zp) : Zp := (List.replicate (nb z) false, List.replicate (na z) true)
/-- pairs of an a and a b anywhere to the right of it -/
def inv : List Bool → Nat
  | [] => 0
  | true :: r => r.count false + inv r
  | false :: r => inv r
theorem inv_append : ∀ x y : List Bool, inv (x ++ y) = inv x + inv y + x.count true * y.count false
  | [], y => by simp [inv]
  | true :: x, y => by
    have ih := inv_append x y
    simp only [List.cons_append, inv, List.count_append, ih, List.count_cons_self]
    rw [Nat.add_mul]
    omega
  | false :: x, y => by
    have ih := inv_append x y
    have e : (false :: x).count true = x.count true := by simp
    simp only [List.cons_append, inv, ih, e]
def mleft (z : Zp) : Nat := inv (z.1.reverse ++ z.2) + z.1.count true + z.2.count false
theorem next_mleft {z y : Zp} {p : Nat} (h : (p, y) ∈ next z) : mleft z = mleft y + 1 := by
  rcases next_cases h with ⟨L, R, rfl, _, rfl⟩ | ⟨L, R, rfl, _, rfl⟩ | ⟨L, R, rfl, _, rfl⟩ | ⟨L, R, rfl, _, rfl⟩
  · simp [mleft]; omega
  · simp [mleft, inv_append, inv]; 
    have := Nat.add_mul
    simp [Nat.add_mul, Nat.mul_add]
    omega
  · simp [mleft]; omega
  · simp [mleft, inv_append, inv, Nat.add_mul, Nat.mul_add]
    omega
theorem next_na {z y : Zp} {p : Nat} (h : (p, y) ∈ next z) : na y = na z := by
  rcases next_cases h with ⟨L, R, rfl, _, rfl⟩ | ⟨L, R, rfl, _, rfl⟩ | ⟨L, R, rfl, _, rfl⟩ | ⟨L, R, rfl, _, rfl⟩ <;> simp [na] <;> omega
theorem next_nb {z y : Zp} {p : Nat} (h : (p, y) ∈ next z) : nb y = nb z := by
  rcases next_cases h with ⟨L, R, rfl, _, rfl⟩ | ⟨L, R, rfl, _, rfl⟩ | ⟨L, R, rfl, _, rfl⟩ | ⟨L, R, rfl, _, rfl⟩ <;> simp [nb] <;> omega
theorem next_goal {z y : Zp} {p : Nat} (h : (p, y) ∈ next z) : goal y = goal z := by
  unfold goal
  rw [next_na h, next_nb h]
theorem next_pads {z y : Zp} {p : Nat} (h : (p, y) ∈ next z) : pads y = pads z := by
  rcases next_cases h with ⟨L, R, rfl, _, rfl⟩ | ⟨L, R, rfl, _, rfl⟩ | ⟨L, R, rfl, _, rfl⟩ | ⟨L, R, rfl, _, rfl⟩ <;> simp [pads] <;> omega
theorem na_nb (z : Zp) : na z + nb z + 1 = pads z := by
  have h : ∀ l : List Bool, l.count true + l.count false = l.length := by
    intro l
    induction l with
    | nil => rfl
    | cons x l ih => cases x <;> simp <;> omega
  have h1 := h z.1
  have h2 := h z.2
  unfold na nb pads
  omega
theorem goal_goal (z : Zp) : goal (goal z) = goal z := by
  have h1 : na (goal z) = na z := by simp [na, goal, List.count_replicate]
  have h2 : nb (goal z) = nb z := by simp [nb, goal, List.count_replicate]
  rw [show goal (goal z) = (List.replicate (nb (goal z)) false, List.replicate (na (goal z)) true) from rfl, h1, h2]
  rfl
theorem goal_next (z : Zp) : next (goal z) = [] := by
  have h1 : nextL (goal z) = [] := by
    unfold goal
    cases nb z with
    | zero => rfl
    | succ n => cases n <;> rfl
  have h2 : nextR (goal z) = [] := by
    unfold goal
    generalize List.replicate (nb z) false = L
    cases na z with
    | zero => cases L <;> rfl
    | succ n => cases n <;> (cases L <;> rfl)
  rw [next, h1, h2]
  rfl
theorem inv_goal (m n : Nat) : inv (List.replicate m false ++ List.replicate n true) = 0 := by
  have h1 : ∀ n, inv (List.replicate n true) = 0 := by
    intro n
    induction n with
    | zero => rfl
    | succ n ih => simp [List.replicate_succ, inv, ih, List.count_replicate]
  have h2 : ∀ m, inv (List.replicate m false) = 0 := by
    intro m
    induction m with
    | zero => rfl
    | succ n ih => simp [List.replicate_succ, inv, ih]
  rw [inv_append, h1, h2]
  simp [List.count_replicate]
theorem mleft_goal (z : Zp) : mleft (goal z) = 0 := by
  have e := inv_goal (nb z) (na z)
  simp [mleft, goal, List.count_replicate, e]
theorem next_none {z : Zp} (h : mleft z = 0) : next z = [] := by
  cases e : next z with
  | nil => rfl
  | cons q r =>
    have := next_mleft (z := z) (p := q.1) (y := q.2) (by rw [e]; exact List.mem_cons_self)
    omega

/-! ### all ways, in the order of lists -/
def waysF : Nat → Zp → List (List Nat)
  | 0, z => if z = goal z then [[]] else []
  | k + 1, z => (if z = goal z then [[]] else []) ++ (next z).flatMap fun q => (waysF k q.2).map (q.1 :: ·)
def wl (z : Zp) : List (List Nat) := waysF (mleft z) z
def ways (z : Zp) : Nat := (wl z).length
theorem wl_eq (z : Zp) : wl z = (if z = goal z then [[]] else []) ++ (next z).flatMap fun q => (wl q.2).map (q.1 :: ·) := by
  unfold wl
  cases e : mleft z with
  | zero => rw [next_none e]; simp [waysF]
  | succ k =>
    show _ ++ (next z).flatMap (fun q => (waysF k q.2).map (q.1 :: ·)) = _
    congr 1
    have h : ∀ l : List (Nat × Zp), (∀ q ∈ l, mleft q.2 = k) → l.flatMap (fun q => (waysF k q.2).map (q.1 :: ·)) = l.flatMap (fun q => (waysF (mleft q.2) q.2).map (q.1 :: ·)) := by
      intro l hl
      induction l with
      | nil => rfl
      | cons q r ih =>
        rw [List.flatMap_cons, List.flatMap_cons, ih (fun x hx => hl x (List.mem_cons_of_mem _ hx)), hl q List.mem_cons_self]
    refine h _ fun q hq => ?_
    have := next_mleft (z := z) (p := q.1) (y := q.2) hq
    omega
theorem ways_eq (z : Zp) : ways z = (if z = goal z then 1 else 0) + ((next z).map fun q => ways q.2).sum := by
  unfold ways
  rw [wl_eq, List.length_append]
  congr 1
  · split <;> rfl
  · rw [List.length_flatMap]
    congr 1
    refine List.map_congr_left fun q _ => ?_
    rw [List.length_map]
theorem wl_goal {z : Zp} (h : z = goal z) : wl z = [[]] := by
  have e : next z = [] := by rw [h]; exact goal_next z
  rw [wl_eq, if_pos h, e]
  rfl
theorem ways_goal {z : Zp} (h : z = goal z) : ways z = 1 := by
  unfold ways
  rw [wl_goal h]
  rfl
/-- at most two moves, so at most 2 ^ mleft ways -/
theorem next_two (z : Zp) : (next z).length ≤ 2 := by
  have h1 : (nextL z).length ≤ 1 := by unfold nextL; split <;> simp
  have h2 : (nextR z).length ≤ 1 := by unfold nextR; split <;> simp
  rw [next, List.length_append]
  omega
theorem ways_le : ∀ (k : Nat) (z : Zp), mleft z ≤ k → ways z ≤ 2 ^ k
  | 0, z, h => by
    rw [ways_eq, next_none (by omega)]
    simp
    split <;> omega
  | k + 1, z, h => by
    rw [ways_eq]
    by_cases hg : z = goal z
    · have e : next z = [] := by rw [hg]; exact goal_next z
      rw [if_pos hg, e]
      have := Nat.pow_pos (n := k + 1) (show 0 < 2 by decide)
      simp
      omega
    · rw [if_neg hg]
      have hs : ∀ l : List (Nat × Zp), (∀ q ∈ l, ways q.2 ≤ 2 ^ k) → (l.map fun q => ways q.2).sum ≤ l.length * 2 ^ k := by
        intro l hl
        induction l with
        | nil => simp
        | cons q r ih =>
          have i1 := ih (fun x hx => hl x (List.mem_cons_of_mem _ hx))
          have i2 := hl q List.mem_cons_self
          rw [List.map_cons, List.sum_cons, List.length_cons, Nat.add_mul]
          omega
      have h1 := hs (next z) fun q hq => ways_le k q.2 (by
        have := next_mleft (z := z) (p := q.1) (y := q.2) hq
        omega)
      have h2 := Nat.mul_le_mul_right (2 ^ k) (next_two z)
      rw [Nat.pow_succ]
      omega
theorem inv_le : ∀ l : List Bool, inv l ≤ l.count true * l.count false
  | [] => by simp [inv]
  | true :: r => by
    have := inv_le r
    simp [inv, Nat.add_mul]
    omega
  | false :: r => by
    have := inv_le r
    simp [inv, Nat.mul_add]
    omega
/-- at most 9 pads: at most 24 moves -/
theorem mleft_le9 {z : Zp} (h : pads z ≤ 9) : mleft z ≤ 24 := by
  have h1 := inv_le (z.1.reverse ++ z.2)
  rw [List.count_append, List.count_append, List.count_reverse, List.count_reverse] at h1
  have h2 := na_nb z
  have e1 : z.1.count true + z.2.count true = na z := rfl
  have e2 : z.1.count false + z.2.count false = nb z := rfl
  rw [e1, e2] at h1
  have h3 : na z * nb z ≤ 16 := by
    have : na z ≤ 8 := by omega
    generalize na z = a at *
    generalize nb z = b at *
    have hb : b ≤ 8 - a := by omega
    have : a * b ≤ a * (8 - a) := Nat.mul_le_mul_left _ hb
    have : ∀ a, a ≤ 8 → a * (8 - a) ≤ 16 := by decide
    have := this a (by omega)
    omega
  have : z.1.count true ≤ na z := by unfold na; omega
  have : z.2.count false ≤ nb z := by unfold nb; omega
  unfold mleft
  omega
end PL

/-! Padleap in plain Lean: the moves as they are read off the text. -/
namespace PL
/-! ### two rising lists with the same members are one -/
theorem rise_ext : ∀ {l m : List Nat}, l.Pairwise (· < ·) → m.Pairwise (· < ·) → (∀ x, x ∈ l ↔ x ∈ m) → l = m
  | [], [], _, _, _ => rfl
  | [], y :: m, _, _, h => by have := (h y).mpr List.mem_cons_self; cases this
  | x :: l, [], _, _, h => by have := (h x).mp List.mem_cons_self; cases this
  | x :: l, y :: m, hl, hm, h => by
    obtain ⟨hl1, hl2⟩ := List.pairwise_cons.mp hl
    obtain ⟨hm1, hm2⟩ := List.pairwise_cons.mp hm
    have e : x = y := by
      rcases List.mem_cons.mp ((h x).mp List.mem_cons_self) with e | e
      · exact e
      · rcases List.mem_cons.mp ((h y).mpr List.mem_cons_self) with e' | e'
        · exact e'.symm
        · have := hm1 _ e
          have := hl1 _ e'
          omega
    subst e
    congr 1
    refine rise_ext hl2 hm2 fun z => ⟨fun hz => ?_, fun hz => ?_⟩
    · rcases List.mem_cons.mp ((h z).mp (List.mem_cons_of_mem _ hz)) with e | e
      · subst e; have := hl1 _ hz; omega
      · exact e
    · rcases List.mem_cons.mp ((h z).mpr (List.mem_cons_of_mem _ hz)) with e | e
      · subst e; have := hm1 _ hz; omega
      · exact e
theorem movers_rise (z : Zp) : (movers z).Pairwise (· < ·) := by
  obtain ⟨L, R⟩ := z
  have h1 : ∀ q ∈ nextL (L, R), q.1 < L.length := by
    intro q hq
    unfold nextL at hq
    split at hq
    · rename_i hz; obtain ⟨rfl, rfl⟩ := Prod.mk.inj hz; rw [List.mem_singleton.mp hq]; simp
    · rename_i hz; obtain ⟨rfl, rfl⟩ := Prod.mk.inj hz; rw [List.mem_singleton.mp hq]; simp; omega
    · cases hq
  have h2 : ∀ q ∈ nextR (L, R), L.length < q.1 := by
    intro q hq
    unfold nextR at hq
    split at hq
    · rename_i hz; obtain ⟨rfl, rfl⟩ := Prod.mk.inj hz; rw [List.mem_singleton.mp hq]; simp
    · rename_i hz; obtain ⟨rfl, rfl⟩ := Prod.mk.inj hz; rw [List.mem_singleton.mp hq]; simp
    · cases hq
  have h3 : (nextL (L, R)).length ≤ 1 := by unfold nextL; split <;> simp
  have h4 : (nextR (L, R)).length ≤ 1 := by unfold nextR; split <;> simp
  unfold movers next
  rw [List.map_append]
  cases e1 : nextL (L, R) with
  | nil =>
    cases e2 : nextR (L, R) with
    | nil => simp
    | cons q r =>
      cases r with
      | nil => simp
      | cons _ _ => rw [e2] at h4; simp at h4
  | cons q r =>
    cases r with
    | cons _ _ => rw [e1] at h3; simp at h3
    | nil =>
      cases e2 : nextR (L, R) with
      | nil => simp
      | cons q' r =>
        cases r with
        | cons _ _ => rw [e2] at h4; simp at h4
        | nil =>
          have a1 := h1 q (by rw [e1]; simp)
          have a2 := h2 q' (by rw [e2]; simp)
          simp
          omega

/-! ### signs of the text -/
theorem cps_free (z : Zp) : (cps z)[fr z]? = some 46 := by
  simp [cps, fr]
theorem map_sg_no (l : List Bool) : 46 ∉ l.map sg := fun h => by
  obtain ⟨x, _, e⟩ := List.mem_map.mp h
  exact sg_ne x e
theorem cps_before (z : Zp) {k : Nat} (h : k < fr z) : (cps z)[k]? ≠ some 46 := by
  intro e
  unfold cps fr at *
  rw [List.getElem?_append_left (by simp; exact h)] at e
  exact map_sg_no _ (List.mem_of_getElem? e)
theorem cps_dot {z : Zp} {k : Nat} (h : (cps z)[k]? = some 46) : k = fr z := by
  rcases Nat.lt_trichotomy k (fr z) with h1 | h1 | h1
  · exact absurd h (cps_before z h1)
  · exact h1
  · unfold cps fr at *
    rw [List.getElem?_append_right (by simp; omega)] at h
    simp only [List.length_map, List.length_reverse] at h
    obtain ⟨j, hj⟩ : ∃ j, k - z.1.length = j + 1 := ⟨k - z.1.length - 1, by omega⟩
    rw [hj, List.getElem?_cons_succ] at h
    exact absurd (List.mem_of_getElem? h) (map_sg_no _)
theorem cps_inj {y z : Zp} (h : cps y = cps z) : y = z := by
  have h1 : fr y = fr z := cps_dot (by rw [← h]; exact cps_free y)
  obtain ⟨L, R⟩ := y
  obtain ⟨L', R'⟩ := z
  unfold cps fr at *
  simp only at h1 h
  obtain ⟨e1, e2⟩ := List.append_inj h (by simp [h1])
  have inj : ∀ {a b : List Bool}, a.map sg = b.map sg → a = b := by
    intro a
    induction a with
    | nil => intro b h; cases b with | nil => rfl | cons _ _ => simp at h
    | cons x a ih =>
      intro b h
      cases b with
      | nil => simp at h
      | cons y b =>
        simp only [List.map_cons, List.cons.injEq] at h
        rw [sg_inj h.1, ih h.2]
  have e3 := List.reverse_inj.mp (inj e1)
  have e4 := inj (List.cons.inj e2).2
  rw [e3, e4]

theorem at_left (x : Bool) (L R : List Bool) : (cps (x :: L, R))[L.length]? = some (sg x) := by
  simp [cps]
theorem cut_left2 (x y : Bool) (L R : List Bool) : ((cps (x :: y :: L, R)).drop L.length).take 2 = [sg y, sg x] := by
  simp [cps]
theorem cut_right (L R : List Bool) (k : Nat) : ((cps (L, R)).drop (L.length + 1)).take k = (R.take k).map sg := by
  unfold cps
  simp only
  rw [List.drop_append, List.drop_of_length_le (by simp)]
  simp [List.map_take]

/-! ### the program's own reading -/
def c1 (z : Zp) : Bool := decide (1 < fr z) && decide (((cps z).drop (fr z - 2)).take 2 = [97, 98])
def c2 (z : Zp) : Bool := decide (0 < fr z) && decide ((cps z)[fr z - 1]? = some 97)
def c3 (z : Zp) : Bool := decide (((cps z).drop (fr z + 1)).take 1 = [98])
def c4 (z : Zp) : Bool := decide (((cps z).drop (fr z + 1)).take 2 = [97, 98])
theorem movers_read (z : Zp) : movers z = (if c1 z = true then [fr z - 2] else []) ++ (if c2 z = true then [fr z - 1] else []) ++ (if c3 z = true then [fr z + 1] else []) ++ (if c4 z = true then [fr z + 2] else []) := by
  obtain ⟨L, R⟩ := z
  have hl : (nextL (L, R)).map (·.1) = (if c1 (L, R) = true then [fr (L, R) - 2] else []) ++ (if c2 (L, R) = true then [fr (L, R) - 1] else []) := by
    cases L with
    | nil => simp [nextL, c1, c2, fr]
    | cons x L =>
      have e2 : c2 (x :: L, R) = x := by
        unfold c2
        have : fr (x :: L, R) - 1 = L.length := by simp [fr]
        rw [this, at_left]
        cases x <;> simp [sg, fr]
      rw [e2]
      cases L with
      | nil => cases x <;> simp [nextL, c1, fr]
      | cons y L =>
        have e1 : c1 (x :: y :: L, R) = (y && !x) := by
          unfold c1
          have : fr (x :: y :: L, R) - 2 = L.length := by simp [fr]
          rw [this, cut_left2]
          cases x <;> cases y <;> simp [sg, fr]
        rw [e1]
        cases x <;> cases y <;> simp [nextL, fr]
  have hr : (nextR (L, R)).map (·.1) = (if c3 (L, R) = true then [fr (L, R) + 1] else []) ++ (if c4 (L, R) = true then [fr (L, R) + 2] else []) := by
    have e3 : c3 (L, R) = decide ((R.take 1).map sg = [98]) := by
      unfold c3; rw [show fr (L, R) = L.length from rfl, cut_right]
    have e4 : c4 (L, R) = decide ((R.take 2).map sg = [97, 98]) := by
      unfold c4; rw [show fr (L, R) = L.length from rfl, cut_right]
    rw [e3, e4]
    cases R with
    | nil => simp [nextR]
    | cons x R =>
      cases R with
      | nil => cases x <;> simp [nextR, fr, sg]
      | cons y R => cases x <;> cases y <;> simp [nextR, fr, sg]
  unfold movers next
  rw [List.map_append, hl, hr]
  simp only [List.append_assoc]

/-! ### the law's own reading: each pad looked at -/
def ahead (c : List Nat) (i : Nat) : List Nat := if c[i]? = some 97 then (c.drop (i + 1)).take 2 else ((c.take i).reverse).take 2
def canGo (c : List Nat) (i : Nat) : Bool := decide (c[i]? ≠ some 46) && (decide ((ahead c i).take 1 = [46]) || (decide ((ahead c i).drop 1 = [46]) && (decide ((ahead c i)[0]? ≠ c[i]?) && decide ((ahead c i)[0]? ≠ some 46))))

theorem go_at {c A B : List Nat} {x : Nat} (h : c = A ++ x :: B) : c[A.length]? = some x ∧ c.drop (A.length + 1) = B ∧ c.take A.length = A := by
  subst h
  refine ⟨by simp, ?_, by simp⟩
  rw [List.drop_append, List.drop_of_length_le (by simp)]
  simp
theorem canGo_a {c A B : List Nat} (h : c = A ++ 97 :: B) : canGo c A.length = (decide ((B.take 2).take 1 = [46]) || (decide ((B.take 2).drop 1 = [46]) && (decide (B[0]? ≠ some 97) && decide (B[0]? ≠ some 46)))) := by
  obtain ⟨h1, h2, h3⟩ := go_at h
  unfold canGo ahead
  rw [h1, if_pos rfl, h2]
  have e : (B.take 2)[0]? = B[0]? := by simp
  rw [e]
  simp
theorem canGo_b {c A B : List Nat} (h : c = A ++ 98 :: B) : canGo c A.length = (decide ((A.reverse.take 2).take 1 = [46]) || (decide ((A.reverse.take 2).drop 1 = [46]) && (decide (A.reverse[0]? ≠ some 98) && decide (A.reverse[0]? ≠ some 46)))) := by
  obtain ⟨h1, h2, h3⟩ := go_at h
  unfold canGo ahead
  rw [h1, if_neg (by decide), h3]
  have e : (A.reverse.take 2)[0]? = A.reverse[0]? := by simp
  rw [e]
  simp
theorem sg_take_no (l : List Bool) (n : Nat) : ((l.map sg).take 2).take 1 ≠ [46] ∧ ((l.map sg).take 2).drop 1 ≠ [46] := by
  match l with
  | [] => simp
  | [x] => cases x <;> simp [sg]
  | x :: y :: r => cases x <;> cases y <;> simp [sg]

theorem sg_take_far (l : List Bool) (X : List Nat) (h : 2 ≤ l.length) : ((l.map sg ++ X).take 2).take 1 ≠ [46] ∧ ((l.map sg ++ X).take 2).drop 1 ≠ [46] := by
  match l, h with
  | x :: y :: r, _ => cases x <;> cases y <;> simp [sg]
theorem mem_movers {L R : List Bool} {i : Nat} : i ∈ movers (L, R) ↔ (i + 1 = L.length ∧ L[0]? = some true) ∨ (i + 2 = L.length ∧ L[0]? = some false ∧ L[1]? = some true) ∨ (i = L.length + 1 ∧ R[0]? = some false) ∨ (i = L.length + 2 ∧ R[0]? = some true ∧ R[1]? = some false) := by
  constructor
  · intro hm
    obtain ⟨⟨p, y⟩, hq, e⟩ := List.mem_map.mp hm
    simp only at e
    subst e
    rcases next_cases hq with ⟨L', R', e, hp, _⟩ | ⟨L', R', e, hp, _⟩ | ⟨L', R', e, hp, _⟩ | ⟨L', R', e, hp, _⟩ <;> (obtain ⟨rfl, rfl⟩ := Prod.mk.inj e; simp [hp])
  · intro h
    unfold movers next
    rw [List.map_append]
    rcases h with ⟨h1, h2⟩ | ⟨h1, h2, h3⟩ | ⟨h1, h2⟩ | ⟨h1, h2, h3⟩
    · refine List.mem_append.mpr (.inl ?_)
      match L, h1, h2 with
      | true :: L, h1, _ => simp at h1; simp [nextL, h1]
    · refine List.mem_append.mpr (.inl ?_)
      match L, h1, h2, h3 with
      | false :: true :: L, h1, _, _ => simp at h1; simp [nextL, h1]
    · refine List.mem_append.mpr (.inr ?_)
      match R, h2 with
      | false :: R, _ => simp [nextR, h1]
    · refine List.mem_append.mpr (.inr ?_)
      match R, h2, h3 with
      | true :: false :: R, _, _ => simp [nextR, h1]
theorem mem_left {L R : List Bool} {i : Nat} (h : i < L.length) : i ∈ movers (L, R) ↔ (i + 1 = L.length ∧ L[0]? = some true) ∨ (i + 2 = L.length ∧ L[0]? = some false ∧ L[1]? = some true) := by
  rw [mem_movers]
  constructor
  · rintro (h | h | h | h)
    · exact .inl h
    · exact .inr h
    · exact absurd h.1 (by omega)
    · exact absurd h.1 (by omega)
  · rintro (h | h)
    · exact .inl h
    · exact .inr (.inl h)
theorem mem_right {L R : List Bool} {j : Nat} : L.length + 1 + j ∈ movers (L, R) ↔ (j = 0 ∧ R[0]? = some false) ∨ (j = 1 ∧ R[0]? = some true ∧ R[1]? = some false) := by
  rw [mem_movers]
  constructor
  · rintro (h | h | h | h)
    · exact absurd h.1 (by omega)
    · exact absurd h.1 (by omega)
    · exact .inl ⟨by omega, h.2⟩
    · exact .inr ⟨by omega, h.2⟩
  · rintro (h | h)
    · exact .inr (.inr (.inl ⟨by omega, h.2⟩))
    · exact .inr (.inr (.inr ⟨by omega, h.2⟩))
theorem canGo_iff (z : Zp) {i : Nat} (hi : i < pads z) : canGo (cps z) i = true ↔ i ∈ movers z := by
  obtain ⟨L, R⟩ := z
  rcases Nat.lt_trichotomy i L.length with h | h | h
  · -- left of the free pad
    obtain ⟨A, x, B, eL, hA⟩ : ∃ A x B, L = B ++ x :: A ∧ A.length = i := by
      refine ⟨L.drop (L.length - i), L[L.length - 1 - i]'(by omega), L.take (L.length - 1 - i), ?_, by simp; omega⟩
      have e : L.length - i = (L.length - 1 - i) + 1 := by omega
      rw [e]
      conv => lhs; rw [← List.take_append_drop (L.length - 1 - i) L]
      congr 1
      exact List.drop_eq_getElem_cons (by omega)
    subst eL hA
    have ec : cps (B ++ x :: A, R) = (A.reverse.map sg) ++ sg x :: ((B.reverse.map sg) ++ 46 :: R.map sg) := by simp [cps]
    have hlen : A.length = (A.reverse.map sg).length := by simp
    rw [mem_left h]
    cases x with
    | false =>
      have : canGo (cps (B ++ false :: A, R)) A.length = false := by
        have q := canGo_b (c := cps (B ++ false :: A, R)) ec
        rw [← hlen] at q
        obtain ⟨t1, t2⟩ := sg_take_no A 2
        rw [q, show (List.map sg A.reverse).reverse = A.map sg by simp, decide_eq_false t1, decide_eq_false t2]
        rfl
      rw [this]
      match B with
      | [] => simp
      | [y] => simp
      | _ :: _ :: _ => simp; omega
    | true =>
      have q := canGo_a (c := cps (B ++ true :: A, R)) (B := (B.reverse.map sg) ++ 46 :: R.map sg) ec
      rw [← hlen] at q
      rw [q]
      match B with
      | [] => simp
      | [y] => cases y <;> simp [sg]
      | y1 :: y2 :: B' =>
        obtain ⟨t1, t2⟩ := sg_take_far (y1 :: y2 :: B').reverse (46 :: R.map sg) (by simp)
        rw [decide_eq_false t1, decide_eq_false t2]
        simp
        omega
  · subst h
    have e : canGo (cps (L, R)) L.length = false := by
      have := cps_free (L, R)
      unfold canGo
      rw [show (cps (L, R))[L.length]? = some 46 from this]
      simp
    rw [e, mem_movers]
    simp
  · obtain ⟨A, x, B, eR, hA⟩ : ∃ A x B, R = A ++ x :: B ∧ L.length + 1 + A.length = i := by
      have hp : i < L.length + R.length + 1 := hi
      refine ⟨R.take (i - L.length - 1), R[i - L.length - 1]'(by omega), R.drop (i - L.length - 1 + 1), ?_, by simp; omega⟩
      conv => lhs; rw [← List.take_append_drop (i - L.length - 1) R]
      congr 1
      exact List.drop_eq_getElem_cons (by omega)
    subst eR
    have ec : cps (L, A ++ x :: B) = (L.reverse.map sg ++ 46 :: A.map sg) ++ sg x :: B.map sg := by simp [cps]
    subst hA
    have hlen : L.length + 1 + A.length = (L.reverse.map sg ++ 46 :: A.map sg).length := by simp; omega
    rw [mem_right]
    cases x with
    | true =>
      have : canGo (cps (L, A ++ true :: B)) (L.length + 1 + A.length) = false := by
        have q := canGo_a (c := cps (L, A ++ true :: B)) ec
        rw [← hlen] at q
        obtain ⟨t1, t2⟩ := sg_take_no B 2
        rw [q, decide_eq_false t1, decide_eq_false t2]
        rfl
      rw [this]
      match A with
      | [] => simp
      | [y] => simp
      | _ :: _ :: _ => simp
    | false =>
      have q := canGo_b (c := cps (L, A ++ false :: B)) ec
      rw [← hlen] at q
      rw [q, show (List.map sg L.reverse ++ 46 :: List.map sg A).reverse = (A.reverse.map sg) ++ 46 :: L.map sg by simp]
      match A with
      | [] => simp
      | [y] => cases y <;> simp [sg]
      | y1 :: y2 :: A' =>
        obtain ⟨t1, t2⟩ := sg_take_far (y1 :: y2 :: A').reverse (46 :: L.map sg) (by simp)
        rw [decide_eq_false t1, decide_eq_false t2]
        simp
theorem movers_lt {z : Zp} {i : Nat} (h : i ∈ movers z) : i < pads z := by
  obtain ⟨L, R⟩ := z
  have key : ∀ (X : List Bool) (k : Nat) (b : Bool), X[k]? = some b → k < X.length := fun X k b e => (List.getElem?_eq_some_iff.mp e).1
  rcases mem_movers.mp h with ⟨h1, h2⟩ | ⟨h1, h2, h3⟩ | ⟨h1, h2⟩ | ⟨h1, h2, h3⟩
  · show i < L.length + R.length + 1; omega
  · show i < L.length + R.length + 1; omega
  · have := key _ _ _ h2; show i < L.length + R.length + 1; omega
  · have := key _ _ _ h3; show i < L.length + R.length + 1; omega
theorem movers_law (z : Zp) : (List.range (pads z)).filter (canGo (cps z)) = movers z := by
  refine rise_ext ((List.pairwise_lt_range).filter _) (movers_rise z) fun x => ?_
  rw [List.mem_filter, List.mem_range]
  exact ⟨fun ⟨h1, h2⟩ => (canGo_iff z h1).mp h2, fun h => ⟨movers_lt h, (canGo_iff z (movers_lt h)).mpr h⟩⟩

/-! ### the standing behind a move -/
theorem next_ne {z y : Zp} {p : Nat} (h : (p, y) ∈ next z) : p ≠ fr z := by
  rcases next_cases h with ⟨L, R, rfl, rfl, rfl⟩ | ⟨L, R, rfl, rfl, rfl⟩ | ⟨L, R, rfl, rfl, rfl⟩ | ⟨L, R, rfl, rfl, rfl⟩ <;> (simp [fr]; try omega)
theorem next_lt {z y : Zp} {p : Nat} (h : (p, y) ∈ next z) : p < pads z := movers_lt (List.mem_map.mpr ⟨_, h, rfl⟩)
theorem behind_at {z y : Zp} {p : Nat} (h : (p, y) ∈ next z) : ∃ c, (cps z)[p]? = some c ∧ c ≠ 46 ∧ ((cps z).set (fr z) c).set p 46 = cps y := by
  rcases next_cases h with ⟨L, R, rfl, rfl, rfl⟩ | ⟨L, R, rfl, rfl, rfl⟩ | ⟨L, R, rfl, rfl, rfl⟩ | ⟨L, R, rfl, rfl, rfl⟩
  · exact ⟨97, by simp [cps, sg], by decide, by simp [cps, sg, fr, List.set_append]⟩
  · refine ⟨97, by simp [cps, sg], by decide, ?_⟩
    have e : L.length + 1 + 1 - L.length = 2 := by omega
    have h1 : ¬ L.length + 1 + 1 < L.length := by omega
    simp [cps, sg, fr, List.set_append, h1, e]
  · refine ⟨98, by simp [cps, sg], by decide, by simp [cps, sg, fr, List.set_append]⟩
  · refine ⟨98, by simp [cps, sg], by decide, by simp [cps, sg, fr, List.set_append]⟩
/-- .. sign by sign -/
theorem behind_law {z y : Zp} {p : Nat} (h : (p, y) ∈ next z) {c : Nat} (hc : (cps z)[p]? = some c) : (List.range (pads z)).map (fun i => if i = p then 46 else if i = fr z then c else (cps z).getD i 0) = cps y := by
  obtain ⟨c', hc', _, e⟩ := behind_at h
  rw [hc] at hc'
  cases hc'
  rw [← e]
  refine List.ext_getElem? fun i => ?_
  rw [List.getElem?_map]
  by_cases hi : i < pads z
  · rw [List.getElem?_range hi]
    have hl := cps_len z
    by_cases h1 : i = p
    · subst h1
      rw [List.getElem?_set_self (by simp; omega)]
      simp
    · rw [List.getElem?_set_ne (by omega)]
      by_cases h2 : i = fr z
      · subst h2
        rw [List.getElem?_set_self (by omega)]
        simp [h1]
      · rw [List.getElem?_set_ne (by omega)]
        simp [h1, h2]
        rw [List.getElem?_eq_getElem (by omega)]
        simp
  · rw [List.getElem?_eq_none (by simp; omega), List.getElem?_eq_none (by simp [cps_len]; omega)]
    rfl
end PL

/-! Rules of the layer that the program wants besides: text * int, text[::-1], enumerate(text), list(text), great products; texts by codes. -/
namespace PR
open PySem PySem.Spec PyProof.Rows L2 SX
section
variable {X : Cx}
/-- a * b, whatever the sizes that the model serves -/
theorem op_mulX : OpR X (binaryOp .Mult) (rI (fun i j => IntMulOk i j) fun i j => .int (i * j)) := opI fun _ _ _ _ _ _ _ hc q => mul_int q hc
/-- text * int -/
theorem op_mul_str : OpR X (binaryOp .Mult) (fun x y H Q => ∃ (z : Str) (n : Int), x = .str z ∧ y = .int n ∧ MulOk z n ∧ Q (.str (Txt.mul z n)) H) := by
  intro pins s σ H x y v u Q I rx ry h
  obtain ⟨z, n, rfl, rfl, hok, q⟩ := h
  obtain ⟨t, rfl⟩ := rx
  obtain ⟨t', rfl⟩ := ry
  exact SB.mul hok fun t2 k => ⟨.str _, H, I.tok _, ⟨_, rfl⟩, q⟩
/-- text[::-1] -/
def tRevS (te : TE) : TE := fun σ H Q => te σ H fun x H1 => ∃ l : List Nat, x = .str (S l) ∧ l.length ≤ sizeLine ∧ Q (.str (S l.reverse)) H1
theorem sliceMade_rev (l : List Nat) (t u : Tok) : sliceMade (S l) t none none (some (-1, u)) = .str (S l.reverse) := by
  have h := step_rev_list (S l) u
  unfold Txt.sliceBy at h
  unfold sliceMade
  have h1 : ¬ (((((some ((-1 : Int), u)).map (·.1)).getD 1 == 1) && ((slicePicked (S l) none none (some (-1, u))).length == (S l).length)) = true) := by
    have : ((((some ((-1 : Int), u)).map (·.1)).getD 1 == 1)) = false := rfl
    rw [this]; simp
  rw [if_neg h1] at h ⊢
  congr 1
  refine TL.ext_tl ?_
  refine h.trans ?_
  show _ = l.reverse
  refine List.ext_getElem? fun i => ?_
  rw [List.getElem?_map]
  by_cases hi : i < l.length
  · rw [List.getElem?_range (by simp [Str.length]; exact hi), List.getElem?_reverse hi]
    simp [Str.length]
    rw [List.getElem?_eq_getElem (by omega)]
    simp [Array.getD]
  · rw [List.getElem?_eq_none (by simp [Str.length]; omega), List.getElem?_eq_none (by simp; omega)]
    rfl
theorem pe_revS {e : Expr} {te : TE} {k : Nat} {p1 p2 p3 pos : Pos} (he : PE X e te) : PE X (.Subscript e (.Slice none none (some (.UnaryOp .USub (.Constant (.int 1) k p1) p2)) p3) pos) (tRevS te) := by
  refine ⟨fun pins s σ H Q I h => ?_⟩
  refine Subscript_ (thn (he.run pins s σ H _ I h) fun v s1 ⟨x, H1, I1, r1, q1⟩ => ?_)
  obtain ⟨l, ex, hl, q⟩ := q1
  subst ex
  obtain ⟨t, rfl⟩ := r1
  have hst : PO X (some (.UnaryOp .USub (.Constant (.int 1) k p1) p2)) (tPart (tUn (rU fun i => .int (-i)) (tC (.int 1)))) := po_some (pe_un un_neg pe_int)
  refine wpAny_Slice (thn (po_none.run pins s1 σ H1 (fun o H2 => o = none ∧ H2 = H1) I1 ⟨rfl, rfl⟩) fun vl s2 ⟨l1, H2, I2, pl, el, e2⟩ => ?_)
  subst el e2
  refine thn (po_none.run pins s2 σ H2 (fun o H3 => o = none ∧ H3 = H2) I2 ⟨rfl, rfl⟩) fun vu s3 ⟨u, H3, I3, pu, eu, e3⟩ => ?_
  subst eu e3
  refine thn (hst.run pins s3 σ H3 (fun o H4 => o = some (-1) ∧ H4 = H3) I3 ⟨1, rfl, -1, rfl, rfl, rfl⟩) fun vs s4 ⟨o, H4, I4, ps, eo, e4⟩ => ?_
  subst eo e4
  have I5 : Inv X pins σ H4 { s4 with heap := s4.heap.push { cls := .type "slice", data := .fields #[vl, vu, vs] } } := I4.kept (t' := s4.toks) fun b ob q => Heap.get?_push_of_some _ q
  obtain ⟨a1, rfl, ea1⟩ := IsPart.raw pl
  obtain ⟨a2, rfl, ea2⟩ := IsPart.raw pu
  obtain ⟨a3, rfl, ea3⟩ := IsPart.raw ps
  have e1 : a1 = none := by cases a1 with | none => rfl | some _ => cases ea1
  have e2 : a2 = none := by cases a2 with | none => rfl | some _ => cases ea2
  subst e1 e2
  cases a3 with
  | none => cases ea3
  | some w =>
    obtain ⟨w1, w2⟩ := w
    have e3 : w1 = -1 := Option.some.inj ea3
    subst e3
    show wpAny (model X.prog X.w) X.A (subscriptTail e (.Slice none none (some (.UnaryOp .USub (.Constant (.int 1) k p1) p2)) p3) (.str (S l) t) (.ref s4.heap.objs.size)) (EP X pins σ Q) X.xe _
    refine tail_any (ops := [.str (S l) t, .ref s4.heap.objs.size]) (typeIs_str _ _ _) PySem.F.slot_str_getitem.lookup ?_ (by with_unfolding_all rfl)
    refine wpAny_getItem_str_slice (l := none) (u := none) (st := some (-1, w2)) ⟨_, Heap.get?_push_size _ rfl, rfl, rfl⟩ (by rfl) ?_
    rw [sliceMade_rev]
    exact ⟨by rw [S_len, List.length_reverse]; exact hl, .str _, H4, I5.tok _, ⟨_, rfl⟩, q⟩
/-- an expression, then the rest from a word of one's own -/
def tCutE (t : TE) : TE := fun σ H Q => ∃ Mid : V → Hp → Prop, t σ H Mid ∧ ∀ v H', Mid v H' → Q v H'
theorem pe_cut {e : Expr} {t : TE} (h : PE X e t) : PE X e (tCutE t) := by
  refine ⟨fun pins s σ H Q I hw => ?_⟩
  obtain ⟨Mid, h1, h2⟩ := hw
  exact thn (h.run pins s σ H Mid I h1) fun v s1 ⟨x, H1, I1, r1, q1⟩ => ⟨x, H1, I1, r1, h2 _ _ q1⟩
def tCutT (t : TT) : TT := fun σ H Q => ∃ Mid : Bool → Hp → Prop, t σ H Mid ∧ ∀ v H', Mid v H' → Q v H'
theorem pt_cut {e : Expr} {t : TT} (h : PT X e t) : PT X e (tCutT t) := by
  refine ⟨fun pins s σ H Q I hw => ?_⟩
  obtain ⟨Mid, h1, h2⟩ := hw
  exact thn (h.run pins s σ H Mid I h1) fun v s1 ⟨H1, I1, q1⟩ => ⟨H1, I1, h2 _ _ q1⟩
/-- list(text) -/
theorem call_list_txt (hc : X.calm = true) : CallR X (.type "list") (fun xs H Q => ∃ l : List Nat, xs = [.str (S l)] ∧ l.length ≤ sizeLine ∧ ∀ p, H p = none → Q (.ref p) (upd H p (.lst (l.map fun c => V.str (S [c]))))) := by
  intro pins s σ H xs us Q I r h
  obtain ⟨l, rfl, hz, q⟩ := h
  obtain ⟨u, rfl, ru⟩ := vals1 r
  obtain ⟨t, rfl⟩ := ru
  refine PySem.call_list_str (I.ok.hd hc) (S l) t (fun h' tk acc c' hk e hi => ?_) (by simpa using hz)
  refine ⟨.ref s.heap.objs.size, upd H s.heap.objs.size (.lst (l.map fun c => V.str (S [c]))), I.laid hk (Nat.le_refl _) ⟨by rw [List.length_map]; exact hz, acc.toList, c', ?_, by rw [Array.toArray_toList]; exact e⟩, rfl, q _ (I.hok.fresh (Nat.le_refl _))⟩
  refine vals_of_idx _ _ (by rw [List.length_map, Array.length_toList]; simpa using hi.1) fun j u hj => ?_
  obtain ⟨c, t', hc, rfl⟩ := hi.2 j u (by rw [← Array.getElem?_toList]; exact hj)
  refine ⟨.str (S [c]), ?_, ⟨_, rfl⟩⟩
  rw [List.getElem?_map]
  have : l[j]? = some c := by simpa using hc
  rw [this]
  rfl
end

/-! ### enumerate(text) -/
def Ites (l : List Nat) : It :=
  ⟨fun i _ => i < l.length, fun i H v H' => ∃ T c, v = .ref T ∧ H T = none ∧ H' = upd H T (.tup [.int (i : Nat), .str (S [c])]) ∧ l[i]? = some c, fun i _ => i = l.length⟩
theorem turn_enumS {P : Program} {w : World} {K : PySem.W.Frag} {elts : List Expr} {kk : Nat} {tpos : Pos} (l : List Nat) (t : Tok) (ty : String) (hty : ty = "str_ascii_iterator" ∨ ty = "str_iterator") (e it : Addr) :
    Turn P w K (.Tuple elts kk tpos) (Ites l) [e, it] e (fun i h => (∃ old, IsEnum h e it ((i : Nat) : Int) old) ∧ h.IsStrIter it ty (S l) t i ∧ e ≠ it) where
  mem := by simp
  obj := fun i h st b hb => by
    obtain ⟨⟨old, he⟩, ⟨o, ho, hc, hd⟩, _⟩ := st
    have e' : b = e ∨ b = it := by simpa using hb
    rcases e' with z | z
    · rw [z]; exact ⟨_, he, fun v q => nomatch q⟩
    · rw [z]; exact ⟨o, ho, fun v q => by rw [hd] at q; cases q⟩
  keep := fun i h h' st k => let ⟨⟨old, he⟩, ⟨o, ho, r⟩, hne⟩ := st; ⟨⟨old, k e (by simp) _ he⟩, ⟨o, k it (by simp) o ho, r⟩, hne⟩
  item := by
    intro X hP hw hK hc i pins s σ H E I hf st hg
    subst hP hw hK
    obtain ⟨⟨old, he⟩, hit, hne⟩ := st
    have hel : e < s.heap.objs.size := Heap.lt_size he
    have hil : it < s.heap.objs.size := by obtain ⟨_, q, _⟩ := hit; exact Heap.lt_size q
    have D : Draws X.prog X.w X.A.in1 it [it] (S l).cps.size (fun i v => ∃ c u, (S l).cps[i]? = some c ∧ v = .str ⟨#[c]⟩ u) (fun i h => h.IsStrIter it ty (S l) t i) := by
      rcases hty with z | z
      · rw [z]; exact Draws.strAscii (A := X.A.in1) (I.ok.hd hc) it (S l) t
      · rw [z]; exact Draws.strWide (A := X.A.in1) (I.ok.hd hc) it (S l) t
    have hlt : i < (S l).cps.size := by
      have : i < l.length := hg
      simpa using this
    refine wpAny_pyNext_enum_itemD D he hit hlt hne (by simpa using hne) fun u h' tk hP ho hit' hT hsz hk => ?_
    obtain ⟨c, tu, hcx, rfl⟩ := hP
    have hlc : l[i]? = some c := by simpa using hcx
    refine ⟨_, rfl, wpAny_letOwnedTupleGo_enum (s := { s with heap := h', toks := tk + 1 }) ho fun h'' he' sb => ?_⟩
    have hT2 : h''.get? s.heap.objs.size = some { cls := .type "tuple", data := .seq #[.int i tk, .str ⟨#[c]⟩ tu] } := (sb.2 _ (Nat.ne_of_gt hel)).trans hT
    have new : ObjOk X.prog X.w (upd H s.heap.objs.size (.tup [.int (i : Nat), .str (S [c])])) h'' s.heap.objs.size (.tup [.int (i : Nat), .str (S [c])]) :=
      ⟨by show 2 ≤ sizeLine; decide, [.int i tk, .str ⟨#[c]⟩ tu], .cons ⟨_, rfl⟩ (.cons ⟨_, rfl⟩ .nil), ⟨_, hT2, rfl, _, rfl⟩⟩
    have I1 : Inv X pins σ (upd H s.heap.objs.size (.tup [.int (i : Nat), .str (S [c])])) { s with heap := h'', toks := tk + 1 } :=
      I.turnedNew (ch := [e, it]) (fun b ob hb q => (sb.2 b (fun z => hb (by simp [z]))).trans (hk b ob (fun z => hb (by simp [z])) (fun z => hb (by simp [z])) q)) hf (Nat.le_refl _) new
    obtain ⟨oi, hoi, roi⟩ := hit'
    refine ⟨.ref s.heap.objs.size, _, I1, rfl, ⟨_, c, rfl, I.hok.fresh (Nat.le_refl _), rfl, hlc⟩, ⟨⟨.str ⟨#[c]⟩ tu, ?_⟩, ⟨oi, (sb.2 it (Ne.symm hne)).trans hoi, roi⟩, hne⟩, fun b hb => ?_⟩
    · have e1 : ((i + 1 : Nat) : Int) = (i : Int) + 1 := by omega
      rw [e1]; exact he'
    · have hb' : b < s.heap.objs.size := by
        have e' : b = e ∨ b = it := by simpa using hb
        rcases e' with z | z
        · rw [z]; exact hel
        · rw [z]; exact hil
      rw [upd_ne (Nat.ne_of_lt hb')]
      exact (hf b hb).1
  done := by
    intro X hP hw hK hc i pins s σ H E I hf st hg
    subst hP hw hK
    obtain ⟨⟨old, he⟩, hit, hne⟩ := st
    obtain ⟨f0, f1, f2, f3, f4, f5⟩ := hf it (by simp)
    have D : Draws X.prog X.w X.A.in1 it [it] (S l).cps.size (fun i v => ∃ c u, (S l).cps[i]? = some c ∧ v = .str ⟨#[c]⟩ u) (fun i h => h.IsStrIter it ty (S l) t i) := by
      rcases hty with z | z
      · rw [z]; exact Draws.strAscii (A := X.A.in1) (I.ok.hd hc) it (S l) t
      · rw [z]; exact Draws.strWide (A := X.A.in1) (I.ok.hd hc) it (S l) t
    have hg' : i = (S l).cps.size := by
      have : i = l.length := hg
      simpa using this
    rw [hg'] at hit
    exact wpAny_pyNext_enum_endD D he hit fun h' eb => ⟨rfl, I.turned (t' := s.toks) (fun b o hb q => eb b o hb q) f0 f1 f3 f4 f5⟩
  self := fun A i s Q E st h => let ⟨⟨_, he⟩, _⟩ := st; wpAny_pyIter_enum he h
def iEnumS (ta : TA) : TI := fun σ H R => ta σ H fun vs H1 => ∃ l : List Nat, vs = [.str (S l)] ∧ R (Ites l) H1
theorem pi_enumS {X : Cx} {e : Expr} {ta : TA} {p pos tpos : Pos} {elts : List Expr} {kk : Nat} (hg : Gl X "enumerate") (hm : X.mg "enumerate" = none) (ha : PA X [e] ta) (hs : starEach [e] X.env = [(false, eval e X.env)] := by rfl) :
    PI X (.Tuple elts kk tpos) (.Call (.Name "enumerate" p) [e] [] pos) (iEnumS ta) := by
  refine ⟨fun pins s σ H R I h => ?_⟩
  refine Call_ (ld_blt I hg hm boot_enumerate (PyProof.Rows.callWith_type1 (thn (ha.run pos pins s σ H _ I h) fun us s1 ⟨vs, H1, I1, r1, q1⟩ => ?_) hs rfl))
  obtain ⟨l, ex, q⟩ := q1
  subst ex
  cases r1 with
  | cons r rr =>
    cases rr
    obtain ⟨t, rfl⟩ := r
    refine call_enumerate_str fun h' he hit hsz hk => wpAny_pyIter_enum he ?_
    have I2 : Inv X pins σ H1 { s1 with heap := h' } := I1.kept (t' := s1.toks) hk
    have hty : strIterType (S l) = "str_ascii_iterator" ∨ strIterType (S l) = "str_iterator" := by
      unfold strIterType
      split
      · exact .inl rfl
      · exact .inr rfl
    refine ⟨s1.heap.objs.size + 1, [s1.heap.objs.size + 1, s1.heap.objs.size], _, _, H1, rfl, I2, turn_enumS l t _ hty (s1.heap.objs.size + 1) s1.heap.objs.size, ⟨⟨.none, he⟩, hit, Nat.succ_ne_self _⟩, fun b hb => ?_, q⟩
    have e' : b = s1.heap.objs.size + 1 ∨ b = s1.heap.objs.size := by simpa using hb
    have hle : s1.heap.objs.size ≤ b := by
      rcases e' with z | z
      · rw [z]; exact Nat.le_add_right _ _
      · rw [z]; exact Nat.le_refl _
    exact I1.fpOk hle (I1.hok.fresh hle)
theorem walk_enumS {l : List Nat} : Walk (Ites l) l.length (fun _ => True) (fun i H v H' => ∃ T c, v = .ref T ∧ H T = none ∧ H' = upd H T (.tup [.int (i : Nat), .str (S [c])]) ∧ l[i]? = some c) :=
  ⟨fun _ _ hi _ => hi, fun _ _ => rfl, fun _ _ _ _ _ _ y => y⟩
theorem walk_strL {l : List Nat} : Walk (Its (S l)) l.length (fun _ => True) (fun i H v H' => H' = H ∧ ∃ c, l[i]? = some c ∧ v = .str (S [c])) :=
  ⟨fun i _ hi _ => by show i < (S l).cps.size; simpa using hi, fun _ _ => by show (S l).cps.size ≤ l.length; simp, fun i _ _ _ _ _ y => by
    obtain ⟨h1, c, h2, h3⟩ := y
    exact ⟨h1, c, by simpa using h2, h3⟩⟩

/-! ### texts by codes -/
theorem mulOk_one (c : Nat) {n : Int} (h0 : 0 ≤ n) (h1 : n ≤ 1000) : MulOk (S [c]) n := by
  have hl : (S [c]).length = 1 := rfl
  refine ⟨?_, fun h2 h3 => ?_, fun h2 h3 => ?_⟩
  · have a1 : ¬ n < -(2 ^ 63 : Int) := by omega
    have a2 : ¬ n ≥ 2 ^ 63 := by omega
    rw [decide_eq_false a1, decide_eq_false a2]
    rfl
  · rw [hl]
    have : (1 : Int) ≤ (2 ^ 63 - 1) / n := by
      rw [Int.le_ediv_iff_mul_le (by omega)]
      omega
    omega
  · rw [hl]
    have : 1 * n.toNat ≤ 1000 := by omega
    unfold Builtin.Str.tooLong
    exact decide_eq_false (by
      have : sizeLine = 16777216 := sizeLine_eq
      first | omega | (simp; omega))
theorem mul_one (c : Nat) {n : Int} (h0 : 0 ≤ n) : Txt.mul (S [c]) n = S (List.replicate n.toNat c) := by
  unfold Txt.mul
  by_cases h1 : n < 1
  · have : n.toNat = 0 := by omega
    rw [if_pos h1, this]
    rfl
  · rw [if_neg h1]
    by_cases h2 : (n == 1 || (S [c]).length == 0) = true
    · rw [if_pos h2]
      have : n = 1 := by
        have hl : (S [c]).length = 1 := rfl
        rw [hl] at h2
        simpa using h2
      subst this
      rfl
    · rw [if_neg h2]
      refine TL.ext_tl ?_
      show ((List.replicate n.toNat #[c]).foldl (· ++ ·) #[]).toList = List.replicate n.toNat c
      have key : ∀ (k : Nat) (acc : Array Nat), ((List.replicate k #[c]).foldl (· ++ ·) acc).toList = acc.toList ++ List.replicate k c := by
        intro k
        induction k with
        | zero => intro acc; simp
        | succ k ih =>
          intro acc
          rw [List.replicate_succ, List.foldl_cons, ih]
          simp [List.replicate_succ]
      rw [key]
      simp
/-- the first place of a sign -/
theorem occ_at (l : List Nat) (c i : Nat) (h : l[i]? = some c) (hb : ∀ k, k < i → l[k]? ≠ some c) : ∃ r, Builtin.Str.occurrences (S l) (S [c]) 0 (S l).length 1 = i :: r := by
  have iff1 : ∀ k, StrLaws.At (S l) (S [c]) (S l).length k ↔ l[k]? = some c := fun k => StrLaws.subAt_one (S l) c k
  rcases StrLaws.occ_head (S l) (S [c]) 1 (Nat.le_refl 1) with ⟨_, hn⟩ | ⟨j, r, e, hj, hk⟩
  · exact absurd ((iff1 i).mpr h) (hn i)
  · have e1 : j = i := by
      rcases Nat.lt_trichotomy j i with q | q | q
      · exact absurd ((iff1 j).mp hj) (hb j q)
      · exact q
      · exact absurd ((iff1 i).mpr h) (hk i q)
    exact ⟨r, by rw [e, e1]⟩
theorem cnt_count (c : Nat) : ∀ l : List Nat, cnt c l = (l.count c : Nat)
  | [] => by rw [cnt_nil]; rfl
  | n :: r => by
    rw [cnt_cons, cnt_count c r, List.count_cons]
    by_cases h : n = c
    · subst h; simp; omega
    · simp [h]
theorem count_S (l : List Nat) (c : Nat) : Txt.count (S l) (S [c]) = (l.count c : Nat) := by
  rw [← cnt_count]
  exact PyProof.Rows.count_is (S l) c
theorem joinL_one : ∀ l : List Nat, TL.joinL [] (l.map fun c => [c]) = l
  | [] => rfl
  | [c] => rfl
  | c :: d :: r => by
    have ih := joinL_one (d :: r)
    show [c] ++ [] ++ TL.joinL [] ((d :: r).map fun c => [c]) = c :: d :: r
    rw [ih]
    rfl
theorem join_one (l : List Nat) : Txt.join (S []) (l.map fun c => S [c]) = S l := by
  have e : l.map (fun c => S [c]) = (l.map fun c => [c]).map S := by rw [List.map_map]; rfl
  rw [e, join_S, joinL_one]
theorem join_size (l : List Nat) (h : l.length ≤ 1000) : ((l.map fun c => S [c]).map (·.length)).sum ≤ 1000 := by
  have : ((l.map fun c => S [c]).map (·.length)).sum = l.length := by
    induction l with
    | nil => rfl
    | cons c r ih =>
      rw [List.map_cons, List.map_cons, List.sum_cons, ih (by simp at h; omega)]
      show 1 + r.length = r.length + 1
      omega
  omega
theorem cutS_S (l : List Nat) (lo hi : Option Int) : cutS (S l) lo hi = S ((l.drop (HT.sIx l.length 0 lo)).take (HT.sIx l.length l.length hi - HT.sIx l.length 0 lo)) := by
  unfold cutS
  rw [S_len]
/-- l[i:j] for places in the list or beyond -/
theorem cutS_nn (l : List Nat) (i j : Nat) : cutS (S l) (some (i : Int)) (some (j : Int)) = S ((l.drop i).take (j - i)) := by
  rw [cutS_S, HT.sIx_nat, HT.sIx_nat]
  congr 1
  by_cases h : i ≤ l.length
  · rw [Nat.min_eq_left h]
    by_cases h2 : j ≤ l.length
    · rw [Nat.min_eq_left h2]
    · rw [Nat.min_eq_right (by omega), List.take_of_length_le (by simp), List.take_of_length_le (by simp; omega)]
  · rw [List.drop_of_length_le (by omega), List.drop_of_length_le (by omega)]
    simp
theorem cutS_to (l : List Nat) (j : Nat) : cutS (S l) none (some (j : Int)) = S (l.take j) := by
  rw [cutS_S, HT.sIx_nat, HT.sIx_none]
  congr 1
  rw [List.drop_zero, Nat.sub_zero]
  by_cases h2 : j ≤ l.length
  · rw [Nat.min_eq_left h2]
  · rw [Nat.min_eq_right (by omega), List.take_of_length_le (by simp), List.take_of_length_le (by omega)]
theorem cutS_from (l : List Nat) (i : Nat) : cutS (S l) (some (i : Int)) none = S (l.drop i) := by
  rw [cutS_S, HT.sIx_nat, HT.sIx_none]
  congr 1
  by_cases h : i ≤ l.length
  · rw [Nat.min_eq_left h, List.take_of_length_le (by simp)]
  · rw [List.drop_of_length_le (by omega), List.drop_of_length_le (by omega)]
    simp
end PR

/-! Padleap in plain Lean: how many moves are left, by both readings; the mirror. -/
namespace PL
/-! ### sums up to a place -/
def upto (g : Nat → Int) : Nat → Int
  | 0 => 0
  | i + 1 => upto g i + g i
theorem upto_congr {g h : Nat → Int} : ∀ {n : Nat}, (∀ i, i < n → g i = h i) → upto g n = upto h n
  | 0, _ => rfl
  | n + 1, e => by
    show upto g n + g n = upto h n + h n
    rw [upto_congr fun i hi => e i (by omega), e n (by omega)]
theorem upto_sub (g h : Nat → Int) : ∀ n, upto g n - upto h n = upto (fun i => g i - h i) n
  | 0 => rfl
  | n + 1 => by
    have := upto_sub g h n
    show upto g n + g n - (upto h n + h n) = upto (fun i => g i - h i) n + (g n - h n)
    omega
theorem upto_add (g h : Nat → Int) : ∀ n, upto g n + upto h n = upto (fun i => g i + h i) n
  | 0 => rfl
  | n + 1 => by
    have := upto_add g h n
    show upto g n + g n + (upto h n + h n) = upto (fun i => g i + h i) n + (g n + h n)
    omega
/-! ### the program's sums -/
def stp (c : List Nat) (j : Nat) : Int :=
  if c[j]? = some 97 then (c.length : Int) - (c.count 97 : Nat) + ((c.take j).count 97 : Nat) - j else if c[j]? = some 98 then (j : Int) - ((c.take j).count 98 : Nat) else 0
def lps (c : List Nat) (j : Nat) : Int := if c[j]? = some 97 then ((c.drop j).count 98 : Nat) else 0
/-- what a sign adds, by what stands ahead of it and behind it -/
def part (P : List Nat) (x : Nat) (S : List Nat) : Int :=
  if x = 97 then (S.count 46 : Nat) else if x = 98 then ((P.count 97 : Nat) : Int) + (P.count 46 : Nat) else 0
def whole : List Nat → List Nat → Int
  | _, [] => 0
  | P, x :: S => part P x S + whole (P ++ [x]) S
def Sgs (c : List Nat) : Prop := ∀ x ∈ c, x = 97 ∨ x = 98 ∨ x = 46
theorem sgs_len {c : List Nat} (h : Sgs c) : c.length = c.count 97 + c.count 98 + c.count 46 := by
  induction c with
  | nil => rfl
  | cons x r ih =>
    have := ih fun y hy => h y (List.mem_cons_of_mem _ hy)
    rcases h x List.mem_cons_self with rfl | rfl | rfl <;> simp <;> omega
theorem part_is {P S : List Nat} {x : Nat} (h : Sgs (P ++ x :: S)) : stp (P ++ x :: S) P.length - lps (P ++ x :: S) P.length = part P x S := by
  have hP : Sgs P := fun y hy => h y (List.mem_append.mpr (.inl hy))
  have hS : Sgs S := fun y hy => h y (List.mem_append.mpr (.inr (List.mem_cons_of_mem _ hy)))
  have lP := sgs_len hP
  have lS := sgs_len hS
  have e1 : (P ++ x :: S)[P.length]? = some x := by simp
  have e2 : (P ++ x :: S).take P.length = P := by simp
  have e3 : (P ++ x :: S).drop P.length = x :: S := by simp
  unfold stp lps part
  rw [e1, e2, e3]
  rcases h x (by simp) with rfl | rfl | rfl
  · simp; omega
  · simp; omega
  · simp
theorem whole_is : ∀ (S P : List Nat), Sgs (P ++ S) → upto (fun j => stp (P ++ S) j - lps (P ++ S) j) (P.length + S.length) - upto (fun j => stp (P ++ S) j - lps (P ++ S) j) P.length = whole P S
  | [], P, _ => by simp [whole]
  | x :: S, P, h => by
    have e : P ++ x :: S = (P ++ [x]) ++ S := by simp
    have ih := whole_is S (P ++ [x]) (by rw [← e]; exact h)
    rw [← e] at ih
    have hl : (P ++ [x]).length = P.length + 1 := by simp
    rw [hl] at ih
    have hp := part_is h
    have e2 : P.length + (x :: S).length = P.length + 1 + S.length := by simp; omega
    show _ = part P x S + whole (P ++ [x]) S
    rw [e2, ← ih, ← hp]
    show _ = _ + (_ - (upto (fun j => stp (P ++ x :: S) j - lps (P ++ x :: S) j) P.length + (stp (P ++ x :: S) P.length - lps (P ++ x :: S) P.length)))
    omega
theorem sgs_map (l : List Bool) : Sgs (l.map sg) := fun x hx => by
  obtain ⟨b, _, e⟩ := List.mem_map.mp hx
  cases b <;> simp [sg] at e <;> omega
theorem sgs_cps (z : Zp) : Sgs (cps z) := fun x hx => by
  unfold cps at hx
  rcases List.mem_append.mp hx with h | h
  · exact sgs_map _ x h
  · rcases List.mem_cons.mp h with h | h
    · exact .inr (.inr h)
    · exact sgs_map _ x h
theorem cnt_sg_a (l : List Bool) : (l.map sg).count 97 = l.count true := by
  induction l with
  | nil => rfl
  | cons x r ih => cases x <;> simp [sg, ih]
theorem cnt_sg_b (l : List Bool) : (l.map sg).count 98 = l.count false := by
  induction l with
  | nil => rfl
  | cons x r ih => cases x <;> simp [sg, ih]
theorem cnt_sg_o (l : List Bool) : (l.map sg).count 46 = 0 := List.count_eq_zero_of_not_mem (map_sg_no l)
theorem whole_left : ∀ (A : List Bool) (P X : List Nat), P.count 46 = 0 → X.count 46 = 1 → whole P (A.map sg ++ X) = (A.count true : Nat) + (inv A : Nat) + ((P.count 97 * A.count false : Nat) : Int) + whole (P ++ A.map sg) X
  | [], P, X, _, _ => by simp [inv]
  | x :: A, P, X, hP, hX => by
    have ih := whole_left A (P ++ [sg x]) X (by cases x <;> simp [sg, hP]) hX
    show part P (sg x) (A.map sg ++ X) + whole (P ++ [sg x]) (A.map sg ++ X) = _
    rw [ih]
    have e : P ++ [sg x] ++ A.map sg = P ++ (x :: A).map sg := by simp
    rw [e]
    cases x with
    | true =>
      simp [part, sg, inv, List.count_append, hX, cnt_sg_o, Nat.add_mul]
      omega
    | false =>
      simp [part, sg, inv, List.count_append, hP, Nat.mul_add]
      omega
theorem whole_right : ∀ (B : List Bool) (P : List Nat), P.count 46 = 1 → whole P (B.map sg) = (inv B : Nat) + ((P.count 97 * B.count false : Nat) : Int) + (B.count false : Nat)
  | [], P, _ => by simp [whole, inv]
  | x :: B, P, hP => by
    have ih := whole_right B (P ++ [sg x]) (by cases x <;> simp [sg, hP])
    show part P (sg x) (B.map sg) + whole (P ++ [sg x]) (B.map sg) = _
    rw [ih]
    cases x with
    | true =>
      simp [part, sg, inv, List.count_append, cnt_sg_o, Nat.add_mul]
      omega
    | false =>
      simp [part, sg, inv, List.count_append, hP, Nat.mul_add]
      omega
/-- THE PROGRAM'S COUNT: as many as are left -/
theorem left_prog (z : Zp) : upto (stp (cps z)) (pads z) - upto (lps (cps z)) (pads z) = (mleft z : Nat) := by
  rw [upto_sub]
  have h := whole_is (cps z) [] (by simpa using sgs_cps z)
  simp only [List.nil_append, List.length_nil, Nat.zero_add, upto, Int.sub_zero] at h
  rw [cps_len] at h
  rw [h]
  have e1 : cps z = (z.1.reverse).map sg ++ 46 :: z.2.map sg := rfl
  rw [e1, whole_left _ _ _ rfl (by simp [cnt_sg_o])]
  show _ + (part ([] ++ (z.1.reverse).map sg) 46 (z.2.map sg) + whole ([] ++ (z.1.reverse).map sg ++ [46]) (z.2.map sg)) = _
  rw [whole_right _ _ (by simp [List.count_append, cnt_sg_o])]
  simp only [List.nil_append, List.count_append, cnt_sg_a, List.count_reverse]
  simp [part, mleft, inv_append]
  omega

/-! ### the law's count: places -/
def posn (c : List Nat) (k : Nat) : List Nat := (List.range c.length).filter fun i => decide (c[i]? = some k)
theorem sum_filter (p : Nat → Bool) : ∀ n, ((((List.range n).filter p).map fun n : Nat => (n : Int)).sum) = upto (fun j => if p j = true then (j : Int) else 0) n
  | 0 => rfl
  | n + 1 => by
    have := sum_filter p n
    rw [List.range_succ, List.filter_append, List.map_append, List.sum_append, this]
    show _ = _ + _
    congr 1
    by_cases h : p n = true <;> simp [h]
/-- the k-th one counts k -/
theorem upto_rank (c : List Nat) (k : Nat) (b : Int) : ∀ n, n ≤ c.length → upto (fun j => if c[j]? = some k then b + ((c.take j).count k : Nat) else 0) n = upto (fun j => b + (j : Nat)) ((c.take n).count k)
  | 0, _ => by simp [upto]
  | n + 1, h => by
    have ih := upto_rank c k b n (by omega)
    have hn : n < c.length := by omega
    have et : c.take (n + 1) = c.take n ++ [c[n]] := by rw [List.take_succ, List.getElem?_eq_getElem hn]; rfl
    show upto _ n + (if c[n]? = some k then b + ((c.take n).count k : Nat) else 0) = _
    rw [ih, et, List.count_append]
    by_cases e : c[n] = k
    · have e2 : c[n]? = some k := by rw [List.getElem?_eq_getElem hn, e]
      rw [if_pos e2, e]
      simp [upto]
    · have e2 : ¬ c[n]? = some k := by rw [List.getElem?_eq_getElem hn]; exact fun z => e (Option.some.inj z)
      rw [if_neg e2]
      simp [e, List.count_cons]
theorem upto_rank_all (c : List Nat) (k : Nat) (b : Int) : upto (fun j => if c[j]? = some k then b + ((c.take j).count k : Nat) else 0) c.length = upto (fun j => b + (j : Nat)) (c.count k) := by
  rw [upto_rank c k b c.length (Nat.le_refl _), List.take_length]
/-- a list whose places of k are b, b + 1, .. -/
theorem posn_block (c : List Nat) (k : Nat) (b : Int) (h : ∀ j : Nat, c[j]? = some k → (j : Int) = b + ((c.take j).count k : Nat)) : ((posn c k).map fun n : Nat => (n : Int)).sum = upto (fun j => b + (j : Nat)) (c.count k) := by
  unfold posn
  rw [sum_filter, ← upto_rank_all]
  refine upto_congr fun j _ => ?_
  by_cases e : c[j]? = some k
  · rw [if_pos (decide_eq_true e), if_pos e]
    exact h j e
  · rw [if_neg (by simpa using e), if_neg e]
theorem goal_codes (z : Zp) : cps (goal z) = List.replicate (nb z) 98 ++ 46 :: List.replicate (na z) 97 := by
  simp [cps, goal, sg]
theorem cps_na (z : Zp) : (cps z).count 97 = na z := by
  unfold cps na
  rw [List.count_append, cnt_sg_a, List.count_reverse, List.count_cons, cnt_sg_a]
  simp
theorem cps_nb (z : Zp) : (cps z).count 98 = nb z := by
  unfold cps nb
  rw [List.count_append, cnt_sg_b, List.count_reverse, List.count_cons, cnt_sg_b]
  simp
theorem na_goal (z : Zp) : na (goal z) = na z := by simp [na, goal, List.count_replicate]
theorem nb_goal (z : Zp) : nb (goal z) = nb z := by simp [nb, goal, List.count_replicate]
theorem ends_a (z : Zp) : ((posn (cps (goal z)) 97).map fun n : Nat => (n : Int)).sum = upto (fun j => ((nb z : Nat) : Int) + 1 + (j : Nat)) (na z) := by
  rw [posn_block (cps (goal z)) 97 ((nb z : Nat) + 1), cps_na, na_goal]
  intro j hj
  rw [goal_codes] at hj ⊢
  rcases Nat.lt_trichotomy j (nb z) with h | h | h
  · rw [List.getElem?_append_left (by simp; omega), List.getElem?_replicate_of_lt h] at hj
    cases hj
  · subst h
    simp at hj
  · have e : (List.replicate (nb z) 98 ++ 46 :: List.replicate (na z) 97).take j = List.replicate (nb z) 98 ++ 46 :: List.replicate (min (j - nb z - 1) (na z)) 97 := by
      rw [List.take_append, List.take_of_length_le (by simp; omega)]
      congr 1
      obtain ⟨m, hm⟩ : ∃ m, j - (List.replicate (nb z) 98).length = m + 1 := ⟨j - nb z - 1, by simp; omega⟩
      rw [hm, List.take_succ_cons, List.take_replicate]
      congr 2
      simp at hm
      omega
    have hlt : j < (List.replicate (nb z) 98 ++ 46 :: List.replicate (na z) 97).length := (List.getElem?_eq_some_iff.mp hj).1
    simp at hlt
    rw [e]
    simp [List.count_append, List.count_cons, List.count_replicate]
    omega
theorem ends_b (z : Zp) : ((posn (cps (goal z)) 98).map fun n : Nat => (n : Int)).sum = upto (fun j => (0 : Int) + (j : Nat)) (nb z) := by
  rw [posn_block (cps (goal z)) 98 0, cps_nb, nb_goal]
  intro j hj
  rw [goal_codes] at hj ⊢
  rcases Nat.lt_trichotomy j (nb z) with h | h | h
  · rw [List.take_append_of_le_length (by simp; omega), List.take_replicate]
    simp [List.count_replicate]
    omega
  · subst h
    simp at hj
  · rw [List.getElem?_append_right (by simp; omega)] at hj
    obtain ⟨m, hm⟩ : ∃ m, j - (List.replicate (nb z) 98).length = m + 1 := ⟨j - nb z - 1, by simp; omega⟩
    rw [hm, List.getElem?_cons_succ] at hj
    have := List.mem_of_getElem? hj
    simp at this
/-- the pads that all go by -/
theorem steps_law (z : Zp) : ((posn (cps (goal z)) 97).map fun n : Nat => (n : Int)).sum - ((posn (cps z) 97).map fun n : Nat => (n : Int)).sum + ((posn (cps z) 98).map fun n : Nat => (n : Int)).sum - ((posn (cps (goal z)) 98).map fun n : Nat => (n : Int)).sum = upto (stp (cps z)) (pads z) := by
  have hl := cps_len z
  have hn := na_nb z
  rw [ends_a, ends_b, ← cps_na, ← upto_rank_all, ← cps_nb, ← upto_rank_all]
  unfold posn
  rw [sum_filter, sum_filter, upto_sub, upto_add, upto_sub, hl]
  refine upto_congr fun j hj => ?_
  unfold stp
  simp only [decide_eq_true_eq]
  rw [hl, cps_na, cps_nb]
  by_cases h1 : (cps z)[j]? = some 97
  · have h2 : ¬ (cps z)[j]? = some 98 := by rw [h1]; decide
    simp only [if_pos h1, if_neg h2]
    omega
  · by_cases h2 : (cps z)[j]? = some 98
    · simp only [if_neg h1, if_pos h2]
      omega
    · simp only [if_neg h1, if_neg h2]
      omega
/-- how many b's stand behind a place -/
theorem behind_count (c : List Nat) (k j : Nat) : ((posn c k).filter fun i => decide (j < i)).length = (c.drop (j + 1)).count k := by
  unfold posn
  rw [List.filter_filter]
  have key : ∀ n, n ≤ c.length → ((List.range n).filter fun i => decide (j < i) && decide (c[i]? = some k)).length = ((c.take n).drop (j + 1)).count k := by
    intro n
    induction n with
    | zero => intro _; simp
    | succ n ih =>
      intro hn
      have hlt : n < c.length := by omega
      have et : c.take (n + 1) = c.take n ++ [c[n]] := by rw [List.take_succ, List.getElem?_eq_getElem hlt]; rfl
      rw [List.range_succ, List.filter_append, List.length_append, ih (by omega), et, List.drop_append]
      rw [List.count_append]
      congr 1
      have hl : (c.take n).length = n := by simp; omega
      have hq := List.getElem?_eq_getElem hlt
      rw [hl]
      by_cases h1 : j < n
      · have e0 : j + 1 - n = 0 := by omega
        rw [e0, List.drop_zero]
        by_cases h2 : c[n] = k <;> simp [h1, h2, hq, List.count_cons]
      · have e1 : ([c[n]] : List Nat).drop (j + 1 - n) = [] := List.drop_of_length_le (by simp; omega)
        rw [e1]
        simp [h1]
  have := key c.length (Nat.le_refl _)
  rw [List.take_length] at this
  rw [← this]
theorem leaps_law (c : List Nat) : ((posn c 97).map fun j => (((posn c 98).filter fun i => decide (j < i)).length : Int)).sum = upto (lps c) c.length := by
  have key : ∀ n, (((List.range n).filter fun i => decide (c[i]? = some 97)).map fun j => (((posn c 98).filter fun i => decide (j < i)).length : Int)).sum = upto (lps c) n := by
    intro n
    induction n with
    | zero => rfl
    | succ n ih =>
      rw [List.range_succ, List.filter_append, List.map_append, List.sum_append, ih]
      show _ = upto (lps c) n + lps c n
      congr 1
      unfold lps
      by_cases h : c[n]? = some 97
      · rw [if_pos h]
        have hlt : n < c.length := (List.getElem?_eq_some_iff.mp h).1
        have e : c.drop n = 97 :: c.drop (n + 1) := by
          rw [List.drop_eq_getElem_cons hlt]
          congr 1
          exact (List.getElem?_eq_some_iff.mp h).2
        simp [h, behind_count, e]
      · rw [if_neg h]
        simp [h]
  exact key c.length
/-- THE LAW'S COUNT -/
theorem left_law (z : Zp) : ((posn (cps (goal z)) 97).map fun n : Nat => (n : Int)).sum - ((posn (cps z) 97).map fun n : Nat => (n : Int)).sum + ((posn (cps z) 98).map fun n : Nat => (n : Int)).sum - ((posn (cps (goal z)) 98).map fun n : Nat => (n : Int)).sum
    - ((posn (cps z) 97).map fun j => (((posn (cps z) 98).filter fun i => decide (j < i)).length : Int)).sum = (mleft z : Nat) := by
  rw [steps_law, leaps_law, cps_len, left_prog]

/-! ### the mirror -/
def mirror (z : Zp) : Zp := (z.2.map not, z.1.map not)
theorem mirror_mirror (z : Zp) : mirror (mirror z) = z := by
  obtain ⟨L, R⟩ := z
  have h : ∀ l : List Bool, (l.map not).map not = l := by
    intro l
    induction l with
    | nil => rfl
    | cons x r ih => cases x <;> simpa using ih
  unfold mirror
  rw [h, h]
theorem mirror_pads (z : Zp) : pads (mirror z) = pads z := by simp [mirror, pads]; omega
/-- the kinds exchanged -/
def sw (c : Nat) : Nat := if c = 97 then 98 else if c = 98 then 97 else c
theorem sw_sg (x : Bool) : sw (sg x) = sg (not x) := by cases x <;> rfl
theorem cps_mirror (z : Zp) : cps (mirror z) = (cps z).reverse.map sw := by
  obtain ⟨L, R⟩ := z
  have h : ∀ l : List Bool, (l.map sg).map sw = (l.map not).map sg := by
    intro l
    rw [List.map_map, List.map_map]
    exact List.map_congr_left fun x _ => sw_sg x
  unfold cps mirror
  simp only [List.reverse_append, List.reverse_cons, List.map_append, List.map_cons, List.map_nil, List.append_assoc, List.cons_append, List.nil_append]
  have e1 : List.map sg (List.map not R).reverse = List.map sw (List.map sg R).reverse := by
    rw [← List.map_reverse, ← List.map_reverse, h]
  have e2 : List.map sg (List.map not L) = List.map sw (List.map sg L.reverse).reverse := by
    rw [← h, List.map_reverse]
    simp
  rw [e1, e2]
  rfl
theorem cnt_not_t (l : List Bool) : (l.map not).count true = l.count false := by
  induction l with
  | nil => rfl
  | cons x r ih => cases x <;> simp [ih]
theorem cnt_not_f (l : List Bool) : (l.map not).count false = l.count true := by
  induction l with
  | nil => rfl
  | cons x r ih => cases x <;> simp [ih]
theorem inv_mirror : ∀ l : List Bool, inv ((l.reverse).map not) = inv l
  | [] => rfl
  | x :: r => by
    have ih := inv_mirror r
    rw [List.reverse_cons, List.map_append, inv_append, ih]
    have e : ((r.reverse).map not).count true = r.count false := by rw [cnt_not_t, List.count_reverse]
    rw [e]
    cases x <;> simp [inv]
    omega
theorem mirror_mleft (z : Zp) : mleft (mirror z) = mleft z := by
  obtain ⟨L, R⟩ := z
  have e : (R.map not).reverse ++ L.map not = ((L.reverse ++ R).reverse).map not := by simp
  unfold mleft mirror
  simp only
  rw [e, inv_mirror, cnt_not_t, cnt_not_f]
  omega
theorem mirror_na (z : Zp) : na (mirror z) = nb z := by simp [na, nb, mirror, cnt_not_t]; omega
theorem mirror_nb (z : Zp) : nb (mirror z) = na z := by simp [na, nb, mirror, cnt_not_f]; omega
theorem mirror_goal (z : Zp) : goal (mirror z) = mirror (goal z) := by
  unfold goal
  rw [mirror_na, mirror_nb]
  simp [mirror]
theorem mirror_next {z y : Zp} {p : Nat} (h : (p, y) ∈ next z) : (pads z - 1 - p, mirror y) ∈ next (mirror z) := by
  rcases next_cases h with ⟨L, R, rfl, rfl, rfl⟩ | ⟨L, R, rfl, rfl, rfl⟩ | ⟨L, R, rfl, rfl, rfl⟩ | ⟨L, R, rfl, rfl, rfl⟩
  · refine List.mem_append.mpr (.inr ?_)
    simp [mirror, nextR, pads]; omega
  · refine List.mem_append.mpr (.inr ?_)
    simp [mirror, nextR, pads]; omega
  · refine List.mem_append.mpr (.inl ?_)
    simp [mirror, nextL, pads]; omega
  · refine List.mem_append.mpr (.inl ?_)
    simp [mirror, nextL, pads]; omega
/-! ### beginnings -/
theorem mleft_begin (m n : Nat) : mleft (List.replicate m true, List.replicate n false) = m * n + m + n := by
  have h1 : ∀ m, inv (List.replicate m true) = 0 := by
    intro m
    induction m with
    | zero => rfl
    | succ n ih => simp [List.replicate_succ, inv, ih, List.count_replicate]
  have h2 : ∀ n, inv (List.replicate n false) = 0 := by
    intro n
    induction n with
    | zero => rfl
    | succ n ih => simp [List.replicate_succ, inv, ih]
  simp [mleft, inv_append, h1, h2, List.count_replicate]
end PL

/-! Padleap in plain Lean: all ways by number; the mirror has as many; how many standings there are. -/
namespace PL
/-! ### each way has as many moves as are left -/
theorem wl_len : ∀ (k : Nat) (z : Zp), mleft z ≤ k → ∀ w ∈ wl z, w.length = mleft z
  | k, z, hk, w, hw => by
    rw [wl_eq] at hw
    rcases List.mem_append.mp hw with h | h
    · by_cases hg : z = goal z
      · rw [if_pos hg] at h
        rw [List.mem_singleton.mp h, hg, mleft_goal]
        rfl
      · rw [if_neg hg] at h
        cases h
    · obtain ⟨q, hq, h⟩ := List.mem_flatMap.mp h
      obtain ⟨w', hw', rfl⟩ := List.mem_map.mp h
      have hm := next_mleft (z := z) (p := q.1) (y := q.2) hq
      match k, hk with
      | 0, hk => omega
      | k + 1, hk =>
        have := wl_len k q.2 (by omega) w' hw'
        rw [List.length_cons, this, hm]
/-! ### the way of a number -/
/-- how many ways the first i moves have -/
def pref (l : List (Nat × Zp)) (i : Nat) : Nat := ((l.take i).map fun q => ways q.2).sum
theorem pref_succ {l : List (Nat × Zp)} {i : Nat} {q : Nat × Zp} (h : l[i]? = some q) : pref l (i + 1) = pref l i + ways q.2 := by
  unfold pref
  rw [List.take_succ, h]
  simp
theorem pref_all (z : Zp) (h : z ≠ goal z) : pref (next z) (next z).length = ways z := by
  unfold pref
  rw [ways_eq, if_neg h, List.take_length, Nat.zero_add]
theorem way_at {z : Zp} (hz : z ≠ goal z) {i : Nat} {q : Nat × Zp} (h : (next z)[i]? = some q) {n : Nat} (h1 : pref (next z) i ≤ n) (h2 : n - pref (next z) i < ways q.2) :
    ∃ w, (wl q.2)[n - pref (next z) i]? = some w ∧ (wl z)[n]? = some (q.1 :: w) := by
  have hlt : n - pref (next z) i < (wl q.2).length := h2
  obtain ⟨w, hw⟩ : ∃ w, (wl q.2)[n - pref (next z) i]? = some w := ⟨_, List.getElem?_eq_getElem hlt⟩
  refine ⟨w, hw, ?_⟩
  rw [wl_eq, if_neg hz, List.nil_append]
  have hi : i < (next z).length := (List.getElem?_eq_some_iff.mp h).1
  have eq1 : next z = (next z).take i ++ q :: (next z).drop (i + 1) := by
    conv => lhs; rw [← List.take_append_drop i (next z)]
    congr 1
    rw [List.drop_eq_getElem_cons hi]
    congr 1
    exact (List.getElem?_eq_some_iff.mp h).2
  have el : (((next z).take i).flatMap fun q => (wl q.2).map (q.1 :: ·)).length = pref (next z) i := by
    rw [List.length_flatMap]
    unfold pref
    congr 1
    exact List.map_congr_left fun q _ => by rw [List.length_map]; rfl
  have ef : (next z).flatMap (fun q => (wl q.2).map (q.1 :: ·)) = (((next z).take i).flatMap fun q => (wl q.2).map (q.1 :: ·)) ++ ((wl q.2).map (q.1 :: ·) ++ (((next z).drop (i + 1)).flatMap fun q => (wl q.2).map (q.1 :: ·))) := by
    conv => lhs; rw [eq1]
    rw [List.flatMap_append, List.flatMap_cons]
  rw [ef, List.getElem?_append_right (by omega), el, List.getElem?_append_left (by rw [List.length_map]; exact hlt), List.getElem?_map, hw]
  rfl
theorem ways_lt {z : Zp} {n : Nat} (h : n < ways z) : ∃ w, (wl z)[n]? = some w := ⟨_, List.getElem?_eq_getElem h⟩
/-! ### mirrored as many -/
theorem nextL_mirror (z : Zp) : nextL (mirror z) = (nextR z).map fun q => (pads z - 1 - q.1, mirror q.2) := by
  obtain ⟨L, R⟩ := z
  match R with
  | [] => simp [mirror, nextL, nextR]
  | [true] => simp [mirror, nextL, nextR]
  | [false] => simp [mirror, nextL, nextR, pads]
  | true :: true :: R => simp [mirror, nextL, nextR]
  | true :: false :: R => simp [mirror, nextL, nextR, pads]; omega
  | false :: x :: R => simp [mirror, nextL, nextR, pads]; omega
theorem nextR_mirror (z : Zp) : nextR (mirror z) = (nextL z).map fun q => (pads z - 1 - q.1, mirror q.2) := by
  obtain ⟨L, R⟩ := z
  match L with
  | [] => cases R <;> simp [mirror, nextL, nextR]
  | [true] => cases R <;> (simp [mirror, nextL, nextR, pads]; try omega)
  | [false] => cases R <;> simp [mirror, nextL, nextR]
  | true :: x :: L => cases R <;> (simp [mirror, nextL, nextR, pads]; try omega)
  | false :: true :: L => cases R <;> (simp [mirror, nextL, nextR, pads]; try omega)
  | false :: false :: L => cases R <;> simp [mirror, nextL, nextR]
theorem mirror_is_goal (z : Zp) : mirror z = goal (mirror z) ↔ z = goal z := by
  rw [mirror_goal]
  constructor
  · intro h
    have := congrArg mirror h
    rwa [mirror_mirror, mirror_mirror] at this
  · intro h
    exact congrArg mirror h
theorem mirror_ways : ∀ (k : Nat) (z : Zp), mleft z ≤ k → ways (mirror z) = ways z
  | k, z, hk => by
    have ih : ∀ l : List (Nat × Zp), (∀ q ∈ l, q ∈ next z) → (l.map fun q => ways (mirror q.2)).sum = (l.map fun q => ways q.2).sum := by
      intro l
      induction l with
      | nil => intro _; rfl
      | cons q r ih =>
        intro h
        rw [List.map_cons, List.map_cons, List.sum_cons, List.sum_cons, ih fun x hx => h x (List.mem_cons_of_mem _ hx)]
        have hm := next_mleft (z := z) (p := q.1) (y := q.2) (h q List.mem_cons_self)
        match k, hk with
        | 0, hk => omega
        | k + 1, hk => rw [mirror_ways k q.2 (by omega)]
    rw [ways_eq, ways_eq z]
    congr 1
    · by_cases h : z = goal z
      · rw [if_pos h, if_pos ((mirror_is_goal z).mpr h)]
      · rw [if_neg h, if_neg fun e => h ((mirror_is_goal z).mp e)]
    · unfold next
      rw [nextL_mirror, nextR_mirror, List.map_append, List.map_map, List.map_map, List.sum_append, List.map_append, List.sum_append]
      have e1 := ih (nextR z) fun q hq => List.mem_append.mpr (.inr hq)
      have e2 := ih (nextL z) fun q hq => List.mem_append.mpr (.inl hq)
      show ((nextR z).map fun q => ways (mirror q.2)).sum + ((nextL z).map fun q => ways (mirror q.2)).sum = _
      rw [e1, e2]
      omega
/-! ### how many standings of at most nine pads -/
def bools : Nat → List (List Bool)
  | 0 => [[]]
  | n + 1 => (bools n).flatMap fun l => [true :: l, false :: l]
theorem mem_bools : ∀ l : List Bool, l ∈ bools l.length
  | [] => List.mem_singleton.mpr rfl
  | x :: l => by
    refine List.mem_flatMap.mpr ⟨l, mem_bools l, ?_⟩
    cases x <;> simp
def allZ : List Zp := (List.range 9).flatMap fun n => (List.range 9).flatMap fun m => if n + m < 9 then (bools n).flatMap fun L => (bools m).map fun R => (L, R) else []
theorem mem_allZ {z : Zp} (h : pads z ≤ 9) : z ∈ allZ := by
  obtain ⟨L, R⟩ := z
  have hp : L.length + R.length + 1 ≤ 9 := h
  refine List.mem_flatMap.mpr ⟨L.length, List.mem_range.mpr (by omega), List.mem_flatMap.mpr ⟨R.length, List.mem_range.mpr (by omega), ?_⟩⟩
  rw [if_pos (by omega)]
  exact List.mem_flatMap.mpr ⟨L, mem_bools L, List.mem_map.mpr ⟨R, mem_bools R, rfl⟩⟩
theorem allZ_len : allZ.length = 4097 := by decide +kernel
theorem nodup_le {α : Type} [DecidableEq α] : ∀ {l m : List α}, l.Nodup → (∀ x ∈ l, x ∈ m) → l.length ≤ m.length
  | [], m, _, _ => Nat.zero_le _
  | x :: l, m, hn, hs => by
    obtain ⟨h1, h2⟩ := List.nodup_cons.mp hn
    have hx := hs x List.mem_cons_self
    have := nodup_le (l := l) (m := m.erase x) h2 fun y hy => by
      have hne : y ≠ x := fun e => h1 (e ▸ hy)
      exact (List.mem_erase_of_ne hne).mpr (hs y (List.mem_cons_of_mem _ hy))
    rw [List.length_erase_of_mem hx] at this
    have hp : 0 < m.length := List.length_pos_of_mem hx
    rw [List.length_cons]
    omega
end PL

/-! Padleap in plain Lean: given moves one behind the other. -/
namespace PL
/-- the move of a pad that is handed in, any whole number -/
def stepI (z : Zp) (n : Int) : Option Zp := ((next z).find? fun q => decide ((q.1 : Int) = n)).map (·.2)
def runI : Zp → List Int → Option Zp
  | z, [] => some z
  | z, n :: r => match stepI z n with
    | none => none
    | some y => runI y r
def leadsB (z : Zp) (ns : List Int) : Bool := match runI z ns with
  | none => false
  | some y => decide (y = goal z)
theorem runI_append : ∀ (a b : List Int) (z : Zp), runI z (a ++ b) = (runI z a).bind fun y => runI y b
  | [], b, z => rfl
  | n :: r, b, z => by
    show (match stepI z n with | none => none | some y => runI y (r ++ b)) = (match stepI z n with | none => none | some y => runI y r).bind fun y => runI y b
    cases stepI z n with
    | none => rfl
    | some y => exact runI_append r b y
theorem stepI_mem {z y : Zp} {n : Int} (h : stepI z n = some y) : ∃ p : Nat, n = (p : Int) ∧ (p, y) ∈ next z := by
  unfold stepI at h
  cases e : (next z).find? fun q => decide ((q.1 : Int) = n) with
  | none => rw [e] at h; cases h
  | some q =>
    rw [e] at h
    have hy : q.2 = y := Option.some.inj h
    have hn : (q.1 : Int) = n := by
      have := List.find?_some e
      simpa using this
    exact ⟨q.1, hn.symm, hy ▸ List.mem_of_find?_eq_some e⟩
theorem next_uniq {z y y' : Zp} {p : Nat} (h : (p, y) ∈ next z) (h' : (p, y') ∈ next z) : y = y' := by
  have hr := movers_rise z
  unfold movers at hr
  have key : ∀ l : List (Nat × Zp), (l.map (·.1)).Pairwise (· < ·) → (p, y) ∈ l → (p, y') ∈ l → y = y' := by
    intro l
    induction l with
    | nil => intro _ h _; cases h
    | cons q r ih =>
      intro hp h1 h2
      rw [List.map_cons] at hp
      obtain ⟨hp1, hp2⟩ := List.pairwise_cons.mp hp
      rcases List.mem_cons.mp h1 with e1 | e1
      · rcases List.mem_cons.mp h2 with e2 | e2
        · exact (Prod.mk.inj (e1.trans e2.symm)).2
        · have := hp1 p (List.mem_map.mpr ⟨_, e2, rfl⟩)
          rw [← e1] at this
          exact absurd this (Nat.lt_irrefl _)
      · rcases List.mem_cons.mp h2 with e2 | e2
        · have := hp1 p (List.mem_map.mpr ⟨_, e1, rfl⟩)
          rw [← e2] at this
          exact absurd this (Nat.lt_irrefl _)
        · exact ih hp2 e1 e2
  exact key _ hr h h'
theorem stepI_isSome (z : Zp) (n : Int) : (stepI z n).isSome = (movers z).any fun p => ((p : Int) == n) := by
  unfold stepI movers
  rw [List.any_map]
  generalize next z = l
  induction l with
  | nil => rfl
  | cons q r ih =>
    rw [List.find?_cons, List.any_cons]
    by_cases h : (q.1 : Int) = n
    · simp [h]
    · simp only [decide_eq_false h]
      rw [ih]
      simp [h]
theorem stepI_of {z y : Zp} {p : Nat} (h : (p, y) ∈ next z) : stepI z (p : Int) = some y := by
  cases e : stepI z (p : Int) with
  | none =>
    have h1 := stepI_isSome z (p : Int)
    have h2 : ((movers z).any fun x => ((x : Int) == (p : Int))) = true := List.any_eq_true.mpr ⟨p, List.mem_map.mpr ⟨(p, y), h, rfl⟩, by simp⟩
    rw [e, h2] at h1
    cases h1
  | some y' =>
    obtain ⟨p', e', h'⟩ := stepI_mem e
    have : p = p' := by omega
    subst this
    rw [next_uniq h h']
theorem runI_same : ∀ (ns : List Int) {z y : Zp}, runI z ns = some y → goal y = goal z ∧ pads y = pads z
  | [], z, y, h => by cases h; exact ⟨rfl, rfl⟩
  | n :: r, z, y, h => by
    cases e : stepI z n with
    | none => rw [runI, e] at h; cases h
    | some x =>
      rw [runI, e] at h
      obtain ⟨h1, h2⟩ := runI_same r h
      obtain ⟨p, _, hm⟩ := stepI_mem e
      exact ⟨h1.trans (next_goal hm), h2.trans (next_pads hm)⟩
/-- turn by turn -/
theorem runI_turn {z y : Zp} {ns : List Int} {i : Nat} {n : Int} (h : runI z (ns.take i) = some y) (hn : ns[i]? = some n) : runI z (ns.take (i + 1)) = stepI y n := by
  rw [List.take_succ, hn, runI_append, h]
  show runI y [n] = stepI y n
  show (match stepI y n with | none => none | some y => some y) = _
  cases stepI y n <;> rfl
theorem runI_stop {z y : Zp} {ns : List Int} {i : Nat} {n : Int} (h : runI z (ns.take i) = some y) (hn : ns[i]? = some n) (hs : stepI y n = none) : runI z ns = none := by
  have e : ns = ns.take (i + 1) ++ ns.drop (i + 1) := (List.take_append_drop _ _).symm
  rw [e, runI_append, runI_turn h hn, hs]
  rfl
theorem leadsB_stop {z y : Zp} {ns : List Int} {i : Nat} {n : Int} (h : runI z (ns.take i) = some y) (hn : ns[i]? = some n) (hs : stepI y n = none) : leadsB z ns = false := by
  unfold leadsB
  rw [runI_stop h hn hs]
theorem leadsB_end {z y : Zp} {ns : List Int} (h : runI z ns = some y) : leadsB z ns = decide (y = goal z) := by
  unfold leadsB
  rw [h]
theorem run_way : ∀ (k : Nat) (z : Zp), mleft z ≤ k → ∀ w ∈ wl z, runI z (w.map fun n : Nat => (n : Int)) = some (goal z)
  | k, z, hk, w, hw => by
    rw [wl_eq] at hw
    rcases List.mem_append.mp hw with h | h
    · by_cases hg : z = goal z
      · rw [if_pos hg] at h
        rw [List.mem_singleton.mp h]
        exact congrArg some hg
      · rw [if_neg hg] at h
        cases h
    · obtain ⟨q, hq, h⟩ := List.mem_flatMap.mp h
      obtain ⟨w', hw', rfl⟩ := List.mem_map.mp h
      have hm := next_mleft (z := z) (p := q.1) (y := q.2) hq
      match k, hk with
      | 0, hk => omega
      | k + 1, hk =>
        have ih := run_way k q.2 (by omega) w' hw'
        rw [List.map_cons, runI, stepI_of (p := q.1) (y := q.2) hq, ← next_goal (z := z) (p := q.1) (y := q.2) hq]
        exact ih
theorem leads_way {z : Zp} {w : List Nat} (h : w ∈ wl z) : leadsB z (w.map fun n : Nat => (n : Int)) = true := by
  rw [leadsB_end (run_way _ z (Nat.le_refl _) w h)]
  exact decide_eq_true rfl
theorem step_goal (z : Zp) (n : Int) : stepI (goal z) n = none := by
  unfold stepI
  rw [goal_next]
  rfl
theorem leads_more {z : Zp} {w : List Nat} (h : w ∈ wl z) (n : Int) : leadsB z ((w.map fun n : Nat => (n : Int)) ++ [n]) = false := by
  unfold leadsB
  rw [runI_append, run_way _ z (Nat.le_refl _) w h]
  show (match (match stepI (goal z) n with | none => none | some y => some y) with | none => false | some y => decide (y = goal z)) = false
  rw [step_goal]
/-- a standing read from the other end -/
def back (z : Zp) : Zp := (z.2, z.1)
theorem cps_back (z : Zp) : cps (back z) = (cps z).reverse := by simp [cps, back]
theorem back_pads (z : Zp) : pads (back z) = pads z := by simp [back, pads]; omega
end PL

/-! Padleap in plain Lean: the standings that are come by, the stuck ones among them. -/
namespace PL
inductive Rc (z : Zp) : Zp → Prop
  | refl : Rc z z
  | step {y x : Zp} {p : Nat} (h : Rc z y) (m : (p, x) ∈ next y) : Rc z x
theorem Rc.trans {z y x : Zp} (h1 : Rc z y) (h2 : Rc y x) : Rc z x := by
  induction h2 with
  | refl => exact h1
  | step _ m ih => exact ih.step m
theorem Rc.pads {z y : Zp} (h : Rc z y) : PL.pads y = PL.pads z := by
  induction h with
  | refl => rfl
  | step _ m ih => rw [next_pads m, ih]
theorem Rc.mleft {z y : Zp} (h : Rc z y) : PL.mleft y ≤ PL.mleft z := by
  induction h with
  | refl => exact Nat.le_refl _
  | step _ m ih =>
    have := next_mleft m
    omega
theorem Rc.goal {z y : Zp} (h : Rc z y) : PL.goal y = PL.goal z := by
  induction h with
  | refl => rfl
  | step _ m ih => rw [next_goal m, ih]
/-- all that is come by, each once -/
structure IsRch (z : Zp) (ys : List Zp) : Prop where
  nd : ys.Nodup
  mem : ∀ y, y ∈ ys ↔ Rc z y
theorem IsRch.len {z : Zp} {ys zs : List Zp} (a : IsRch z ys) (b : IsRch z zs) : ys.length = zs.length :=
  Nat.le_antisymm (nodup_le a.nd fun y hy => (b.mem y).mpr ((a.mem y).mp hy)) (nodup_le b.nd fun y hy => (a.mem y).mpr ((b.mem y).mp hy))
/-- a list that is closed under moves -/
theorem IsRch.of {z : Zp} {ys : List Zp} (nd : ys.Nodup) (hz : z ∈ ys) (hr : ∀ y ∈ ys, Rc z y) (hc : ∀ y ∈ ys, ∀ q ∈ next y, q.2 ∈ ys) : IsRch z ys := by
  refine ⟨nd, fun y => ⟨hr y, fun h => ?_⟩⟩
  induction h with
  | refl => exact hz
  | step h m ih => exact hc _ ih _ m
theorem IsRch.le {z : Zp} {ys : List Zp} (a : IsRch z ys) (h : pads z ≤ 9) : ys.length ≤ 4097 := by
  have := nodup_le (m := allZ) a.nd fun y hy => mem_allZ (by rw [((a.mem y).mp hy).pads]; exact h)
  rw [allZ_len] at this
  exact this
/-- from one behind fewer -/
theorem IsRch.lt {z y : Zp} {p : Nat} {zs ys : List Zp} (a : IsRch z zs) (m : (p, y) ∈ next z) (b : IsRch y ys) : ys.length < zs.length := by
  have hn : (z :: ys).Nodup := by
    refine List.nodup_cons.mpr ⟨fun h => ?_, b.nd⟩
    have h1 := ((b.mem z).mp h).mleft
    have h2 := next_mleft m
    omega
  have := nodup_le (l := z :: ys) (m := zs) hn fun x hx => by
    rcases List.mem_cons.mp hx with e | e
    · rw [e]
      exact (a.mem z).mpr .refl
    · exact (a.mem x).mpr ((Rc.refl.step m).trans ((b.mem x).mp e))
  rw [List.length_cons] at this
  omega
/-! ### counted outright -/
def reachF : Nat → Zp → List Zp
  | 0, z => [z]
  | k + 1, z => z :: (next z).flatMap fun q => reachF k q.2
def dd : List Zp → List Zp
  | [] => []
  | x :: r => if x ∈ dd r then dd r else x :: dd r
theorem dd_mem (x : Zp) : ∀ l : List Zp, x ∈ dd l ↔ x ∈ l
  | [] => Iff.rfl
  | y :: r => by
    have ih := dd_mem x r
    unfold dd
    by_cases h : y ∈ dd r
    · rw [if_pos h, ih, List.mem_cons]
      constructor
      · exact .inr
      · rintro (e | e)
        · rw [e]
          exact (dd_mem y r).mp h
        · exact e
    · rw [if_neg h, List.mem_cons, List.mem_cons, ih]
theorem dd_nodup : ∀ l : List Zp, (dd l).Nodup
  | [] => List.nodup_nil
  | y :: r => by
    have ih := dd_nodup r
    unfold dd
    by_cases h : y ∈ dd r
    · rw [if_pos h]
      exact ih
    · rw [if_neg h]
      exact List.nodup_cons.mpr ⟨h, ih⟩
theorem reachF_rc : ∀ (k : Nat) (z y : Zp), y ∈ reachF k z → Rc z y
  | 0, z, y, h => by
    rw [List.mem_singleton.mp h]
    exact .refl
  | k + 1, z, y, h => by
    rcases List.mem_cons.mp h with e | e
    · rw [e]
      exact .refl
    · obtain ⟨q, hq, hy⟩ := List.mem_flatMap.mp e
      exact (Rc.refl.step (p := q.1) (x := q.2) hq).trans (reachF_rc k q.2 y hy)
theorem reachF_self (k : Nat) (z : Zp) : z ∈ reachF k z := by
  cases k with
  | zero => exact List.mem_singleton.mpr rfl
  | succ k => exact List.mem_cons_self
theorem reachF_all : ∀ (k : Nat) (z : Zp), mleft z ≤ k → ∀ y ∈ reachF k z, ∀ q ∈ next y, q.2 ∈ reachF k z
  | 0, z, hk, y, hy, q, hq => by
    rw [List.mem_singleton.mp hy, next_none (by omega)] at hq
    cases hq
  | k + 1, z, hk, y, hy, q, hq => by
    rcases List.mem_cons.mp hy with e | e
    · subst e
      exact List.mem_cons_of_mem _ (List.mem_flatMap.mpr ⟨q, hq, reachF_self k q.2⟩)
    · obtain ⟨q', hq', hy'⟩ := List.mem_flatMap.mp e
      have hm := next_mleft (z := z) (p := q'.1) (y := q'.2) hq'
      exact List.mem_cons_of_mem _ (List.mem_flatMap.mpr ⟨q', hq', reachF_all k q'.2 (by omega) y hy' q hq⟩)
def rset (z : Zp) : List Zp := dd (reachF (mleft z) z)
theorem rset_is (z : Zp) : IsRch z (rset z) := by
  refine .of (dd_nodup _) ((dd_mem _ _).mpr (reachF_self _ _)) (fun y hy => reachF_rc _ _ _ ((dd_mem _ _).mp hy)) fun y hy q hq => ?_
  exact (dd_mem _ _).mpr (reachF_all _ _ (Nat.le_refl _) y ((dd_mem _ _).mp hy) q hq)
theorem IsRch.count {z : Zp} {ys : List Zp} (a : IsRch z ys) : ys.length = (rset z).length := a.len (rset_is z)
/-! ### the order of texts -/
theorem rise_extL : ∀ {l m : List (List Nat)}, l.Pairwise (· < ·) → m.Pairwise (· < ·) → (∀ x, x ∈ l ↔ x ∈ m) → l = m
  | [], [], _, _, _ => rfl
  | [], y :: m, _, _, h => by have := (h y).mpr List.mem_cons_self; cases this
  | x :: l, [], _, _, h => by have := (h x).mp List.mem_cons_self; cases this
  | x :: l, y :: m, hl, hm, h => by
    obtain ⟨hl1, hl2⟩ := List.pairwise_cons.mp hl
    obtain ⟨hm1, hm2⟩ := List.pairwise_cons.mp hm
    have e : x = y := by
      rcases List.mem_cons.mp ((h x).mp List.mem_cons_self) with e | e
      · exact e
      · rcases List.mem_cons.mp ((h y).mpr List.mem_cons_self) with e' | e'
        · exact e'.symm
        · exact absurd (List.lt_trans (hm1 _ e) (hl1 _ e')) (List.lt_irrefl _)
    subst e
    congr 1
    refine rise_extL hl2 hm2 fun z => ⟨fun hz => ?_, fun hz => ?_⟩
    · rcases List.mem_cons.mp ((h z).mp (List.mem_cons_of_mem _ hz)) with e | e
      · subst e; exact absurd (hl1 _ hz) (List.lt_irrefl _)
      · exact e
    · rcases List.mem_cons.mp ((h z).mpr (List.mem_cons_of_mem _ hz)) with e | e
      · subst e; exact absurd (hm1 _ hz) (List.lt_irrefl _)
      · exact e
/-- stuck, but not at the goal -/
def isStuck (y : Zp) : Bool := decide (next y = []) && decide (y ≠ goal y)
/-- all that are come by and stuck, in the order of texts -/
structure IsStk (z : Zp) (ys : List Zp) : Prop where
  srt : (ys.map cps).Pairwise (· < ·)
  mem : ∀ y, y ∈ ys ↔ Rc z y ∧ isStuck y = true
theorem cps_map_inj : ∀ {l m : List Zp}, l.map cps = m.map cps → l = m
  | [], [], _ => rfl
  | [], _ :: _, h => by simp at h
  | _ :: _, [], h => by simp at h
  | x :: l, y :: m, h => by
    rw [List.map_cons, List.map_cons] at h
    obtain ⟨h1, h2⟩ := List.cons.inj h
    rw [cps_inj h1, cps_map_inj h2]
theorem IsStk.uniq {z : Zp} {ys zs : List Zp} (a : IsStk z ys) (b : IsStk z zs) : ys = zs := by
  refine cps_map_inj (rise_extL a.srt b.srt fun c => ?_)
  constructor
  · intro h
    obtain ⟨y, hy, e⟩ := List.mem_map.mp h
    exact List.mem_map.mpr ⟨y, (b.mem y).mpr ((a.mem y).mp hy), e⟩
  · intro h
    obtain ⟨y, hy, e⟩ := List.mem_map.mp h
    exact List.mem_map.mpr ⟨y, (a.mem y).mpr ((b.mem y).mp hy), e⟩
/-- none of a list that is known -/
theorem IsStk.none {z : Zp} {ys : List Zp} (a : IsStk z ys) (h : (rset z).filter isStuck = []) : ys = [] := by
  cases ys with
  | nil => rfl
  | cons y r =>
    obtain ⟨h1, h2⟩ := (a.mem y).mp List.mem_cons_self
    have : y ∈ (rset z).filter isStuck := List.mem_filter.mpr ⟨((rset_is z).mem y).mpr h1, h2⟩
    rw [h] at this
    cases this
theorem IsStk.one {z y : Zp} {ys : List Zp} (a : IsStk z ys) (h : (rset z).filter isStuck = [y]) : ys = [y] := by
  refine a.uniq ⟨List.pairwise_singleton _ _, fun x => ?_⟩
  rw [List.mem_singleton]
  constructor
  · intro e
    have : x ∈ (rset z).filter isStuck := by rw [h, e]; exact List.mem_singleton.mpr rfl
    obtain ⟨h1, h2⟩ := List.mem_filter.mp this
    exact ⟨((rset_is z).mem x).mp h1, h2⟩
  · rintro ⟨h1, h2⟩
    have : x ∈ (rset z).filter isStuck := List.mem_filter.mpr ⟨((rset_is z).mem x).mpr h1, h2⟩
    rw [h] at this
    exact List.mem_singleton.mp this
theorem IsStk.sub {z y : Zp} {p : Nat} {zs ys : List Zp} (a : IsStk z zs) (m : (p, y) ∈ next z) (b : IsStk y ys) : ∀ x ∈ ys, x ∈ zs := fun x hx => by
  obtain ⟨h1, h2⟩ := (b.mem x).mp hx
  exact (a.mem x).mpr ⟨(Rc.refl.step m).trans h1, h2⟩
/-- if none leads to the goal some is stuck -/
theorem never_stuck : ∀ (k : Nat) (z : Zp), mleft z ≤ k → ways z = 0 → ∃ y, Rc z y ∧ isStuck y = true
  | k, z, hk, h0 => by
    have hg : z ≠ goal z := fun e => by rw [ways_goal e] at h0; cases h0
    cases e : next z with
    | nil => exact ⟨z, .refl, by unfold isStuck; rw [decide_eq_true e, decide_eq_true hg]; rfl⟩
    | cons q r =>
      have hq : q ∈ next z := by rw [e]; exact List.mem_cons_self
      have hm := next_mleft (z := z) (p := q.1) (y := q.2) hq
      have hw : ways q.2 = 0 := by
        have := ways_eq z
        rw [if_neg hg, e, List.map_cons, List.sum_cons] at this
        omega
      match k, hk with
      | 0, hk => omega
      | k + 1, hk =>
        obtain ⟨y, h1, h2⟩ := never_stuck k q.2 (by omega) hw
        exact ⟨y, (Rc.refl.step (p := q.1) (x := q.2) hq).trans h1, h2⟩
theorem IsStk.some {z : Zp} {ys : List Zp} (a : IsStk z ys) (h0 : ways z = 0) : ys ≠ [] := fun e => by
  obtain ⟨y, h1, h2⟩ := never_stuck _ z (Nat.le_refl _) h0
  have := (a.mem y).mpr ⟨h1, h2⟩
  rw [e] at this
  cases this
end PL

/-! Padleap in plain Lean: what the two searches keep. -/
namespace PL
/-- the program's search: found, and the line of those not yet looked at -/
structure Sk (z : Zp) (fs ln : List Zp) : Prop where
  nd : fs.Nodup
  hz : z ∈ fs
  rc : ∀ y ∈ fs, Rc z y
  sub : ∀ y ∈ ln, y ∈ fs
  cl : ∀ y ∈ fs, y ∈ ln ∨ ∀ q ∈ next y, q.2 ∈ fs
  le : ln.length ≤ fs.length
/-- .. while h is looked at, its first i moves done -/
structure Ski (z h : Zp) (i : Nat) (fs ln : List Zp) : Prop where
  nd : fs.Nodup
  hz : z ∈ fs
  hh : h ∈ fs
  rc : ∀ y ∈ fs, Rc z y
  sub : ∀ y ∈ ln, y ∈ fs
  cl : ∀ y ∈ fs, y = h ∨ y ∈ ln ∨ ∀ q ∈ next y, q.2 ∈ fs
  dn : ∀ q ∈ (next h).take i, q.2 ∈ fs
  le : ln.length ≤ fs.length
theorem Sk.start (z : Zp) : Sk z [z] [z] :=
  ⟨List.nodup_cons.mpr ⟨(fun h => nomatch h), List.nodup_nil⟩, List.mem_singleton.mpr rfl, fun y hy => by rw [List.mem_singleton.mp hy]; exact .refl, fun y hy => hy, fun y hy => .inl hy, Nat.le_refl _⟩
theorem Sk.pop {z h : Zp} {fs ln : List Zp} (s : Sk z fs (ln ++ [h])) : Ski z h 0 fs ln :=
  ⟨s.nd, s.hz, s.sub h (by simp), s.rc, fun y hy => s.sub y (by simp [hy]), fun y hy => by
    rcases s.cl y hy with e | e
    · rcases List.mem_append.mp e with e | e
      · exact .inr (.inl e)
      · exact .inl (List.mem_singleton.mp e)
    · exact .inr (.inr e), fun q hq => by simp at hq, by have := s.le; rw [List.length_append] at this; omega⟩
theorem Ski.old {z h x : Zp} {i p : Nat} {fs ln : List Zp} (s : Ski z h i fs ln) (e : (next h)[i]? = some (p, x)) (hx : x ∈ fs) : Ski z h (i + 1) fs ln :=
  ⟨s.nd, s.hz, s.hh, s.rc, s.sub, s.cl, fun q hq => by
    rw [List.take_succ, e] at hq
    rcases List.mem_append.mp hq with m | m
    · exact s.dn q m
    · have : q = (p, x) := by simpa using m
      rw [this]
      exact hx, s.le⟩
theorem Ski.new {z h x : Zp} {i p : Nat} {fs ln : List Zp} (s : Ski z h i fs ln) (e : (next h)[i]? = some (p, x)) (hx : x ∉ fs) : Ski z h (i + 1) (fs ++ [x]) (ln ++ [x]) := by
  refine ⟨?_, by simp [s.hz], by simp [s.hh], fun y hy => ?_, fun y hy => ?_, fun y hy => ?_, fun q hq => ?_, by have := s.le; rw [List.length_append, List.length_append]; omega⟩
  · rw [List.nodup_append]
    refine ⟨s.nd, List.nodup_cons.mpr ⟨(fun h => nomatch h), List.nodup_nil⟩, fun a ha b hb => ?_⟩
    rw [List.mem_singleton.mp hb]
    intro e
    exact hx (e ▸ ha)
  · rcases List.mem_append.mp hy with m | m
    · exact s.rc y m
    · rw [List.mem_singleton.mp m]
      exact (s.rc h s.hh).step (List.mem_of_getElem? e)
  · rcases List.mem_append.mp hy with m | m
    · exact List.mem_append.mpr (.inl (s.sub y m))
    · exact List.mem_append.mpr (.inr m)
  · rcases List.mem_append.mp hy with m | m
    · rcases s.cl y m with k | k | k
      · exact .inl k
      · exact .inr (.inl (List.mem_append.mpr (.inl k)))
      · exact .inr (.inr fun q hq => List.mem_append.mpr (.inl (k q hq)))
    · exact .inr (.inl (List.mem_append.mpr (.inr m)))
  · rw [List.take_succ, e] at hq
    rcases List.mem_append.mp hq with m | m
    · exact List.mem_append.mpr (.inl (s.dn q m))
    · have : q = (p, x) := by simpa using m
      rw [this]
      simp
theorem Ski.done {z h : Zp} {i : Nat} {fs ln : List Zp} (s : Ski z h i fs ln) (hi : (next h).length ≤ i) : Sk z fs ln :=
  ⟨s.nd, s.hz, s.rc, s.sub, fun y hy => by
    rcases s.cl y hy with k | k | k
    · subst k
      refine .inr fun q hq => s.dn q ?_
      rw [List.take_of_length_le hi]
      exact hq
    · exact .inl k
    · exact .inr k, s.le⟩
theorem Sk.all {z : Zp} {fs : List Zp} (s : Sk z fs []) : IsRch z fs :=
  .of s.nd s.hz s.rc fun y hy => by
    rcases s.cl y hy with k | k
    · cases k
    · exact k
theorem len9 {z : Zp} {fs : List Zp} (h : pads z ≤ 9) (nd : fs.Nodup) (rc : ∀ y ∈ fs, Rc z y) : fs.length ≤ 4097 := by
  have := nodup_le (m := allZ) nd fun y hy => mem_allZ (by rw [(rc y hy).pads]; exact h)
  rw [allZ_len] at this
  exact this
/-- the law's search: those before the place are looked at -/
structure Lk (z : Zp) (fs : List Zp) (at_ : Nat) : Prop where
  nd : fs.Nodup
  hz : z ∈ fs
  rc : ∀ y ∈ fs, Rc z y
  cl : ∀ i y, i < at_ → fs[i]? = some y → ∀ q ∈ next y, q.2 ∈ fs
structure Lki (z h : Zp) (i : Nat) (fs : List Zp) (at_ : Nat) : Prop where
  nd : fs.Nodup
  hz : z ∈ fs
  rc : ∀ y ∈ fs, Rc z y
  cl : ∀ i y, i < at_ → fs[i]? = some y → ∀ q ∈ next y, q.2 ∈ fs
  hh : fs[at_]? = some h
  dn : ∀ q ∈ (next h).take i, q.2 ∈ fs
theorem Lk.start (z : Zp) : Lk z [z] 0 :=
  ⟨List.nodup_cons.mpr ⟨(fun h => nomatch h), List.nodup_nil⟩, List.mem_singleton.mpr rfl, fun y hy => by rw [List.mem_singleton.mp hy]; exact .refl, fun i y h => absurd h (Nat.not_lt_zero _)⟩
theorem Lk.look {z h : Zp} {fs : List Zp} {a : Nat} (s : Lk z fs a) (e : fs[a]? = some h) : Lki z h 0 fs a := ⟨s.nd, s.hz, s.rc, s.cl, e, fun q hq => by simp at hq⟩
theorem Lki.old {z h x : Zp} {i p a : Nat} {fs : List Zp} (s : Lki z h i fs a) (e : (next h)[i]? = some (p, x)) (hx : x ∈ fs) : Lki z h (i + 1) fs a :=
  ⟨s.nd, s.hz, s.rc, s.cl, s.hh, fun q hq => by
    rw [List.take_succ, e] at hq
    rcases List.mem_append.mp hq with m | m
    · exact s.dn q m
    · have : q = (p, x) := by simpa using m
      rw [this]
      exact hx⟩
theorem Lki.new {z h x : Zp} {i p a : Nat} {fs : List Zp} (s : Lki z h i fs a) (e : (next h)[i]? = some (p, x)) (hx : x ∉ fs) : Lki z h (i + 1) (fs ++ [x]) a := by
  have ha : a < fs.length := (List.getElem?_eq_some_iff.mp s.hh).1
  refine ⟨?_, by simp [s.hz], fun y hy => ?_, fun j y hj hy q hq => ?_, ?_, fun q hq => ?_⟩
  · rw [List.nodup_append]
    refine ⟨s.nd, List.nodup_cons.mpr ⟨(fun h => nomatch h), List.nodup_nil⟩, fun a ha b hb => ?_⟩
    rw [List.mem_singleton.mp hb]
    intro e
    exact hx (e ▸ ha)
  · rcases List.mem_append.mp hy with m | m
    · exact s.rc y m
    · rw [List.mem_singleton.mp m]
      exact (s.rc h (List.mem_of_getElem? s.hh)).step (List.mem_of_getElem? e)
  · rw [List.getElem?_append_left (by omega)] at hy
    exact List.mem_append.mpr (.inl (s.cl j y hj hy q hq))
  · rw [List.getElem?_append_left ha]
    exact s.hh
  · rw [List.take_succ, e] at hq
    rcases List.mem_append.mp hq with m | m
    · exact List.mem_append.mpr (.inl (s.dn q m))
    · have : q = (p, x) := by simpa using m
      rw [this]
      simp
theorem Lki.done {z h : Zp} {i a : Nat} {fs : List Zp} (s : Lki z h i fs a) (hi : (next h).length ≤ i) : Lk z fs (a + 1) :=
  ⟨s.nd, s.hz, s.rc, fun j y hj hy q hq => by
    rcases Nat.lt_or_eq_of_le (Nat.le_of_lt_succ hj) with k | k
    · exact s.cl j y k hy q hq
    · subst k
      rw [s.hh] at hy
      cases hy
      refine s.dn q ?_
      rw [List.take_of_length_le hi]
      exact hq⟩
theorem Lk.all {z : Zp} {fs : List Zp} {a : Nat} (s : Lk z fs a) (h : fs.length ≤ a) : IsRch z fs :=
  .of s.nd s.hz s.rc fun y hy q hq => by
    obtain ⟨i, hi, e⟩ := List.getElem_of_mem hy
    exact s.cl i y (by omega) (by rw [List.getElem?_eq_getElem hi, e]) q hq
end PL

/-! Rules of the layer that the answers want besides: one of two readings; C() by object's own __init__; isinstance of an own class. -/
namespace PR
open PySem PySem.Spec PyProof.Rows L2 SX
section
variable {X : Cx}
/-- one expression, two readings -/
def tOr2 (t u : TE) : TE := fun σ H Q => t σ H Q ∨ u σ H Q
theorem pe_either {e : Expr} {t u : TE} (h1 : PE X e t) (h2 : PE X e u) : PE X e (tOr2 t u) :=
  ⟨fun pins s σ H Q I h => h.elim (h1.run pins s σ H Q I) (h2.run pins s σ H Q I)⟩
/-- what a class without an __init__ of its own must have to be made -/
structure Mk0 (K : PySem.W.Frag) (C : Addr) : Prop where
  makes : PySem.W.makesIn K C = true
  init : PySem.W.findIn K (.ref C) "__init__" = some (some (.builtin "object.__init__"))
  kp : PySem.W.keepIn K (.ref C) = true
def tMakeO (C : Addr) : TE := fun _ H Q => ∀ x dx, H x = none → H dx = none → dx ≠ x → Q (.ref x) (upd (upd H dx (.own x)) x (.ins C dx []))
theorem pe_makeO {C : Addr} {x : Str} {p pos : Pos} (M : Mk0 X.K C) (hg : Gl X x) (hm : X.mg x = some (.ref C)) (hdb : (x == ("__debug__" : Str)) = false := by decide) : PE X (.Call (.Name x p) [] [] pos) (tMakeO C) := by
  refine ⟨fun pins s σ H Q I h => ?_⟩
  refine wpAny_Call_Name_kw (ld_glob I hg hm ?_ hdb)
  refine PySem.W.callWith_K0 I.kIn M.kp ?_
  have hq := h (s.heap.objs.size + 1) s.heap.objs.size (I.hok.fresh (Nat.le_succ _)) (I.hok.fresh (Nat.le_refl _)) (Nat.ne_of_lt (Nat.lt_succ_self _))
  have I2 := Inv.made (C := C) I
  refine wpAny_call (make_map0 I.kIn M.makes M.init (fun self => PySem.W.Looks.of_pure (PySem.W.oi_bind self)) ?_)
  have Y := PySem.W.makes_of (M := model X.prog X.w) I.kIn M.makes
  have k : ∀ b o, s.heap.get? b = some o → ((s.heap.push PySem.W.emptyDict).push (PySem.W.instObj C s.heap.objs.size)).get? b = some o := fun b o e => Heap.get?_push_of_some _ (Heap.get?_push_of_some _ e)
  have e2 : ((s.heap.push PySem.W.emptyDict).push (PySem.W.instObj C s.heap.objs.size)).get? (s.heap.objs.size + 1) = some (PySem.W.instObj C s.heap.objs.size) := by
    have := Heap.get?_push_size (s.heap.push PySem.W.emptyDict) (o := PySem.W.instObj C s.heap.objs.size) rfl
    rwa [Heap.size_push] at this
  have t1 : PySem.W.Looks (model X.prog X.w) ((s.heap.push PySem.W.emptyDict).push (PySem.W.instObj C s.heap.objs.size)) (typeOf (.ref (s.heap.objs.size + 1))) (.ref C) := (PySem.W.Looks.ld e2).andThen .now
  have t2 : PySem.W.Looks (model X.prog X.w) ((s.heap.push PySem.W.emptyDict).push (PySem.W.instObj C s.heap.objs.size)) (isInstance (.ref (s.heap.objs.size + 1)) (.type "object")) true := t1.andThen (Y.top.keeps k)
  refine codeAny_call_builtin PySem.W.oi_plain PySem.W.entry_oi (@PySem.W.check_slot (model X.prog X.w) _ _ _ "object.__init__" "object" "__init__" (.ref (s.heap.objs.size + 1)) [] [] _ PySem.W.oi_kind PySem.W.oi_split t2 (PySem.W.oi_args (.ref (s.heap.objs.size + 1))) ?_)
  rw [PySem.W.oi_run]
  exact wpAny_pure (And.intro rfl ⟨.ref (s.heap.objs.size + 1), _, I2, rfl, hq⟩)
end
end PR

/-! sorted(texts), any number of them; the order of texts. -/
namespace PR
open PySem PySem.Spec PyProof.Rows L2 SX PL
section
variable {X : Cx}
def rSortedT (K : PySem.W.Frag) : List V → Hp → VK → Prop := fun vs H Q => ∃ (a : Addr) (ss : List Str), vs = [V.ref a] ∧ SqL K H a (ss.map V.str) ∧
  ∀ (ys : List Str) (p : Addr), ys.Perm ss → sortedS ys = true → H p = none → Q (.ref p) (upd H p (.lst (ys.map V.str)))
theorem cr_sortedT : CallR X (.builtin "sorted") (rSortedT X.K) := by
  intro pins s σ H vs us Q I r h
  obtain ⟨a, xs, rfl, hs, q⟩ := h
  obtain ⟨its, rv, hl, hz⟩ := I.list hs
  rw [Vals.ref1 r]
  refine PyProof.Rows.sorted_strsAny hl.isList rv.strs (by rw [← rv.length]; exact hz) fun out ys h1 h2 h3 => ?_
  obtain ⟨ep, he'⟩ := PyProof.Rows.sortedAll_at s.heap its out
  have hlen : (ys.map V.str).length ≤ sizeLine := by
    rw [List.length_map, h2.length_eq]
    rw [List.length_map] at hz
    exact hz
  exact ⟨.ref _, upd H (s.heap.objs.size + 1) (.lst (ys.map V.str)), I.laid (t' := s.toks) (fun _ _ => PyProof.Rows.sortedAll_old) (Nat.le_succ _) ⟨hlen, out.toList, ep, vals_of_strs h1, he'⟩, rfl, q ys _ h2 h3 (I.hok.fresh (Nat.le_succ _))⟩
end
/-! ### from sortedS to the order -/
theorem rising_le : ∀ (l : List Str) (p : Str), risingS p l = true → (∀ x ∈ l, ¬ x.cps.toList < p.cps.toList) ∧ l.Pairwise (fun a b => ¬ b.cps.toList < a.cps.toList)
  | [], p, _ => ⟨(fun x h => nomatch h), List.Pairwise.nil⟩
  | x :: r, p, h => by
    have h' : (!ltCps x.cps.toList p.cps.toList && risingS x r) = true := h
    rw [Bool.and_eq_true, ltCps_eq] at h'
    have hx : ¬ x.cps.toList < p.cps.toList := by simpa using h'.1
    obtain ⟨h1, h2⟩ := rising_le r x h'.2
    refine ⟨fun y hy => ?_, List.pairwise_cons.mpr ⟨h1, h2⟩⟩
    rcases List.mem_cons.mp hy with e | e
    · rw [e]
      exact hx
    · have hy := h1 y e
      intro hlt
      refine hy ?_
      rw [← List.not_le] at hlt ⊢
      exact fun k => hlt (List.le_trans (List.not_lt.mp hx) k)
theorem sorted_le {l : List Str} (h : sortedS l = true) : l.Pairwise (fun a b => ¬ b.cps.toList < a.cps.toList) := by
  cases l with
  | nil => exact .nil
  | cons x r =>
    obtain ⟨h1, h2⟩ := rising_le r x h
    exact List.pairwise_cons.mpr ⟨h1, h2⟩
theorem perm_back {f : Zp → Str} (hf : ∀ {y z}, f y = f z → y = z) {ys : List Str} {zs : List Zp} (p : ys.Perm (zs.map f)) : ∃ ws : List Zp, ys = ws.map f ∧ ws.Perm zs := by
  classical
  let g : Str → Zp := fun s => if h : ∃ z, f z = s then h.choose else ([], [])
  have hg : ∀ z, g (f z) = z := fun z => by
    have h : ∃ y, f y = f z := ⟨z, rfl⟩
    show (if h : ∃ y, f y = f z then h.choose else ([], [])) = z
    rw [dif_pos h]
    exact hf h.choose_spec
  refine ⟨ys.map g, ?_, ?_⟩
  · rw [List.map_map]
    conv => lhs; rw [← List.map_id ys]
    refine List.map_congr_left fun s hs => ?_
    obtain ⟨z, _, e⟩ := List.mem_map.mp (p.mem_iff.mp hs)
    show s = f (g s)
    rw [← e, hg]
  · have := p.map g
    rw [List.map_map] at this
    have e : zs.map (g ∘ f) = zs := by
      conv => rhs; rw [← List.map_id zs]
      exact List.map_congr_left fun z _ => hg z
    rwa [e] at this
theorem sorted_zs {ys : List Str} {zs : List Zp} (p : ys.Perm (zs.map fun z => S (cps z))) (hs : sortedS ys = true) (nd : zs.Nodup) : ∃ ws : List Zp, ys = ws.map (fun z => S (cps z)) ∧ ws.Perm zs ∧ (ws.map cps).Pairwise (· < ·) := by
  obtain ⟨ws, e, pw⟩ := perm_back (f := fun z => S (cps z)) (fun h => cps_inj (S_inj h)) p
  refine ⟨ws, e, pw, ?_⟩
  have h1 := sorted_le hs
  rw [e, List.pairwise_map] at h1
  have h2 : ws.Nodup := pw.nodup_iff.mpr nd
  rw [List.pairwise_map]
  refine (h1.and h2).imp fun {a b} ⟨x, y⟩ => ?_
  have hx : ¬ cps b < cps a := x
  rw [List.not_lt] at hx
  rw [← List.not_le]
  exact fun k => y (cps_inj (List.le_antisymm hx k))
end PR

namespace PP
open PySem PySem.Spec PyProof.Rows L2 SX PR PL
def topS (i : Nat) : Stmt := PySem.Challenge.pw_padleap_k08_whole_numbers.main.body.getD i (.Pass ⟨0, 0, 0, 0⟩)
abbrev s_PadError : Stmt := topS 1
abbrev s_BadStanding : Stmt := topS 2
abbrev s_BadPad : Stmt := topS 3
abbrev s_BadCount : Stmt := topS 4
abbrev s_BadNumber : Stmt := topS 5
abbrev s_TooMany : Stmt := topS 6
abbrev s_is_whole : Stmt := topS 10
abbrev s_asked_standing : Stmt := topS 11
abbrev s_asked_small : Stmt := topS 12
abbrev s_movers : Stmt := topS 13
abbrev s_moves : Stmt := topS 14
abbrev s_behind : Stmt := topS 15
abbrev s_moved : Stmt := topS 16
abbrev s_goal_of : Stmt := topS 17
abbrev s_goal : Stmt := topS 18
abbrev s_moves_left : Stmt := topS 19
abbrev s_exchange : Stmt := topS 20
abbrev s_mirrored : Stmt := topS 21
abbrev s_ways_of : Stmt := topS 23
abbrev s_Answer : Stmt := topS 24
abbrev s_Leads : Stmt := topS 25
abbrev s_Leads_init : Stmt := inClass (topS 25) 0
abbrev s_Leads_shows : Stmt := inClass (topS 25) 1
abbrev s_Never : Stmt := topS 26
abbrev s_Never_shows : Stmt := inClass (topS 26) 0
abbrev s_ways : Stmt := topS 28
abbrev s_way_of : Stmt := topS 29
abbrev s_way_by : Stmt := topS 30
abbrev s_led : Stmt := topS 31
abbrev s_come_by_all : Stmt := topS 32
abbrev s_come_by : Stmt := topS 33
abbrev s_stuck : Stmt := topS 34
abbrev s__law_number : Stmt := topS 36
abbrev s__law_moves : Stmt := topS 37
abbrev s__law_behind : Stmt := topS 38
abbrev s__law_standing : Stmt := topS 39
abbrev s__law_plain : Stmt := topS 40
abbrev s__law_truths : Stmt := topS 41
abbrev s__law_told_right : Stmt := topS 42
abbrev s__law_promises_right : Stmt := topS 43
abbrev s__law_ways_promises : Stmt := topS 44
abbrev s_law : Stmt := topS 45
end PP
/-! ### calls by name; the built-ins that the text does not hide -/
namespace PP
open PySem PySem.Spec PyProof.Rows L2 SX PR PL
section
variable {P : Program} {w : World} {K : PySem.W.Frag} {mg : Str → Option Value} {base : Heap}
/-- a def of the text under its name, its parameters ps -/
structure Df (K : PySem.W.Frag) (mg : Str → Option Value) (x : Str) (st : Stmt) (ps : List Str) : Prop where
  ex : ∃ (f : Addr) (fd : FuncData), L2.Fun K x x st f fd ∧ Binds K fd ps [] ∧ mg x = some (.ref f)
/-- a def that may be called by its name and keeps sp; nothing that is raised leaves it -/
structure Cal (P : Program) (w : World) (K : PySem.W.Frag) (mg : Str → Option Value) (base : Heap) (k : Nat) (x : Str) (sp : Sp) : Prop where
  ex : ∃ (f : Addr) (fd : FuncData) (ps : List Str), FnOk P w K mg base L2.CX0 k f fd ps sp ∧ mg x = some (.ref f) ∧ PySem.W.keepIn K (.ref f) = true ∧ Binds K fd ps []
theorem cal_of {x : Str} {st : Stmt} {N ps : List Str} {k : Nat} {sp : Sp} (D : Df K mg x st ps) (S : FnScope N ps (defScope st)) (len : ∀ vs H Q E, sp vs H Q E → vs.length = ps.length)
    (hbody : ∀ (f : Addr) (cdv : Value) (A : Around) (outer : List Env) (s : Shared) (H : Hp) (vs : List V) (Q : VK) (E : XK), Room k (A.deeper (envOfC x (defScope st) s.heap.objs.size f cdv)) → sp vs H Q E →
      ∃ t, PSs (cxOf L2.CX0 P w K mg base N x (defScope st) f cdv A outer s H E).nox (defBody st) t ∧ t { nx := fun _ H' => Q .non H', rt := Q } (start N vs) H) : Cal P w K mg base (k + 1) x sp := by
  obtain ⟨f, fd, F, b, g⟩ := D.ex
  exact ⟨f, fd, ps, F.ok S len (hbody f), g, F.kp, b⟩
theorem Cal.imp {x : Str} {k : Nat} {sp sp' : Sp} (c : Cal P w K mg base k x sp) (h : ∀ vs H Q E, sp' vs H Q E → sp vs H Q E) : Cal P w K mg base k x sp' := by
  obtain ⟨f, fd, ps, F, g, kp, b⟩ := c.ex
  exact ⟨f, fd, ps, F.imp h, g, kp, b⟩
/-- the built-ins' names that no name of the module hides -/
structure Bl (mg : Str → Option Value) : Prop where
  isi : mg "isinstance" = none
  int : mg "int" = none
  bool : mg "bool" = none
  str : mg "str" = none
  len : mg "len" = none
  all : mg "all" = none
  any : mg "any" = none
  list : mg "list" = none
  range : mg "range" = none
  enum : mg "enumerate" = none
  sum : mg "sum" = none
  abs : mg "abs" = none
  sorted : mg "sorted" = none
  tuple : mg "tuple" = none
  verr : mg "ValueError" = none
end
section
variable {X : Cx} {k j : Nat} {x : Str} {sp : Sp} {p pos : Pos} {e : Expr} {es : List Expr} {t : TA}
theorem pe_c (c : Cal X.prog X.w X.K X.mg X.base k x sp) (hr : Room j X.A) (hk : k ≤ j) (hg : Gl X x) (ha : PA X (e :: es) t)
    (hdb : (x == ("__debug__" : Str)) = false := by decide) (he : starEach (e :: es) X.env = (false, eval e X.env) :: starEach es X.env := by rfl) (hpl : (backTo pos (starEach es X.env)).any (·.1) = false := by rfl) :
    PE X (.Call (.Name x p) (e :: es) [] pos) (tCall sp [] L2.E0 t) := by
  obtain ⟨f, fd, ps, F, hm, kp, b⟩ := c.ex
  exact pe_call F (hr.mono hk) hg hm kp b .nil L2.pass0 ha hdb he hpl
/-- isinstance(e, T), T a built-in type -/
theorem pe_isi {T : String} {a : Expr} {ta : TE} {y : Str} {p1 p2 : Pos} (h1 : X.mg "isinstance" = none) (h2 : X.mg y = none) (g1 : Gl X "isinstance") (g2 : Gl X y) (ha : PE X a ta) (hb : bootBuiltins y = some (.type T))
    (hn : y ≠ "__name__" := by decide) (hd : (y == ("__debug__" : Str)) = false := by decide)
    (s1 : starEach [a, .Name y p2] X.env = (false, eval a X.env) :: starEach [.Name y p2] X.env := by rfl) (s2 : starEach [.Name y p2] X.env = (false, eval (.Name y p2) X.env) :: starEach [] X.env := by rfl) (hpl : (backTo pos (starEach [.Name y p2] X.env)).any (·.1) = false := by rfl) :
    PE X (.Call (.Name "isinstance" p1) [a, .Name y p2] [] pos) (tCB (rIsi X.K) (tCons ta (tCons (tC (.ty T)) tNil))) :=
  pe_callB call_isi g1 h1 (by decide +kernel) (pa_cons ha (pa_cons (pe_bltn (v := .ty T) g2 h2 hb rfl hn hd) pa_nil s2) s1) (he := s1) (hpl := hpl)
end
theorem same_upd {H : Hp} {p : Addr} {o : HO} (h : H p = none) : Same H (upd H p o) := fun b x e => by
  rw [upd_ne (ne_of_none e h)]
  exact e
/-- a new object that was changed further: what stood before stands -/
theorem same_upd2 {H H' : Hp} {p : Addr} {o : HO} (s : Same H H') (h : H p = none) : Same H (upd H' p o) := fun b x e => by
  rw [upd_ne (ne_of_none e h)]
  exact s _ _ e
theorem ifT {c : Bool} {A B : Prop} (hc : c = true) (h : A) : if c = true then A else B := by
  rw [if_pos hc]
  exact h
theorem ifF {c : Bool} {A B : Prop} (hc : c = false) (h : B) : if c = true then A else B := by
  rw [if_neg (by rw [hc]; exact Bool.false_ne_true)]
  exact h
/-- a test with both ways open -/
theorem ifB {c : Bool} {A B : Prop} (h1 : c = true → A) (h2 : c = false → B) : if c = true then A else B := by
  cases c with
  | true => exact ifT rfl (h1 rfl)
  | false => exact ifF rfl (h2 rfl)
theorem s_a : Str.ofString "a" = S [97] := by decide +kernel
theorem s_b : Str.ofString "b" = S [98] := by decide +kernel
theorem s_dot : Str.ofString "." = S [46] := by decide +kernel
theorem s_ab : Str.ofString "ab" = S [97, 98] := by decide +kernel
theorem s_nil : Str.ofString "" = S [] := by decide +kernel
theorem small {n : Nat} (h : n ≤ 1000) : n ≤ sizeLine := Nat.le_of_lt (L2.small1000 h)
theorem dec_str (a b : List Nat) : decide (V.str (S a) = V.str (S b)) = decide (a = b) := by
  by_cases h : a = b
  · subst h; simp
  · rw [decide_eq_false h, decide_eq_false fun e => h (S_inj (V.str.inj e))]
end PP

/-! ### a standing's text -/
namespace PP
open PySem PySem.Spec PyProof.Rows L2 SX PR PL
section
variable {P : Program} {w : World} {K : PySem.W.Frag} {mg : Str → Option Value} {base : Heap}
/-- a standing's text -/
abbrev tx (z : Zp) : V := .str (S (cps z))
end
end PP

/-! ### is_whole -/
namespace PP
open PySem PySem.Spec PyProof.Rows L2 SX PR PL
section
variable {P : Program} {w : World} {K : PySem.W.Frag} {mg : Str → Option Value} {base : Heap}
/-- is_whole(thing), of anything whose type is known -/
def spWhole (K : PySem.W.Frag) : Sp := fun vs H Q _ => ∃ (v : V) (a : String) (r1 r2 : Bool), vs = [v] ∧ TyX K H v (.type a) ∧ kitB a "int" = some r1 ∧ kitB a "bool" = some r2 ∧ Q (.bl (r1 && !r2)) H
theorem sc_whole : FnScope ["thing"] ["thing"] (defScope s_is_whole) := ⟨rfl, rfl, rfl, by decide +kernel, rfl, by decide +kernel, by decide +kernel⟩
theorem c_whole (D : Df K mg "is_whole" s_is_whole ["thing"]) (T : Bl mg) : Cal P w K mg base 1 "is_whole" (spWhole K) := by
  refine cal_of D sc_whole (fun vs H Q E h => ?_) (fun f cdv A outer s H vs Q E hr h => ?_)
  · obtain ⟨v, a, r1, r2, rfl, _⟩ := h
    rfl
  · obtain ⟨v, a, r1, r2, rfl, ty, k1, k2, q⟩ := h
    refine ⟨_, pss_one (ps_ret (pe_and (pe_isi (T := "int") T.isi T.int (by rfl) (by rfl) (pv 0) (by decide +kernel)) (pe_one (pe_not (pe_isi (T := "bool") T.isi T.bool (by rfl) (by rfl) (pv 0) (by decide +kernel)))))), ?_⟩
    refine ⟨v, rfl, v, .ty "int", .type a, .type "int", r1, rfl, .ty _, ty, kit_ty k1, r1, rfl, ?_⟩
    cases r1 with
    | true =>
      refine iteT ?_
      exact ⟨v, rfl, v, .ty "bool", .type a, .type "bool", r2, rfl, .ty _, ty, kit_ty k2, r2, rfl, q⟩
    | false => exact iteF q
end
end PP

/-! ### asked_standing -/
namespace PP
open PySem PySem.Spec PyProof.Rows L2 SX PR PL
section
variable {P : Program} {w : World} {K : PySem.W.Frag} {mg : Str → Option Value} {base : Heap}
/-- asked_standing of a standing: nothing -/
def spAsked : Sp := fun vs H Q _ => ∃ z : Zp, vs = [tx z] ∧ pads z ≤ 60 ∧ ∀ H', Same H H' → Q .non H'
theorem sc_asked : FnScope ["standing", "sign"] ["standing"] (defScope s_asked_standing) := ⟨rfl, rfl, rfl, by decide +kernel, rfl, by decide +kernel, by decide +kernel⟩
theorem cps_in (z : Zp) {i c : Nat} (h : (cps z)[i]? = some c) : c = 97 ∨ c = 98 ∨ c = 46 := by
  have hm := List.mem_of_getElem? h
  unfold cps at hm
  rcases List.mem_append.mp hm with hm | hm
  · obtain ⟨x, _, e⟩ := List.mem_map.mp hm
    cases x <;> simp [sg] at e <;> omega
  · rcases List.mem_cons.mp hm with hm | hm
    · exact .inr (.inr hm)
    · obtain ⟨x, _, e⟩ := List.mem_map.mp hm
      cases x <;> simp [sg] at e <;> omega
theorem cps_count_dot (z : Zp) : (cps z).count 46 = 1 := by
  unfold cps
  rw [List.count_append, List.count_cons, List.count_eq_zero_of_not_mem (map_sg_no _), List.count_eq_zero_of_not_mem (map_sg_no _)]
  rfl
theorem c_asked (D : Df K mg "asked_standing" s_asked_standing ["standing"]) (T : Bl mg) (hM : ∃ t, mg "MOST" = some (.int 60 t)) : Cal P w K mg base 1 "asked_standing" spAsked := by
  obtain ⟨tM, hM⟩ := hM
  refine cal_of D sc_asked (fun vs H Q E h => ?_) (fun f cdv A outer s H vs Q E hr h => ?_)
  · obtain ⟨z, rfl, _⟩ := h
    rfl
  · obtain ⟨z, rfl, hp, q⟩ := h
    have hl : (S (cps z)).length = pads z := by rw [S_len, cps_len]
    have hp1 : 1 ≤ pads z := by unfold pads; omega
    refine ⟨_, pss_cons (ps_if (PW.pt (pw_or (pt_not (pt_val (pe_isi (T := "str") T.isi T.str (by rfl) (by rfl) (pv 0) (by decide +kernel))))
        (pw_or1 (pt_not (pt_chain op_le op_le pe_int (pe_callB call_len_str (by rfl) T.len PySem.boot_len (pa_cons (pv 0) pa_nil)) (pe_glob (v := .int 60) (by rfl) hM ⟨_, rfl⟩)))))) (pss_one ps_never) pss_nil)
      (pss_one (ps_if (PW.pt (pw_or (pt_not (pt_val (pe_callB (cr_all rfl) (by rfl) T.all (by decide +kernel) (pa_cons
          (pe_lc (own := [("sign", 1)]) (g := gName 1) (tt := tYes) (by rfl) sc_asked.nd (pi_str (pv 0)) (blkOk_by (own := [("sign", 1)]) (N := ["standing", "sign"]) (sc := defScope s_asked_standing) (by decide +kernel))
            (fun _ _ _ _ _ => pg_name (i := 1) sc_asked.nd rfl (Or.inl rfl)) (fun _ _ _ _ _ => pts_nil)
            (fun _ _ _ _ _ => pe_cmpR (r := rIn K false) op_in_seq (pv 1) (pe_tup (pa_cons pe_str (pa_cons pe_str (pa_cons pe_str pa_nil)))) (by rfl))) pa_nil))))
        (pw_or1 (pt_cmpR op_ne (pe_m1 PySem.F.slot_str_count PySem.F.type_str_count mt_count (pv 0) pe_str) pe_int (nomark _))))) (pss_one ps_never) pss_nil)), ?_⟩
    refine ⟨tx z, rfl, tx z, .ty "str", .type "str", .type "str", true, rfl, .ty _, .base (.str _), kit_ty (by decide +kernel), true, rfl, ?_⟩
    refine iteF ?_
    refine ⟨tx z, rfl, _, rfl, small (by rw [hl]; omega), 1, _, rfl, rfl, _, rfl, ?_⟩
    refine ifT (decide_eq_true (by rw [hl]; omega)) ?_
    refine ⟨_, 60, rfl, rfl, _, rfl, ?_⟩
    refine ifF (by rw [decide_eq_true (show ((S (cps z)).length : Int) ≤ 60 by rw [hl]; omega)]; rfl) ?_
    -- all([sign in (..) for sign in standing])
    refine ⟨tx z, rfl, S (cps z), rfl, fun D nD => ?_⟩
    refine lc_it (walk_strL (l := cps z)) (fun i H' => Same H H' ∧ H' D = some (.lst (List.replicate i (V.bl true)))) ⟨same_upd nD, upd_same⟩ (fun _ _ _ _ => trivial) ?_ ?_
    · rintro i x H1 H2 hi ⟨s1, h1⟩ ⟨rfl, c, hc, rfl⟩
      refine ⟨rfl, _, rfl, (by show 3 ≤ sizeLine; decide), fun t nt => ⟨t, _, rfl, .inr (SqT.of upd_same), rfl, rfl, ?_⟩⟩
      have nDt : D ≠ t := ne_of_none h1 nt
      refine ⟨_, by rw [upd_ne nDt]; exact h1, ?_, ?_, ?_⟩
      · rw [List.length_replicate]
        exact L2.small1000 (by rw [cps_len] at hi; omega)
      · exact same_upd2 (same_upd2 s1 (s1.free nt)) nD
      · have e : inV (V.str (S [c])) [V.str (Str.ofString "a"), V.str (Str.ofString "b"), V.str (Str.ofString ".")] = true := by
          rw [s_a, s_b, s_dot]
          rcases cps_in z hc with rfl | rfl | rfl <;> decide +kernel
        rw [upd_same, List.replicate_succ']
        show some (HO.lst (List.replicate i (V.bl true) ++ [V.bl (inV (V.str (S [c])) [V.str (Str.ofString "a"), V.str (Str.ofString "b"), V.str (Str.ofString ".")])])) = _
        rw [e]
    · rintro H1 ⟨s1, h1⟩
      refine ⟨D, List.replicate (cps z).length true, rfl, SqL.of (by rw [h1, List.map_replicate]), _, rfl, ?_⟩
      refine ifF (by simp) ?_
      refine ⟨tx z, rfl, ⟨_, rfl⟩, _, _, rfl, rfl, rfl, _, rfl, ?_⟩
      refine ifF ?_ (q _ s1)
      rw [s_dot, count_S, cps_count_dot]
      rfl
end
end PP

/-! ### movers -/
namespace PP
open PySem PySem.Spec PyProof.Rows L2 SX PR PL
section
variable {P : Program} {w : World} {K : PySem.W.Frag} {mg : Str → Option Value} {base : Heap}
abbrev nV (n : Nat) : V := .int (n : Nat)
/-- a new list of the pads whose leapers can move -/
def spMovers : Sp := fun vs H Q _ => ∃ z : Zp, vs = [tx z] ∧ pads z ≤ 60 ∧ ∀ H' p, Same H H' → H p = none → H' p = some (.lst ((movers z).map nV)) → Q (.ref p) H'
theorem sc_movers : FnScope ["standing", "free", "found"] ["standing"] (defScope s_movers) := ⟨rfl, rfl, rfl, by decide +kernel, rfl, by decide +kernel, by decide +kernel⟩
/-- the list so far, one more behind a test -/
def opt (c : Bool) (n : Nat) : List Nat := if c = true then [n] else []
theorem opt_t {c : Bool} {n : Nat} (h : c = true) : opt c n = [n] := if_pos h
theorem opt_f {c : Bool} {n : Nat} (h : c = false) : opt c n = [] := if_neg (by rw [h]; exact Bool.false_ne_true)
theorem opt_len (c : Bool) (n : Nat) : (opt c n).length ≤ 1 := by cases c <;> simp [opt]
theorem len4 (a b c d : List Nat) (h1 : a.length ≤ 1) (h2 : b.length ≤ 1) (h3 : c.length ≤ 1) (h4 : d.length ≤ 1) : ((a ++ b ++ c ++ d).map nV).length < sizeLine := L2.small1000 (by simp; omega)
theorem snoc_nV (l : List Nat) (n : Nat) : l.map nV ++ [nV n] = (l ++ [n]).map nV := by rw [List.map_append]; rfl
theorem c_movers (D : Df K mg "movers" s_movers ["standing"]) : Cal P w K mg base 1 "movers" spMovers := by
  refine cal_of D sc_movers (fun vs H Q E h => ?_) (fun f cdv A outer s H vs Q E hr h => ?_)
  · obtain ⟨z, rfl, _⟩ := h
    rfl
  · obtain ⟨z, rfl, hp, q⟩ := h
    have hl : (S (cps z)).length = pads z := by rw [S_len, cps_len]
    have hlz : (S (cps z)).length ≤ sizeLine := small (by omega)
    have hfr : fr z < pads z := by unfold fr pads; omega
    refine ⟨_, pss_cons (ps_par (i := 1) (j := 2) (by rfl) sc_movers.nd rfl rfl (by decide) rfl rfl (pa_cons (pe_m1 PySem.F.slot_str_index PySem.F.type_str_index mt_sindex (pv 0) pe_str) (pa_cons (pe_lst pa_nil) pa_nil)) (by rfl))
      (C8.pss_cut (ps_if (PW.pt (pw_and (pt_cmpR op_gt (pv 1) pe_int (nomark _)) (pw_and1 (pt_cmpR op_eq (pe_slice sl_str (pv 0) (po_some (pe_op op_sub (pv 1) pe_int)) (po_some (pv 1))) pe_str (nomark _)))))
          (pss_one (ps_expr (pe_bm PySem.F.plainAttrs_list PySem.F.slot_list_append PySem.F.type_list_append mt_append (pv 2) (pa_cons (pe_op op_sub (pv 1) pe_int) pa_nil)))) pss_nil)
      (C8.pss_cut (ps_if (PW.pt (pw_and (pt_cmpR op_gt (pv 1) pe_int (nomark _)) (pw_and1 (pt_cmpR op_eq (pe_item_str (pv 0) (pe_op op_sub (pv 1) pe_int) (fun _ _ => rfl)) pe_str (nomark _)))))
          (pss_one (ps_expr (pe_bm PySem.F.plainAttrs_list PySem.F.slot_list_append PySem.F.type_list_append mt_append (pv 2) (pa_cons (pe_op op_sub (pv 1) pe_int) pa_nil)))) pss_nil)
      (C8.pss_cut (ps_if (pt_cmpR op_eq (pe_slice sl_str (pv 0) (po_some (pe_op op_add (pv 1) pe_int)) (po_some (pe_op op_add (pv 1) pe_int))) pe_str (nomark _))
          (pss_one (ps_expr (pe_bm PySem.F.plainAttrs_list PySem.F.slot_list_append PySem.F.type_list_append mt_append (pv 2) (pa_cons (pe_op op_add (pv 1) pe_int) pa_nil)))) pss_nil)
      (C8.pss_cut (ps_if (pt_cmpR op_eq (pe_slice sl_str (pv 0) (po_some (pe_op op_add (pv 1) pe_int)) (po_some (pe_op op_add (pv 1) pe_int))) pe_str (nomark _))
          (pss_one (ps_expr (pe_bm PySem.F.plainAttrs_list PySem.F.slot_list_append PySem.F.type_list_append mt_append (pv 2) (pa_cons (pe_op op_add (pv 1) pe_int) pa_nil)))) pss_nil)
      (pss_one (ps_ret (pv 2))))))), ?_⟩
    -- free, found = standing.index('.'), []
    obtain ⟨r, hocc⟩ := occ_at (cps z) 46 (fr z) (cps_free z) (fun k hk => cps_before z hk)
    rw [← s_dot] at hocc
    refine ⟨tx z, rfl, ⟨_, rfl⟩, _, _, fr z, r, rfl, rfl, hocc, Nat.zero_le _, fun p np => ⟨_, _, rfl, ?_⟩⟩
    have s0 : Same H (upd H p (.lst [])) := same_upd np
    -- if free > 1 and standing[free - 2:free] == 'ab'
    refine ⟨fun σ' H' => σ' = [some (tx z), some (nV (fr z)), some (.ref p)] ∧ Same H H' ∧ H' p = some (.lst ((opt (c1 z) (fr z - 2)).map nV)), ?_, ?_⟩
    · have fin : c1 z = false → ([some (tx z), some (nV (fr z)), some (V.ref p)] : L2.St) = [some (tx z), some (nV (fr z)), some (.ref p)] ∧ Same H (upd H p (.lst [])) ∧ (upd H p (.lst [])) p = some (.lst ((opt (c1 z) (fr z - 2)).map nV)) := fun e => by
        rw [opt_f e]
        exact ⟨rfl, s0, upd_same⟩
      refine ⟨_, rfl, _, _, rfl, rfl, _, rfl, ifB (fun e => ?_) (fun e => ?_)⟩
      · have h1 : 1 < fr z := by have := of_decide_eq_true e; omega
        refine ⟨tx z, rfl, _, rfl, _, _, rfl, rfl, _, rfl, _, rfl, _, rfl, _, rfl, hlz, rfl, _, rfl, ?_⟩
        have ec : decide (V.str (cutS (S (cps z)) (some ((fr z : Int) - 2)) (some (fr z : Int))) = V.str (Str.ofString "ab")) = c1 z := by
          rw [show ((fr z : Int) - 2) = ((fr z - 2 : Nat) : Int) by omega, cutS_nn, s_ab, dec_str, show fr z - (fr z - 2) = 2 by omega]
          unfold c1
          rw [decide_eq_true h1, Bool.true_and]
        refine ifB (fun e2 => ?_) (fun e2 => fin (ec.symm.trans e2))
        refine ⟨.ref p, rfl, .inl ⟨rfl, _, SqL.of upd_same⟩, _, rfl, _, _, rfl, rfl, p, _, _, rfl, rfl, upd_same, (by decide), ?_⟩
        refine ⟨rfl, same_upd2 s0 np, ?_⟩
        rw [upd_same, opt_t (ec.symm.trans e2)]
        show some (HO.lst [V.int ((fr z : Int) - 2)]) = some (HO.lst [V.int ((fr z - 2 : Nat) : Int)])
        rw [show ((fr z : Int) - 2) = ((fr z - 2 : Nat) : Int) by omega]
      · have h1 : ¬ 1 < fr z := by have := of_decide_eq_false e; omega
        exact ifF rfl (fin (by unfold c1; rw [decide_eq_false h1]; rfl))
    rintro _ H1 ⟨rfl, s1, h1⟩
    -- if free > 0 and standing[free - 1] == 'a'
    refine ⟨fun σ' H' => σ' = [some (tx z), some (nV (fr z)), some (.ref p)] ∧ Same H H' ∧ H' p = some (.lst ((opt (c1 z) (fr z - 2) ++ opt (c2 z) (fr z - 1)).map nV)), ?_, ?_⟩
    · have fin : c2 z = false → ([some (tx z), some (nV (fr z)), some (V.ref p)] : L2.St) = [some (tx z), some (nV (fr z)), some (.ref p)] ∧ Same H H1 ∧ H1 p = some (.lst ((opt (c1 z) (fr z - 2) ++ opt (c2 z) (fr z - 1)).map nV)) := fun e => by
        rw [opt_f e, List.append_nil]
        exact ⟨rfl, s1, h1⟩
      refine ⟨_, rfl, _, _, rfl, rfl, _, rfl, ifB (fun e => ?_) (fun e => ?_)⟩
      · have h0 : 0 < fr z := by have := of_decide_eq_true e; omega
        have ei : ((fr z : Int) - 1) = ((fr z - 1 : Nat) : Int) := by omega
        obtain ⟨c, hc⟩ : ∃ c, (cps z)[fr z - 1]? = some c := ⟨_, List.getElem?_eq_getElem (by rw [cps_len]; omega)⟩
        refine ⟨tx z, rfl, _, rfl, _, _, rfl, rfl, S (cps z), _, c, rfl, rfl, (by omega), (by omega), (by rw [hl]; omega), ?_, rfl, _, rfl, ?_⟩
        · rw [ei, Int.toNat_natCast]
          simpa using hc
        have ec : decide (V.str (⟨#[c]⟩ : Str) = V.str (Str.ofString "a")) = c2 z := by
          rw [s_a, show (⟨#[c]⟩ : Str) = S [c] from rfl, dec_str]
          unfold c2
          rw [decide_eq_true h0, Bool.true_and, hc]
          simp
        refine ifB (fun e2 => ?_) (fun e2 => fin (ec.symm.trans e2))
        refine ⟨.ref p, rfl, .inl ⟨rfl, _, SqL.of h1⟩, _, rfl, _, _, rfl, rfl, p, _, _, rfl, rfl, h1, ?_, ?_⟩
        · have := len4 (opt (c1 z) (fr z - 2)) [] [] [] (opt_len _ _) (by simp) (by simp) (by simp)
          simpa using this
        refine ⟨rfl, same_upd2 s1 np, ?_⟩
        rw [upd_same, opt_t (ec.symm.trans e2), List.map_append]
        show some (HO.lst (_ ++ [V.int ((fr z : Int) - 1)])) = some (HO.lst (_ ++ [V.int ((fr z - 1 : Nat) : Int)]))
        rw [ei]
      · have h0 : ¬ 0 < fr z := by have := of_decide_eq_false e; omega
        exact ifF rfl (fin (by unfold c2; rw [decide_eq_false h0]; rfl))
    rintro _ H2 ⟨rfl, s2, h2⟩
    -- if standing[free + 1:free + 2] == 'b'
    refine ⟨fun σ' H' => σ' = [some (tx z), some (nV (fr z)), some (.ref p)] ∧ Same H H' ∧ H' p = some (.lst ((opt (c1 z) (fr z - 2) ++ opt (c2 z) (fr z - 1) ++ opt (c3 z) (fr z + 1)).map nV)), ?_, ?_⟩
    · refine ⟨tx z, rfl, _, rfl, _, _, rfl, rfl, _, rfl, _, rfl, _, _, rfl, rfl, _, rfl, _, rfl, hlz, rfl, _, rfl, ?_⟩
      have ec : decide (V.str (cutS (S (cps z)) (some ((fr z : Int) + 1)) (some ((fr z : Int) + 2))) = V.str (Str.ofString "b")) = c3 z := by
        rw [show ((fr z : Int) + 1) = ((fr z + 1 : Nat) : Int) by omega, show ((fr z : Int) + 2) = ((fr z + 2 : Nat) : Int) by omega, cutS_nn, s_b, dec_str, show fr z + 2 - (fr z + 1) = 1 by omega]
        rfl
      refine ifB (fun e2 => ?_) (fun e2 => ?_)
      · refine ⟨.ref p, rfl, .inl ⟨rfl, _, SqL.of h2⟩, _, rfl, _, _, rfl, rfl, p, _, _, rfl, rfl, h2, ?_, ?_⟩
        · have := len4 (opt (c1 z) (fr z - 2)) (opt (c2 z) (fr z - 1)) [] [] (opt_len _ _) (opt_len _ _) (by simp) (by simp)
          simpa using this
        refine ⟨rfl, same_upd2 s2 np, ?_⟩
        rw [upd_same, opt_t (ec.symm.trans e2)]
        exact congrArg (fun x => some (HO.lst x)) (snoc_nV _ _)
      · have e3 : c3 z = false := ec.symm.trans e2
        refine ⟨rfl, s2, ?_⟩
        rw [opt_f e3, List.append_nil]
        exact h2
    rintro _ H3 ⟨rfl, s3, h3⟩
    -- if standing[free + 1:free + 3] == 'ab'
    refine ⟨fun σ' H' => σ' = [some (tx z), some (nV (fr z)), some (.ref p)] ∧ Same H H' ∧ H' p = some (.lst ((opt (c1 z) (fr z - 2) ++ opt (c2 z) (fr z - 1) ++ opt (c3 z) (fr z + 1) ++ opt (c4 z) (fr z + 2)).map nV)), ?_, ?_⟩
    · refine ⟨tx z, rfl, _, rfl, _, _, rfl, rfl, _, rfl, _, rfl, _, _, rfl, rfl, _, rfl, _, rfl, hlz, rfl, _, rfl, ?_⟩
      have ec : decide (V.str (cutS (S (cps z)) (some ((fr z : Int) + 1)) (some ((fr z : Int) + 3))) = V.str (Str.ofString "ab")) = c4 z := by
        rw [show ((fr z : Int) + 1) = ((fr z + 1 : Nat) : Int) by omega, show ((fr z : Int) + 3) = ((fr z + 3 : Nat) : Int) by omega, cutS_nn, s_ab, dec_str, show fr z + 3 - (fr z + 1) = 2 by omega]
        rfl
      refine ifB (fun e2 => ?_) (fun e2 => ?_)
      · refine ⟨.ref p, rfl, .inl ⟨rfl, _, SqL.of h3⟩, _, rfl, _, _, rfl, rfl, p, _, _, rfl, rfl, h3, ?_, ?_⟩
        · have := len4 (opt (c1 z) (fr z - 2)) (opt (c2 z) (fr z - 1)) (opt (c3 z) (fr z + 1)) [] (opt_len _ _) (opt_len _ _) (opt_len _ _) (by simp)
          simpa using this
        refine ⟨rfl, same_upd2 s3 np, ?_⟩
        rw [upd_same, opt_t (ec.symm.trans e2)]
        exact congrArg (fun x => some (HO.lst x)) (snoc_nV _ _)
      · have e3 : c4 z = false := ec.symm.trans e2
        refine ⟨rfl, s3, ?_⟩
        rw [opt_f e3, List.append_nil]
        exact h3
    rintro _ H4 ⟨rfl, s4, h4⟩
    have em : opt (c1 z) (fr z - 2) ++ opt (c2 z) (fr z - 1) ++ opt (c3 z) (fr z + 1) ++ opt (c4 z) (fr z + 2) = movers z := (movers_read z).symm
    rw [em] at h4
    exact ⟨.ref p, rfl, q H4 p s4 np h4⟩
end
end PP

/-! ### behind -/
namespace PP
open PySem PySem.Spec PyProof.Rows L2 SX PR PL
section
variable {P : Program} {w : World} {K : PySem.W.Frag} {mg : Str → Option Value} {base : Heap}
/-- the standing behind the move of a pad's leaper -/
def spBehind : Sp := fun vs H Q _ => ∃ (z : Zp) (p : Nat) (y : Zp), vs = [tx z, nV p] ∧ (p, y) ∈ next z ∧ pads z ≤ 60 ∧ ∀ H', Same H H' → Q (tx y) H'
theorem sc_behind : FnScope ["standing", "pad", "signs", "free"] ["standing", "pad"] (defScope s_behind) := ⟨rfl, rfl, rfl, by decide +kernel, rfl, by decide +kernel, by decide +kernel⟩
theorem ixN_of {n j : Nat} (h : j < n) : ixN n (j : Int) = some j := by
  unfold ixN
  rw [if_pos (by omega), if_pos (by omega), Int.toNat_natCast]
abbrev sV (c : Nat) : V := .str (S [c])
theorem sV_map (l : List Nat) : l.map sV = (l.map fun c => S [c]).map V.str := by rw [List.map_map]; rfl
theorem c_behind (D : Df K mg "behind" s_behind ["standing", "pad"]) (T : Bl mg) : Cal P w K mg base 1 "behind" spBehind := by
  refine cal_of D sc_behind (fun vs H Q E h => ?_) (fun f cdv A outer s H vs Q E hr h => ?_)
  · obtain ⟨z, p, y, rfl, _⟩ := h
    rfl
  · obtain ⟨z, p, y, rfl, hy, hp, q⟩ := h
    refine ⟨_, pss_cons (ps_set (i := 2) sc_behind.nd rfl (.inl rfl) (pe_callTy (call_list_txt rfl) (by rfl) T.list (by decide +kernel) (pa_cons (pv 0) pa_nil)))
      (pss_cons (ps_set (i := 3) sc_behind.nd rfl (.inl rfl) (pe_m1 PySem.F.slot_str_index PySem.F.type_str_index mt_sindex (pv 0) pe_str))
      (pss_cons (ps_asg (pe_tup (pa_cons (pe_ix ix_list (pv 2) (pv 1) (fun _ _ => rfl)) (pa_cons pe_str pa_nil))) (pg_tup rfl (pgs_cons (pg_sub (pv 2) (pv 3) set_list) (pgs_cons (pg_sub (pv 2) (pv 1) set_list) pgs_nil))))
      (pss_one (ps_ret (pe_join pe_str (pv 2)))))), ?_⟩
    have hlen := cps_len z
    have hfr : fr z < pads z := by unfold fr pads; omega
    have hpl : p < pads z := next_lt hy
    have hne : p ≠ fr z := next_ne hy
    obtain ⟨c, hc, _, ec⟩ := behind_at hy
    obtain ⟨r, hocc⟩ := occ_at (cps z) 46 (fr z) (cps_free z) (fun k hk => cps_before z hk)
    rw [← s_dot] at hocc
    refine ⟨tx z, rfl, cps z, rfl, small (by omega), fun l nl => ?_⟩
    refine ⟨tx z, rfl, ⟨_, rfl⟩, _, _, fr z, r, rfl, rfl, hocc, ?_⟩
    have hg : ((cps z).map sV)[p]? = some (sV c) := by rw [List.getElem?_map, hc]; rfl
    refine ⟨.ref l, rfl, nV p, rfl, l, (cps z).map sV, (p : Int), sV c, rfl, rfl, SqL.of upd_same, atI_nat hg, (by show 2 ≤ sizeLine; decide), fun t nt => ?_⟩
    have nlt : l ≠ t := fun e => by rw [← e, upd_same] at nt; cases nt
    have nt0 : H t = none := (same_upd nl).free nt
    have hl1 : (upd (upd H l (.lst ((cps z).map sV))) t (.tup [sV c, .str (Str.ofString ".")])) l = some (.lst ((cps z).map sV)) := by
      rw [upd_ne nlt, upd_same]
    refine ⟨t, [sV c, .str (Str.ofString ".")], rfl, SqT.of upd_same, rfl, sV c, [.str (Str.ofString ".")], rfl, ?_⟩
    refine ⟨.ref l, rfl, nV (fr z), rfl, l, _, _, fr z, rfl, rfl, hl1, ixN_of (by rw [List.length_map]; omega), ?_⟩
    refine ⟨.str (Str.ofString "."), [], rfl, ?_⟩
    refine ⟨.ref l, rfl, nV p, rfl, l, _, _, p, rfl, rfl, upd_same, ixN_of (by rw [List.length_set, List.length_map]; omega), rfl, ?_⟩
    have ey : (((cps z).map sV).set (fr z) (sV c)).set p (.str (Str.ofString ".")) = ((cps y).map fun c => S [c]).map V.str := by
      rw [← sV_map, ← ec, s_dot, List.map_set, List.map_set]
    refine ⟨⟨_, rfl⟩, .ref l, rfl, Str.ofString "", l, (cps y).map fun c => S [c], rfl, rfl, .inl (SqL.of (by rw [upd_same, ey])), ?_, ?_⟩
    · have h1 : (cps y).length ≤ 60 := by rw [cps_len, next_pads hy]; exact hp
      have h2 := join_size (cps y) (by omega)
      rw [s_nil, show (S []).length = 0 from rfl, Nat.mul_zero]
      omega
    · rw [s_nil, PR.join_one]
      refine q _ (same_upd2 (same_upd2 (same_upd2 (same_upd nl) nt0) nl) nl)
theorem in_nV (i : Int) (l : List Nat) : inV (.int i) (l.map nV) = l.any fun n => ((n : Int) == i) := by
  unfold inV
  rw [List.any_map]
  rfl
theorem in_nV_of {n : Nat} {l : List Nat} (h : n ∈ l) : inV (nV n) (l.map nV) = true := by
  rw [in_nV]
  exact List.any_eq_true.mpr ⟨n, h, by simp⟩
theorem flat_nV (l : List Nat) : (l.map nV).all flatV = true := by
  rw [List.all_map]
  exact List.all_eq_true.mpr fun _ _ => rfl
end
end PP

/-! ### moves -/
namespace PP
open PySem PySem.Spec PyProof.Rows L2 SX PR PL
section
variable {P : Program} {w : World} {K : PySem.W.Frag} {mg : Str → Option Value} {base : Heap}
/-- moves(standing) of a standing -/
theorem sc_moves : FnScope ["standing"] ["standing"] (defScope s_moves) := ⟨rfl, rfl, rfl, by decide +kernel, rfl, by decide +kernel, by decide +kernel⟩
theorem c_moves (D : Df K mg "moves" s_moves ["standing"]) (ca : Cal P w K mg base 1 "asked_standing" spAsked) (cm : Cal P w K mg base 1 "movers" spMovers) : Cal P w K mg base 2 "moves" spMovers := by
  refine cal_of D sc_moves (fun vs H Q E h => ?_) (fun f cdv A outer s H vs Q E hr h => ?_)
  · obtain ⟨z, rfl, _⟩ := h
    rfl
  · obtain ⟨z, rfl, hp, q⟩ := h
    refine ⟨_, pss_cons (ps_expr (pe_c ca hr (by decide) (by rfl) (pa_cons (pv 0) pa_nil))) (pss_one (ps_ret (pe_c cm hr (by decide) (by rfl) (pa_cons (pv 0) pa_nil)))), ?_⟩
    refine ⟨tx z, rfl, z, rfl, hp, fun H1 s1 => ?_⟩
    exact ⟨tx z, rfl, z, rfl, hp, fun H2 p s2 np hl => q H2 p (s1.trans s2) (s1.free np) hl⟩
end
end PP

/-! ### moved -/
namespace PP
open PySem PySem.Spec PyProof.Rows L2 SX PR PL
section
variable {P : Program} {w : World} {K : PySem.W.Frag} {mg : Str → Option Value} {base : Heap}
theorem sc_moved : FnScope ["standing", "pad"] ["standing", "pad"] (defScope s_moved) := ⟨rfl, rfl, rfl, by decide +kernel, rfl, by decide +kernel, by decide +kernel⟩
theorem c_moved (D : Df K mg "moved" s_moved ["standing", "pad"]) (ca : Cal P w K mg base 1 "asked_standing" spAsked) (cw : Cal P w K mg base 1 "is_whole" (spWhole K)) (cm : Cal P w K mg base 1 "movers" spMovers) (cb : Cal P w K mg base 1 "behind" spBehind) : Cal P w K mg base 2 "moved" spBehind := by
  refine cal_of D sc_moved (fun vs H Q E h => ?_) (fun f cdv A outer s H vs Q E hr h => ?_)
  · obtain ⟨z, p, y, rfl, _⟩ := h
    rfl
  · obtain ⟨z, p, y, rfl, hy, hp, q⟩ := h
    refine ⟨_, pss_cons (ps_expr (pe_c ca hr (by decide) (by rfl) (pa_cons (pv 0) pa_nil)))
      (pss_cons (ps_if (PW.pt (pw_or (pt_not (pt_val (pe_c cw hr (by decide) (by rfl) (pa_cons (pv 1) pa_nil)))) (pw_or1 (pt_cmpR op_notIn_seq (pv 1) (pe_c cm hr (by decide) (by rfl) (pa_cons (pv 0) pa_nil)) (by rfl))))) (pss_one ps_never) pss_nil)
      (pss_one (ps_ret (pe_c cb hr (by decide) (by rfl) (pa_cons (pv 0) (pa_cons (pv 1) pa_nil)))))), ?_⟩
    refine ⟨tx z, rfl, z, rfl, hp, fun H1 s1 => ?_⟩
    refine ⟨nV p, rfl, nV p, "int", true, false, rfl, .base (.int _), by decide +kernel, by decide +kernel, _, rfl, ifF rfl ?_⟩
    refine ⟨nV p, rfl, tx z, rfl, z, rfl, hp, fun H2 m s2 nm hm => ?_⟩
    refine ⟨m, (movers z).map nV, rfl, .inl (SqL.of hm), rfl, flat_nV _, _, rfl, ifF ?_ ?_⟩
    · rw [if_pos rfl, in_nV_of (l := movers z) (n := p) (List.mem_map.mpr ⟨_, hy, rfl⟩)]
      rfl
    · exact ⟨tx z, rfl, nV p, rfl, z, p, y, rfl, hy, hp, fun H3 s3 => q H3 (s1.trans (s2.trans s3))⟩
end
end PP

/-! ### _law_number: some whole number -/
namespace PP
open PySem PySem.Spec PyProof.Rows L2 SX PR PL
section
variable {P : Program} {w : World} {K : PySem.W.Frag} {mg : Str → Option Value} {base : Heap}
def spNum : Sp := fun vs H Q _ => ∃ (c a wh : Int), vs = [.int c, .int a, .int wh] ∧ Builtin.Int.intBits c ≤ 1048576 ∧ 0 ≤ a ∧ a ≤ 1000 ∧ ∀ n : Int, Q (.int n) H
theorem sc_num : FnScope ["_law_cell", "_law_at", "_law_whole", "_law_blend", "_law_more"] ["_law_cell", "_law_at", "_law_whole"] (defScope s__law_number) := ⟨rfl, rfl, rfl, by decide +kernel, rfl, by decide +kernel, by decide +kernel⟩
theorem bits_small {x : Int} (h1 : -(2 ^ 40) < x) (h2 : x < 2 ^ 40) : Builtin.Int.intBits x ≤ 40 := intBits_le_iff.mpr (by omega)
theorem num_ok {c a b : Int} (hc : Builtin.Int.intBits c ≤ 1048576) (ha : 0 ≤ a) (ha2 : a ≤ 1000) (hb : 0 ≤ b) (hb2 : b < 2147483647) : IntMulOk (b * (c + 31 * a + 7)) (b + c + 5) := by
  have h1 : Builtin.Int.intBits b ≤ 40 := bits_small (by omega) (by omega)
  have h2 : Builtin.Int.intBits (31 * a + 7) ≤ 40 := bits_small (by omega) (by omega)
  have h3 : Builtin.Int.intBits (c + (31 * a + 7)) ≤ 1048577 := Nat.le_trans (intBits_add_le hc h2) (by omega)
  have h4 : Builtin.Int.intBits (b + 5) ≤ 40 := bits_small (by omega) (by omega)
  have h5 : Builtin.Int.intBits (c + (b + 5)) ≤ 1048577 := Nat.le_trans (intBits_add_le hc h4) (by omega)
  rw [show c + 31 * a + 7 = c + (31 * a + 7) by omega, show b + c + 5 = c + (b + 5) by omega]
  exact IntMulOk.of_le (intBits_mul_le h1 h3) h5 (by decide)
theorem c_num (D : Df K mg "_law_number" s__law_number ["_law_cell", "_law_at", "_law_whole"]) : Cal P w K mg base 1 "_law_number" spNum := by
  refine cal_of D sc_num (fun vs H Q E h => ?_) (fun f cdv A outer s H vs Q E hr h => ?_)
  · obtain ⟨c, a, wh, rfl, _⟩ := h
    rfl
  · obtain ⟨c, a, wh, rfl, hc, ha, ha2, q⟩ := h
    refine ⟨_, pss_cons (ps_if (pt_cmpR op_ge (pv 0) (pe_op op_pow pe_int pe_int) (nomark _)) (pss_one (ps_ret (pe_op op_fdiv (pv 0) (pe_op op_add pe_int (pe_op op_mod (pv 1) pe_int))))) pss_nil)
      (pss_cons (ps_set (i := 3) sc_num.nd rfl (.inl rfl) (pe_op op_mod (pe_op op_add (pe_op op_mul (pe_op op_add (pv 0) (pe_op op_mul pe_int (pv 1))) pe_int) (pv 2)) pe_int))
      (pss_cons (ps_set (i := 4) sc_num.nd rfl (.inl rfl) (pe_op op_mul (pv 3) (pe_op op_add (pe_op op_add (pv 0) (pe_op op_mul pe_int (pv 1))) pe_int)))
      (pss_one (ps_ret (pe_op op_fdiv (pe_op op_mul (pe_op op_mulX (pv 4) (pe_op op_add (pe_op op_add (pv 3) (pv 0)) pe_int)) (pe_op op_add (pe_op op_mul (pv 3) (pv 3)) pe_int)) (pe_op op_add pe_int (pv 1))))))), ?_⟩
    refine ⟨.int c, rfl, 10, 18, rfl, rfl, ⟨by decide, by decide, by decide⟩, _, _, rfl, rfl, _, rfl, ifB (fun _ => ?_) (fun _ => ?_)⟩
    · refine ⟨.int c, rfl, .int a, rfl, _, _, rfl, rfl, (by show (0 : Int) < 7; decide), _, _, rfl, rfl, _, _, rfl, rfl, ?_, q _⟩
      show (0 : Int) < 1 + a % 7 ∧ 1 + a % 7 < 1073741824
      omega
    · refine ⟨.int c, rfl, .int a, rfl, _, _, rfl, rfl, .inl ⟨by decide, by decide⟩, _, _, rfl, rfl, _, _, rfl, rfl, .inr ⟨by decide, by decide⟩, .int wh, rfl, _, _, rfl, rfl, _, _, rfl, rfl, (by show (0 : Int) < 2147483647; decide), ?_⟩
      obtain ⟨b, eb⟩ : ∃ b : Int, ((c + 977 * a) * 48271 + wh) % 2147483647 = b := ⟨_, rfl⟩
      have hb : 0 ≤ b := by rw [← eb]; exact Int.emod_nonneg _ (by decide)
      have hb2 : b < 2147483647 := by rw [← eb]; exact Int.emod_lt_of_pos _ (by decide)
      show tSeq _ _ _ (List.set _ 3 (some (V.int (((c + 977 * a) * 48271 + wh) % 2147483647)))) _
      rw [eb]
      refine ⟨.int b, rfl, .int c, rfl, .int a, rfl, _, _, rfl, rfl, .inl ⟨by decide, by decide⟩, _, _, rfl, rfl, _, _, rfl, rfl, _, _, rfl, rfl, .inl ⟨by omega, by omega⟩, ?_⟩
      refine ⟨.int (b * (c + 31 * a + 7)), rfl, .int b, rfl, .int c, rfl, _, _, rfl, rfl, _, _, rfl, rfl, _, _, rfl, rfl, num_ok hc ha ha2 hb hb2, ?_⟩
      refine ⟨.int b, rfl, .int b, rfl, _, _, rfl, rfl, .inl ⟨by omega, by omega⟩, _, _, rfl, rfl, _, _, rfl, rfl, .inr ?_, .int a, rfl, _, _, rfl, rfl, _, _, rfl, rfl, ?_, q _⟩
      · have h1 : b * b ≤ 2147483647 * 2147483647 := Int.mul_le_mul (by omega) (by omega) hb (by decide)
        have h0 : 0 ≤ b * b := Int.mul_nonneg hb hb
        exact ⟨by omega, by omega⟩
      · show (0 : Int) < 1009 + a ∧ 1009 + a < 1073741824
        omega
end
end PP

/-! ### _law_moves, _law_behind -/
namespace PP
open PySem PySem.Spec PyProof.Rows L2 SX PR PL
section
variable {P : Program} {w : World} {K : PySem.W.Frag} {mg : Str → Option Value} {base : Heap}
theorem sc_lmoves : FnScope ["_law_standing_here", "_law_found", "_law_pad", "_law_sign", "_law_ahead"] ["_law_standing_here"] (defScope s__law_moves) := ⟨rfl, rfl, rfl, by decide +kernel, rfl, by decide +kernel, by decide +kernel⟩
theorem filter_more (g : Nat → Bool) (i : Nat) : (List.range (i + 1)).filter g = (List.range i).filter g ++ opt (g i) i := by
  rw [List.range_succ, List.filter_append, List.filter_cons, List.filter_nil]
  rfl
theorem filter_len (g : Nat → Bool) (i : Nat) : ((List.range i).filter g).length ≤ i := by
  have := List.length_filter_le g (List.range i)
  rw [List.length_range] at this
  exact this
theorem ahead_le (c : List Nat) (i : Nat) : (ahead c i).length ≤ 2 := by
  unfold PL.ahead
  split <;> rw [List.length_take] <;> omega
theorem c_lmoves (D : Df K mg "_law_moves" s__law_moves ["_law_standing_here"]) (T : Bl mg) : Cal P w K mg base 1 "_law_moves" spMovers := by
  refine cal_of D sc_lmoves (fun vs H Q E h => ?_) (fun f cdv A outer s H vs Q E hr h => ?_)
  · obtain ⟨z, rfl, _⟩ := h
    rfl
  · obtain ⟨z, rfl, hp, q⟩ := h
    refine ⟨_, pss_cons (ps_set (i := 1) sc_lmoves.nd rfl (.inl rfl) (pe_lst pa_nil))
      (pss_cons (ps_for PassesOwn.never rfl (pi_enumS (by rfl) T.enum (pa_cons (pv 0) pa_nil)) (pg_tup rfl (pgs_cons (pg_name (i := 2) sc_lmoves.nd rfl (.inl rfl)) (pgs_cons (pg_name (i := 3) sc_lmoves.nd rfl (.inl rfl)) pgs_nil)))
        (C8.pss_cut (ps_set (i := 4) sc_lmoves.nd rfl (.inl rfl) (pe_ifExp (pt_cmpR op_eq (pv 3) pe_str (nomark _)) (pe_slice sl_str (pv 0) (po_some (pe_op op_add (pv 2) pe_int)) (po_some (pe_op op_add (pv 2) pe_int)))
            (pe_slice sl_str (pe_revS (pe_slice sl_str (pv 0) po_none (po_some (pv 2)))) po_none (po_some pe_int))))
        (pss_one (ps_if (PW.pt (pw_and (pt_cmpR op_ne (pv 3) pe_str (nomark _)) (pw_and1 (PW.pt (pw_or (pt_cmpR op_eq (pe_slice sl_str (pv 4) po_none (po_some pe_int)) pe_str (nomark _))
            (pw_or1 (PW.pt (pw_and (pt_cmpR op_eq (pe_slice sl_str (pv 4) (po_some pe_int) po_none) pe_str (nomark _)) (pw_and1 (pt_cmpR op_notIn_seq (pe_item_str (pv 4) pe_int (fun _ _ => rfl)) (pe_lst (pa_cons (pv 3) (pa_cons pe_str pa_nil))) (by rfl))))))))))) 
          (pss_one (ps_expr (pe_bm PySem.F.plainAttrs_list PySem.F.slot_list_append PySem.F.type_list_append mt_append (pv 1) (pa_cons (pv 2) pa_nil)))) pss_nil))))
      (pss_one (ps_ret (pv 1)))), ?_⟩
    have hlen := cps_len z
    have hlz : (S (cps z)).length ≤ sizeLine := small (by rw [S_len]; omega)
    refine ⟨Nat.zero_le _, fun p np => ?_⟩
    refine ⟨tx z, rfl, cps z, rfl, for_it (walk_enumS (l := cps z)) (fun i σ H' => ∃ y2 y3 y4, σ = [some (tx z), some (.ref p), y2, y3, y4] ∧ Same H H' ∧ H' p = some (.lst (((List.range i).filter (canGo (cps z))).map nV)))
      ⟨none, none, none, rfl, same_upd np, upd_same⟩ (fun _ _ _ _ _ => trivial) ?_ ?_⟩
    · rintro i x σ H1 H2 hi ⟨y2, y3, y4, rfl, s1, h1⟩ ⟨Tp, c, rfl, nT, rfl, hc⟩
      have npT : p ≠ Tp := ne_of_none h1 nT
      have nT0 : H Tp = none := s1.free nT
      refine ⟨Tp, [nV i, sV c], rfl, SqT.of upd_same, rfl, nV i, [sV c], rfl, sV c, [], rfl, rfl, ?_⟩
      generalize eH : upd H1 Tp (.tup [nV i, sV c]) = H2
      have s2 : Same H H2 := by rw [← eH]; exact same_upd2 s1 nT0
      have h2 : H2 p = some (.lst (((List.range i).filter (canGo (cps z))).map nV)) := by rw [← eH, upd_ne npT]; exact h1
      -- _law_ahead
      refine ⟨fun σ' H' => σ' = [some (tx z), some (.ref p), some (nV i), some (sV c), some (.str (S (ahead (cps z) i)))] ∧ H2 = H', ?_, ?_⟩
      · refine ⟨sV c, rfl, rfl, _, rfl, ifB (fun e => ?_) (fun e => ?_)⟩
        · rw [s_a, dec_str] at e
          have ec : c = 97 := by simpa using e
          refine ⟨tx z, rfl, nV i, rfl, _, _, rfl, rfl, _, rfl, nV i, rfl, _, _, rfl, rfl, _, rfl, S (cps z), rfl, hlz, ?_, rfl⟩
          have : cutS (S (cps z)) (some ((i : Int) + 1)) (some ((i : Int) + 3)) = S (ahead (cps z) i) := by
            rw [show (i : Int) + 1 = ((i + 1 : Nat) : Int) by omega, show (i : Int) + 3 = ((i + 3 : Nat) : Int) by omega, cutS_nn, show i + 3 - (i + 1) = 2 by omega]
            unfold PL.ahead
            rw [if_pos (by rw [hc, ec])]
          rw [← this]
          rfl
        · rw [s_a, dec_str] at e
          have ec : c ≠ 97 := by simpa using e
          refine ⟨tx z, rfl, nV i, rfl, _, rfl, S (cps z), rfl, hlz, (cps z).take i, by rw [show ((i : Nat) : Int) = (i : Int) from rfl, cutS_to], small (by rw [List.length_take]; omega), _, rfl, S ((cps z).take i).reverse, rfl, small (by rw [S_len, List.length_reverse, List.length_take]; omega), ?_, rfl⟩
          have : cutS (S ((cps z).take i).reverse) none (some (2 : Int)) = S (ahead (cps z) i) := by
            rw [show (2 : Int) = ((2 : Nat) : Int) by rfl, cutS_to]
            unfold PL.ahead
            rw [if_neg (by rw [hc]; exact fun z => ec (Option.some.inj z))]
          rw [← this]
          rfl
      rintro _ _ ⟨rfl, rfl⟩
      have hal : (S (ahead (cps z) i)).length ≤ sizeLine := small (by rw [S_len]; have := ahead_le (cps z) i; omega)
      have no : canGo (cps z) i = false → ∃ y2 y3 y4, ([some (tx z), some (.ref p), some (nV i), some (sV c), some (.str (S (ahead (cps z) i)))] : L2.St) = [some (tx z), some (.ref p), y2, y3, y4] ∧ Same H H2 ∧ H2 p = some (.lst (((List.range (i + 1)).filter (canGo (cps z))).map nV)) := fun e =>
        ⟨_, _, _, rfl, s2, by rw [filter_more, opt_f e, List.append_nil]; exact h2⟩
      have eg : canGo (cps z) i = (decide (c ≠ 46) && (decide ((ahead (cps z) i).take 1 = [46]) || (decide ((ahead (cps z) i).drop 1 = [46]) && (decide ((ahead (cps z) i)[0]? ≠ some c) && decide ((ahead (cps z) i)[0]? ≠ some 46))))) := by
        unfold canGo
        rw [hc]
        simp
      have t1 : cutS (S (ahead (cps z) i)) none (some (1 : Int)) = S ((ahead (cps z) i).take 1) := by rw [show (1 : Int) = ((1 : Nat) : Int) by rfl, cutS_to]
      have t2 : cutS (S (ahead (cps z) i)) (some (1 : Int)) none = S ((ahead (cps z) i).drop 1) := by rw [show (1 : Int) = ((1 : Nat) : Int) by rfl, cutS_from]
      have hfl : (((List.range i).filter (canGo (cps z))).map nV).length < sizeLine := L2.small1000 (by rw [List.length_map]; have := filter_len (canGo (cps z)) i; omega)
      have yes : canGo (cps z) i = true → ∃ y2 y3 y4, ([some (tx z), some (.ref p), some (nV i), some (sV c), some (.str (S (ahead (cps z) i)))] : L2.St) = [some (tx z), some (.ref p), y2, y3, y4] ∧ Same H (upd H2 p (.lst (((List.range i).filter (canGo (cps z))).map nV ++ [nV i]))) ∧ (upd H2 p (.lst (((List.range i).filter (canGo (cps z))).map nV ++ [nV i]))) p = some (.lst (((List.range (i + 1)).filter (canGo (cps z))).map nV)) := fun e =>
        ⟨_, _, _, rfl, same_upd2 s2 np, by rw [upd_same, filter_more, opt_t e, snoc_nV]⟩
      -- if sign != '.' and (..)
      refine ⟨sV c, rfl, rfl, _, rfl, ifB (fun e1 => ?_) (fun e1 => ?_)⟩
      · rw [s_dot, dec_str] at e1
        have n46 : c ≠ 46 := by simpa using e1
        refine ⟨_, rfl, _, rfl, S (ahead (cps z) i), rfl, hal, rfl, _, rfl, ifB (fun e2 => ?_) (fun e2 => ?_)⟩
        · rw [t1, s_dot, dec_str] at e2
          have e3 : canGo (cps z) i = true := by rw [eg, decide_eq_true n46, e2]; rfl
          refine ifT rfl ?_
          exact ⟨.ref p, rfl, .inl ⟨rfl, _, SqL.of h2⟩, nV i, rfl, p, _, _, rfl, rfl, h2, hfl, yes e3⟩
        · rw [t1, s_dot, dec_str] at e2
          refine ⟨_, rfl, _, rfl, S (ahead (cps z) i), rfl, hal, rfl, _, rfl, ifB (fun e4 => ?_) (fun e4 => ?_)⟩
          · rw [t2, s_dot, dec_str] at e4
            obtain ⟨a0, ha0⟩ : ∃ a0, (ahead (cps z) i)[0]? = some a0 := by
              have := of_decide_eq_true e4
              cases h : ahead (cps z) i with
              | nil => rw [h] at this; simp at this
              | cons y r => exact ⟨y, rfl⟩
            have hpos : 0 < (ahead (cps z) i).length := (List.getElem?_eq_some_iff.mp ha0).1
            refine ⟨_, rfl, S (ahead (cps z) i), 0, a0, rfl, rfl, Int.le_refl _, by decide, by rw [S_len]; omega, by simpa using ha0, sV c, rfl, (by show 2 ≤ sizeLine; decide), fun l nl => ⟨l, _, rfl, .inl (SqL.of upd_same), rfl, rfl, ?_⟩⟩
            have ein : inV (V.str (⟨#[a0]⟩ : Str)) [sV c, V.str (Str.ofString ".")] = (decide (c = a0) || decide (46 = a0)) := by
              rw [s_dot]
              show (V.str (S [c])  |> fun _ => ((S [c] == S [a0]) || ((S [46] == S [a0]) || false))) = _
              show ((S [c] == S [a0]) || ((S [46] == S [a0]) || false)) = _
              rw [S_beq_eq, S_beq_eq, Bool.or_false]
              simp
            have npl : p ≠ l := ne_of_none h2 nl
            have s3 : Same H (upd H2 l (.lst [sV c, V.str (Str.ofString ".")])) := same_upd2 s2 (s2.free nl)
            refine ⟨_, rfl, ifB (fun e5 => ?_) (fun e5 => ?_)⟩
            · rw [if_pos rfl, ein] at e5
              have e3 : canGo (cps z) i = true := by
                rw [eg, decide_eq_true n46, e4, ha0]
                have e6 : (decide (c = a0) || decide (46 = a0)) = false := by simpa using e5
                simp at e6
                simp
                right
                exact ⟨fun q => e6.1 q.symm, fun q => e6.2 q.symm⟩
              have h3 : (upd H2 l (.lst [sV c, V.str (Str.ofString ".")])) p = some (.lst (((List.range i).filter (canGo (cps z))).map nV)) := by rw [upd_ne npl]; exact h2
              refine ⟨.ref p, rfl, .inl ⟨rfl, _, SqL.of h3⟩, nV i, rfl, p, _, _, rfl, rfl, h3, hfl, ?_⟩
              exact ⟨_, _, _, rfl, same_upd2 s3 np, by rw [upd_same, filter_more, opt_t e3, snoc_nV]⟩
            · rw [if_pos rfl, ein] at e5
              have e3 : canGo (cps z) i = false := by
                rw [eg, e2, ha0]
                have e6 : (decide (c = a0) || decide (46 = a0)) = true := by
                  cases h : (decide (c = a0) || decide (46 = a0)) with
                  | true => rfl
                  | false => rw [h] at e5; cases e5
                simp at e6
                simp
                intro _ _ h7
                rcases e6 with e6 | e6
                · exact absurd e6.symm h7
                · exact e6.symm
              exact ⟨_, _, _, rfl, s3, by rw [upd_ne npl, filter_more, opt_f e3, List.append_nil]; exact h2⟩
          · rw [t2, s_dot, dec_str] at e4
            exact ifF rfl (no (by rw [eg, e2, e4]; simp))
      · rw [s_dot, dec_str] at e1
        have n46 : c = 46 := by simpa using e1
        exact ifF rfl (no (by rw [eg, n46]; rfl))
    · rintro σ H1 ⟨y2, y3, y4, rfl, s1, h1⟩
      rw [hlen, movers_law] at h1
      exact ⟨.ref p, rfl, q H1 p s1 np h1⟩
theorem sc_lbehind : FnScope ["_law_standing_here", "_law_pad", "_law_free", "_law_sign", "_law_at", "_law_one"] ["_law_standing_here", "_law_pad"] (defScope s__law_behind) := ⟨rfl, rfl, rfl, by decide +kernel, rfl, by decide +kernel, by decide +kernel⟩
theorem c_lbehind (D : Df K mg "_law_behind" s__law_behind ["_law_standing_here", "_law_pad"]) (T : Bl mg) : Cal P w K mg base 1 "_law_behind" spBehind := by
  refine cal_of D sc_lbehind (fun vs H Q E h => ?_) (fun f cdv A outer s H vs Q E hr h => ?_)
  · obtain ⟨z, p, y, rfl, _⟩ := h
    rfl
  · obtain ⟨z, p, y, rfl, hy, hp, q⟩ := h
    refine ⟨_, pss_cons (ps_set (i := 2) sc_lbehind.nd rfl (.inr rfl) (pe_m1 PySem.F.slot_str_index PySem.F.type_str_index mt_sindex (pv 0) pe_str))
      (pss_cons (ps_set (i := 3) sc_lbehind.nd rfl (.inr rfl) (pe_item_str (pv 0) (pv 1) (fun _ _ => rfl)))
      (pss_one (ps_ret (pe_join pe_str (pe_lc (own := [("_law_at", 4), ("_law_one", 5)]) (g := gTup K 2 (gCons (gName 4) (gCons (gName 5) gNil))) (tt := tYes) (by rfl) sc_lbehind.nd (pi_enumS (by rfl) T.enum (pa_cons (pv 0) pa_nil))
        (blkOk_by (own := [("_law_at", 4), ("_law_one", 5)]) (N := ["_law_standing_here", "_law_pad", "_law_free", "_law_sign", "_law_at", "_law_one"]) (sc := defScope s__law_behind) (by decide +kernel))
        (fun _ _ _ _ _ => pg_tup rfl (pgs_cons (pg_name (i := 4) sc_lbehind.nd rfl (Or.inl rfl)) (pgs_cons (pg_name (i := 5) sc_lbehind.nd rfl (Or.inl rfl)) pgs_nil))) (fun _ _ _ _ _ => pts_nil)
        (fun _ _ _ _ _ => pe_ifExp (pt_cmpR op_eq (pv 4) (pv 1) (nomark _)) pe_str (pe_ifExp (pt_cmpR op_eq (pv 4) (pv 2) (nomark _)) (pv 3) (pv 5)))))))), ?_⟩
    have hlen := cps_len z
    have hpl : p < pads z := next_lt hy
    obtain ⟨c, hc, _, _⟩ := behind_at hy
    obtain ⟨r, hocc⟩ := occ_at (cps z) 46 (fr z) (cps_free z) (fun k hk => cps_before z hk)
    rw [← s_dot] at hocc
    have eb := behind_law hy hc
    refine ⟨tx z, rfl, ⟨_, rfl⟩, _, _, fr z, r, rfl, rfl, hocc, ?_⟩
    refine ⟨tx z, rfl, nV p, rfl, S (cps z), _, c, rfl, rfl, by omega, by omega, by rw [S_len]; omega, by simpa using hc, ?_⟩
    refine ⟨⟨_, rfl⟩, tx z, rfl, cps z, rfl, fun D nD => ?_⟩
    let g : Nat → Nat := fun i => if i = p then 46 else if i = fr z then c else (cps z).getD i 0
    refine lc_it (walk_enumS (l := cps z)) (fun i H' => Same H H' ∧ H' D = some (.lst (((List.range i).map g).map sV))) ⟨same_upd nD, upd_same⟩ (fun _ _ _ _ => trivial) ?_ ?_
    · rintro i x H1 H2 hi ⟨s1, h1⟩ ⟨Tp, d, rfl, nT, rfl, hd⟩
      have nDT : D ≠ Tp := ne_of_none h1 nT
      have fin : ∀ v : V, v = sV (g i) → ∃ acc, (upd H1 Tp (.tup [nV i, sV d])) D = some (.lst acc) ∧ acc.length < sizeLine ∧ Same H (upd (upd H1 Tp (.tup [nV i, sV d])) D (.lst (acc ++ [v]))) ∧ (upd (upd H1 Tp (.tup [nV i, sV d])) D (.lst (acc ++ [v]))) D = some (.lst (((List.range (i + 1)).map g).map sV)) := fun v ev => by
        refine ⟨_, by rw [upd_ne nDT]; exact h1, ?_, same_upd2 (same_upd2 s1 (s1.free nT)) nD, ?_⟩
        · rw [List.length_map, List.length_map, List.length_range]
          exact L2.small1000 (by omega)
        · rw [upd_same, ev, List.range_succ, List.map_append, List.map_append]
          rfl
      refine ⟨Tp, [nV i, sV d], rfl, SqT.of upd_same, rfl, nV i, [sV d], rfl, sV d, [], rfl, rfl, rfl, ?_⟩
      refine ⟨nV i, rfl, nV p, rfl, rfl, _, rfl, ifB (fun e => ?_) (fun e => ?_)⟩
      · have ei : i = p := by have := V.int.inj (of_decide_eq_true e); omega
        refine fin _ ?_
        rw [s_dot]
        show _ = V.str (S [g i])
        rw [show g i = 46 from if_pos ei]
      · have ei : i ≠ p := fun z => of_decide_eq_false e (by rw [z])
        refine ⟨nV i, rfl, nV (fr z), rfl, rfl, _, rfl, ifB (fun e2 => ?_) (fun e2 => ?_)⟩
        · have ej : i = fr z := by have := V.int.inj (of_decide_eq_true e2); omega
          refine ⟨_, rfl, fin _ ?_⟩
          show V.str (S [c]) = V.str (S [g i])
          rw [show g i = c by show (if i = p then 46 else if i = fr z then c else (cps z).getD i 0) = c; rw [if_neg ei, if_pos ej]]
        · have ej : i ≠ fr z := fun z => of_decide_eq_false e2 (by rw [z])
          refine ⟨_, rfl, fin _ ?_⟩
          show V.str (S [d]) = V.str (S [g i])
          rw [show g i = d by show (if i = p then 46 else if i = fr z then c else (cps z).getD i 0) = d; rw [if_neg ei, if_neg ej, List.getD_eq_getElem?_getD, hd]; rfl]
    · rintro H1 ⟨s1, h1⟩
      rw [hlen, eb, sV_map] at h1
      refine ⟨Str.ofString "", D, (cps y).map fun c => S [c], rfl, rfl, .inl (SqL.of h1), ?_, ?_⟩
      · have h2 : (cps y).length ≤ 60 := by rw [cps_len, next_pads hy]; exact hp
        have h3 := join_size (cps y) (by omega)
        rw [s_nil, show (S []).length = 0 from rfl, Nat.mul_zero]
        omega
      · rw [s_nil, PR.join_one]
        exact q _ s1
end
end PP

/-! ### lists compared -/
namespace PP
open PySem PySem.Spec PyProof.Rows L2 SX PR PL
section
variable {K : PySem.W.Frag} {H : Hp}
abbrev dI (ns : List Int) : PyData := .list (ns.map PyData.int)
theorem dpAll_ints : ∀ ns : List Int, DpAll K H (ns.map V.int) (ns.map PyData.int)
  | [] => .nil
  | n :: r => .cons (.int n) (dpAll_ints r)
theorem dp_ints {a : Addr} {ns : List Int} (h : SqL K H a (ns.map V.int)) : Dp K H (.ref a) (dI ns) := .lst h (dpAll_ints ns)
theorem canLay_ints : ∀ ns : List Int, PyData.canLayAll0 (ns.map PyData.int) = true
  | [] => rfl
  | n :: r => by
    have := canLay_ints r
    simp [PyData.canLayAll0, PyData.canLay0, this]
theorem depth_ints : ∀ ns : List Int, PyData.depthAll (ns.map PyData.int) ≤ 1
  | [] => by simp [PyData.depthAll]
  | n :: r => by
    have := depth_ints r
    simp [PyData.depthAll, PyData.depth]
    omega
theorem shaped_ints (ns : List Int) : SeqAt.shaped (dI ns) = true := by
  unfold SeqAt.shaped
  rw [Bool.and_eq_true]
  refine ⟨?_, decide_eq_true ?_⟩
  · simpa [PyData.canLay0] using canLay_ints ns
  · have := depth_ints ns
    simp [PyData.depth]
    omega
theorem eqvAll_ints : ∀ ms ns : List Int, PyData.eqvAll (ms.map PyData.int) (ns.map PyData.int) = decide (ms = ns)
  | [], [] => by simp [PyData.eqvAll]
  | [], n :: r => by simp [PyData.eqvAll]
  | m :: r, [] => by simp [PyData.eqvAll]
  | m :: r, n :: q => by
    have := eqvAll_ints r q
    simp only [List.map_cons, PyData.eqvAll, PyData.eqv, this]
    by_cases h1 : m = n <;> by_cases h2 : r = q <;> simp [h1, h2]
theorem eqv_ints (ms ns : List Int) : PyData.eqv (dI ms) (dI ns) = decide (ms = ns) := by
  rw [PyData.eqv]
  exact eqvAll_ints ms ns
def zs (l : List Nat) : List Int := l.map fun n : Nat => (n : Int)
theorem nV_ints (l : List Nat) : l.map nV = (zs l).map V.int := by unfold zs; rw [List.map_map]; rfl
theorem zs_inj : ∀ {l m : List Nat}, zs l = zs m → l = m
  | [], [], _ => rfl
  | [], _ :: _, h => by simp [zs] at h
  | _ :: _, [], h => by simp [zs] at h
  | x :: r, y :: q, h => by
    simp only [zs, List.map_cons, List.cons.injEq] at h
    rw [zs_inj (l := r) (m := q) h.2, show x = y by omega]
theorem zs_len (l : List Nat) : (zs l).length = l.length := by simp [zs]
theorem eqv_nats (l m : List Nat) : PyData.eqv (dI (zs l)) (dI (zs m)) = decide (l = m) := by
  rw [eqv_ints]
  by_cases h : l = m
  · subst h; simp
  · rw [decide_eq_false h, decide_eq_false fun e => h (zs_inj e)]
theorem dp_nats {a : Addr} {l : List Nat} (h : H a = some (.lst (l.map nV))) : Dp K H (.ref a) (dI (zs l)) := dp_ints (SqL.of (by rw [h, nV_ints]))
end
end PP

/-! ### _law_standing: some standing of at most so many pads -/
namespace PP
open PySem PySem.Spec PyProof.Rows L2 SX PR PL
section
variable {P : Program} {w : World} {K : PySem.W.Frag} {mg : Str → Option Value} {base : Heap}
def spStand (K : PySem.W.Frag) : Sp := fun vs H Q _ => ∃ (a : Addr) (ns : List Int) (b m : Int), vs = [.ref a, .int b, .int m] ∧ SqL K H a (ns.map V.int) ∧ ns.length ≤ 63 ∧ (∀ z ∈ ns, Builtin.Int.intBits z ≤ 1048576) ∧
  0 ≤ b ∧ b ≤ 100 ∧ 1 ≤ m ∧ m ≤ 60 ∧ ∀ H' z, Same H H' → (pads z : Int) ≤ m → Q (tx z) H'
abbrev nmStand : List Str := ["_law_script", "_law_by", "_law_most", "_law_cells", "_law_whole", "_law_many", "_law_kind", "_law_ones", "_law_here", "_law_found", "_law_at", "_law_number_here", "_law_pads"]
theorem sc_stand : FnScope nmStand ["_law_script", "_law_by", "_law_most"] (defScope s__law_standing) := ⟨rfl, rfl, rfl, by decide +kernel, rfl, by decide +kernel, by decide +kernel⟩
theorem cutV_to (xs : List V) (k : Nat) : cutV xs none (some (k : Int)) = xs.take k := by
  unfold cutV
  rw [HT.sIx_none, HT.sIx_nat, List.drop_zero, Nat.sub_zero]
  by_cases h : k ≤ xs.length
  · rw [Nat.min_eq_left h]
  · rw [Nat.min_eq_right (by omega), List.take_of_length_le (Nat.le_refl _), List.take_of_length_le (by omega)]
theorem atI_mod {cs : List Int} (h : cs ≠ []) (j : Int) : ∃ k, k ∈ cs ∧ atI (cs.map V.int) (j % ((cs.map V.int).length : Nat)) = some (.int k) := by
  have hp : 0 < cs.length := List.length_pos_iff.mpr h
  have h1 : 0 ≤ j % (cs.length : Int) := Int.emod_nonneg _ (by omega)
  have h2 : j % (cs.length : Int) < cs.length := Int.emod_lt_of_pos _ (by omega)
  rw [List.length_map]
  obtain ⟨n, en⟩ : ∃ n : Nat, j % (cs.length : Int) = n := ⟨(j % (cs.length : Int)).toNat, by omega⟩
  have hn : n < cs.length := by omega
  refine ⟨cs[n], List.getElem_mem hn, ?_⟩
  rw [en]
  refine atI_nat ?_
  rw [List.getElem?_map, List.getElem?_eq_getElem hn]
  rfl
/-- what stands in the first nine places of the def -/
abbrev st9 (a c : Addr) (b m W : Int) (M : Nat) (kd : Int) (O : Nat) (here : V) (r : L2.St) : L2.St :=
  some (.ref a) :: some (.int b) :: some (.int m) :: some (.ref c) :: some (.int W) :: some (nV M) :: some (.int kd) :: some (nV O) :: some here :: r
theorem c_stand (D : Df K mg "_law_standing" s__law_standing ["_law_script", "_law_by", "_law_most"]) (T : Bl mg) (cn : Cal P w K mg base 1 "_law_number" spNum) (clm : Cal P w K mg base 1 "_law_moves" spMovers) (clb : Cal P w K mg base 1 "_law_behind" spBehind) :
    Cal P w K mg base 2 "_law_standing" (spStand K) := by
  refine cal_of D sc_stand (fun vs H Q E h => ?_) (fun f cdv A outer s H vs Q E hr h => ?_)
  · obtain ⟨a, ns, b, m, rfl, _⟩ := h
    rfl
  · obtain ⟨a, ns, b, m, rfl, hS, hlen, hbits, hb0, hb1, hm1, hm60, q⟩ := h
    have nd := sc_stand.nd
    refine ⟨_, C8.pss_cut (ps_set (i := 3) nd rfl (.inl rfl) (pe_ifExp (pt_cmpR (op_neD hr.units) (pv 0) (pe_lst pa_nil) (nomark _)) (pe_slice sl_list (pv 0) po_none (po_some pe_int)) (pe_lst (pa_cons pe_int pa_nil))))
      (C8.pss_cut (ps_set (i := 4) nd rfl (.inl rfl) (pe_op op_add (pe_callB call_abs (by rfl) T.abs (by decide +kernel) (pa_cons (pe_callB (cr_sum rfl) (by rfl) T.sum (by decide +kernel) (pa_cons (pv 3) pa_nil)) pa_nil)) (pv 1)))
      (C8.pss_cut (ps_par (i := 5) (j := 6) (by rfl) nd rfl rfl (by decide) rfl rfl (pa_cons (pe_op op_mod (pv 4) (pv 2)) (pa_cons (pe_op op_mod (pe_op op_fdiv (pv 4) (pv 2)) pe_int) pa_nil)) (by rfl))
      (C8.pss_cut (ps_set (i := 7) nd rfl (.inl rfl) (pe_op op_mod (pe_op op_fdiv (pv 4) pe_int) (pe_op op_add (pv 5) pe_int)))
      (C8.pss_cut (ps_set (i := 8) nd rfl (.inl rfl) (pe_op op_add_str (pe_op op_add_str (pe_op op_mul_str pe_str (pv 7)) pe_str) (pe_op op_mul_str pe_str (pe_op op_sub (pv 5) (pv 7)))))
      (pss_cons (ps_if (pt_cmpR op_eq (pv 6) pe_int (nomark _))
        (pss_cons (ps_set (i := 9) nd rfl (.inl rfl) (pe_lst pa_nil))
        (pss_cons (ps_for PassesOwn.never rfl (pi_range1 (by rfl) T.range (pa_cons (pv 5) pa_nil)) (pg_name (i := 10) nd rfl (.inl rfl))
          (pss_cons (ps_set (i := 11) nd rfl (.inl rfl) (pe_c cn hr (by decide) (by rfl) (pa_cons (pe_ix ix_list (pv 3) (pe_op op_mod (pe_op op_add (pv 10) (pv 1)) (pe_callB call_len_seq (by rfl) T.len PySem.boot_len (pa_cons (pv 3) pa_nil))) (fun _ _ => rfl)) (pa_cons (pe_op op_add (pv 10) (pv 1)) (pa_cons (pv 4) pa_nil)))))
          (pss_one (ps_expr (pe_bm PySem.F.plainAttrs_list PySem.F.slot_list_append PySem.F.type_list_append mt_append (pv 9) (pa_cons (pe_ix ix_str pe_str (pe_op op_mod (pe_op op_fdiv (pv 11) pe_int) pe_int) (fun _ _ => rfl)) pa_nil))))))
        (pss_cons (ps_expr (pe_bm PySem.F.plainAttrs_list PySem.F.slot_list_insert PySem.F.type_list_insert mt_insert (pv 9) (pa_cons (pe_op op_mod (pe_op op_fdiv (pv 4) pe_int) (pe_op op_add (pv 5) pe_int)) (pa_cons pe_str pa_nil))))
        (pss_one (ps_ret (pe_join pe_str (pv 9))))))) pss_nil)
      (pss_cons (ps_for PassesOwn.never rfl (pi_range1 (by rfl) T.range (pa_cons (pe_cut (pe_ifExp (pt_cmpR op_eq (pv 6) pe_int (nomark _)) (pe_op op_mod (pv 4) pe_int) pe_int)) pa_nil)) (pg_name (i := 10) nd rfl (.inl rfl))
          (pss_cons (ps_set (i := 12) nd rfl (.inl rfl) (pe_c clm hr (by decide) (by rfl) (pa_cons (pv 8) pa_nil)))
          (pss_one (ps_if (pt_cmpR (op_neD hr.units) (pv 12) (pe_lst pa_nil) (nomark _))
            (pss_cons (ps_set (i := 11) nd rfl (.inl rfl) (pe_c cn hr (by decide) (by rfl) (pa_cons (pe_ix ix_list (pv 3) (pe_op op_mod (pe_op op_add (pv 10) (pv 1)) (pe_callB call_len_seq (by rfl) T.len PySem.boot_len (pa_cons (pv 3) pa_nil))) (fun _ _ => rfl)) (pa_cons (pe_op op_add (pv 10) (pv 1)) (pa_cons (pv 4) pa_nil)))))
            (pss_one (ps_set (i := 8) nd rfl (.inl rfl) (pe_c clb hr (by decide) (by rfl) (pa_cons (pv 8) (pa_cons (pe_ix ix_list (pv 12) (pe_op op_mod (pe_op op_fdiv (pv 11) pe_int) (pe_callB call_len_seq (by rfl) T.len PySem.boot_len (pa_cons (pv 12) pa_nil))) (fun _ _ => rfl)) pa_nil)))))) pss_nil))))
      (pss_one (ps_ret (pv 8))))))))), ?_⟩
    -- cells
    refine ⟨fun σ' H' => ∃ (c : Addr) (cs : List Int), σ' = some (.ref a) :: some (.int b) :: some (.int m) :: some (.ref c) :: List.replicate 9 none ∧ Same H H' ∧ H' c = some (.lst (cs.map V.int)) ∧ cs ≠ [] ∧ ∀ z ∈ cs, Builtin.Int.intBits z ≤ 1048576, ?_, ?_⟩
    · refine ⟨.ref a, rfl, Nat.zero_le _, fun e ne => ?_⟩
      have se : Same H (upd H e (.lst [])) := same_upd ne
      refine ⟨dI ns, dI [], dp_ints (se.seq hS), dp_ints (SqL.of upd_same), shaped_ints _, shaped_ints _, _, rfl, ifB (fun e1 => ?_) (fun e1 => ?_)⟩
      · have hne : ns ≠ [] := by
          rw [eqv_ints] at e1
          simpa using e1
        refine ⟨.ref a, rfl, 63, rfl, a, _, rfl, se.seq hS, fun c nc => ?_⟩
        refine ⟨c, ns.take 63, rfl, se.trans (same_upd nc), ?_, ?_, fun z hz => hbits z (List.mem_of_mem_take hz)⟩
        · rw [upd_same, show (63 : Int) = ((63 : Nat) : Int) by rfl, cutV_to, List.map_take]
        · intro z
          apply hne
          cases ns with
          | nil => rfl
          | cons x r => simp at z
      · refine ⟨(by show 1 ≤ sizeLine; decide), fun c nc => ?_⟩
        refine ⟨c, [5], rfl, se.trans (same_upd nc), upd_same, by simp, fun z hz => ?_⟩
        rw [List.mem_singleton.mp hz]
        decide
    rintro _ H1 ⟨c, cs, rfl, s1, hc, hcn, hcb⟩
    -- whole
    refine ⟨fun σ' H' => ∃ W : Int, 0 ≤ W ∧ σ' = some (.ref a) :: some (.int b) :: some (.int m) :: some (.ref c) :: some (.int W) :: List.replicate 8 none ∧ H1 = H', ?_, ?_⟩
    · refine ⟨.ref c, rfl, c, cs, rfl, SqL.of hc, _, rfl, .int b, rfl, _, _, rfl, rfl, _, ?_, rfl, rfl⟩
      show (0 : Int) ≤ (if cs.sum < 0 then -cs.sum else cs.sum) + b
      split <;> omega
    rintro _ _ ⟨W, hW, rfl, rfl⟩
    -- many, kind
    refine ⟨fun σ' H' => ∃ (M : Nat) (kd : Int), (M : Int) < m ∧ σ' = some (.ref a) :: some (.int b) :: some (.int m) :: some (.ref c) :: some (.int W) :: some (nV M) :: some (.int kd) :: List.replicate 6 none ∧ H1 = H', ?_, ?_⟩
    · refine ⟨.int W, rfl, .int m, rfl, _, _, rfl, rfl, (by show (0 : Int) < m; omega), .int W, rfl, .int m, rfl, _, _, rfl, rfl, ⟨by omega, by omega⟩, _, _, rfl, rfl, (by show (0 : Int) < 3; decide), _, _, rfl, ?_⟩
      have h0 : 0 ≤ W % m := Int.emod_nonneg _ (by omega)
      have h1 : W % m < m := Int.emod_lt_of_pos _ (by omega)
      refine ⟨(W % m).toNat, W / m % 3, by omega, ?_, rfl⟩
      rw [show nV (W % m).toNat = V.int (W % m) by show V.int _ = V.int _; rw [Int.toNat_of_nonneg h0]]
      rfl
    rintro _ _ ⟨M, kd, hM, rfl, rfl⟩
    -- ones
    refine ⟨fun σ' H' => ∃ O : Nat, O ≤ M ∧ σ' = some (.ref a) :: some (.int b) :: some (.int m) :: some (.ref c) :: some (.int W) :: some (nV M) :: some (.int kd) :: some (nV O) :: List.replicate 5 none ∧ H1 = H', ?_, ?_⟩
    · refine ⟨.int W, rfl, _, _, rfl, rfl, ⟨by decide, by decide⟩, nV M, rfl, _, _, rfl, rfl, _, _, rfl, rfl, (by show (0 : Int) < (M : Int) + 1; omega), ?_⟩
      have h0 : 0 ≤ W / 7 % ((M : Int) + 1) := Int.emod_nonneg _ (by omega)
      have h1 : W / 7 % ((M : Int) + 1) < (M : Int) + 1 := Int.emod_lt_of_pos _ (by omega)
      refine ⟨(W / 7 % ((M : Int) + 1)).toNat, by omega, ?_, rfl⟩
      rw [show nV (W / 7 % ((M : Int) + 1)).toNat = V.int (W / 7 % ((M : Int) + 1)) by show V.int _ = V.int _; rw [Int.toNat_of_nonneg h0]]
      rfl
    rintro _ _ ⟨O, hO, rfl, rfl⟩
    -- here
    refine ⟨fun σ' H' => ∃ z0 : Zp, pads z0 = M + 1 ∧ σ' = st9 a c b m W M kd O (tx z0) (List.replicate 4 none) ∧ H1 = H', ?_, ?_⟩
    · refine ⟨nV O, rfl, _, _, rfl, rfl, (by rw [s_a]; exact mulOk_one 97 (by omega) (by omega)), _, _, rfl, rfl, ?_, nV M, rfl, nV O, rfl, _, _, rfl, rfl, _, _, rfl, rfl, (by rw [s_b]; exact mulOk_one 98 (by omega) (by omega)), _, _, rfl, rfl, ?_, (List.replicate O true, List.replicate (M - O) false), ?_, ?_, rfl⟩
      · rw [s_a, PR.mul_one 97 (by omega), s_dot, S_len, S_len]
        exact small (by simp; omega)
      · rw [s_a, PR.mul_one 97 (by omega), s_dot, s_b, PR.mul_one 98 (by omega), S_cat, S_len, S_len]
        exact small (by simp; omega)
      · simp [pads]; omega
      · rw [s_a, PR.mul_one 97 (by omega), s_dot, s_b, PR.mul_one 98 (by omega), S_cat, S_cat]
        have e : cps (List.replicate O true, List.replicate (M - O) false) = List.replicate (O : Int).toNat 97 ++ [46] ++ List.replicate ((M : Int) - (O : Int)).toNat 98 := by
          rw [show (O : Int).toNat = O by omega, show ((M : Int) - (O : Int)).toNat = M - O by omega]
          simp [cps, sg]
        rw [← e]
        rfl
    rintro _ _ ⟨z0, hz0, rfl, rfl⟩
    -- one number of the cells
    have cell : ∀ (j : Int) (H' : Hp), Same H1 H' → ∃ k, Builtin.Int.intBits k ≤ 1048576 ∧ SqL K H' c (cs.map V.int) ∧ atI (cs.map V.int) (j % ((cs.map V.int).length : Nat)) = some (.int k) := fun j H' ss => by
      obtain ⟨k, hk, e⟩ := atI_mod hcn j
      exact ⟨k, hcb k hk, SqL.of (ss _ _ hc), e⟩
    have hcl : 0 < ((cs.map V.int).length : Int) := by
      have := List.length_pos_iff.mpr hcn
      rw [List.length_map]
      omega
    refine ⟨.int kd, rfl, rfl, _, rfl, ifB (fun ek => ?_) (fun ek => ?_)⟩
    · -- any standing
      refine ⟨Nat.zero_le _, fun fl nfl => ?_⟩
      have s2 : Same H1 (upd H1 fl (.lst [])) := same_upd nfl
      refine ⟨nV M, rfl, (M : Int), rfl, by omega, by omega, for_range (lo := 0) (n := (M : Int).toNat) (fun i σ H' => ∃ (y10 y11 : Option V) (bs : List Bool), σ = st9 a c b m W M kd O (tx z0) [some (.ref fl), y10, y11, none] ∧ bs.length = i ∧ Same H1 H' ∧ H' fl = some (.lst ((bs.map sg).map sV)))
        ⟨none, none, [], rfl, rfl, s2, upd_same⟩ ?_ ?_⟩
      · rintro i σ H2 hi ⟨y10, y11, bs, rfl, hbs, s3, hfl⟩
        have hiM : i < M := by omega
        obtain ⟨k, hkb, hkS, hk⟩ := cell (0 + (i : Int) + b) H2 s3
        refine ⟨.ref c, rfl, .int (0 + (i : Int)), rfl, .int b, rfl, _, _, rfl, rfl, .ref c, rfl, c, _, rfl, .inl hkS, _, _, rfl, rfl, hcl, c, _, _, _, rfl, rfl, hkS, hk, .int (0 + (i : Int)), rfl, .int b, rfl, _, _, rfl, rfl, .int W, rfl, k, _, W, rfl, hkb, by omega, by omega, fun n => ?_⟩
        have hn0 : 0 ≤ n / 3 % 2 := Int.emod_nonneg _ (by decide)
        have hn1 : n / 3 % 2 < 2 := Int.emod_lt_of_pos _ (by decide)
        obtain ⟨x, hx⟩ : ∃ x : Bool, atI (Str.ofString "ab").cps.toList (n / 3 % 2) = some (sg x) := by
          rw [s_ab]
          rcases (by omega : n / 3 % 2 = 0 ∨ n / 3 % 2 = 1) with e | e
          · exact ⟨true, by rw [e]; rfl⟩
          · exact ⟨false, by rw [e]; rfl⟩
        refine ⟨.ref fl, rfl, .inl ⟨rfl, _, SqL.of hfl⟩, .int n, rfl, _, _, rfl, rfl, ⟨by decide, by decide⟩, _, _, rfl, rfl, (by show (0 : Int) < 2; decide), Str.ofString "ab", _, sg x, rfl, rfl, (by decide +kernel), hx, fl, _, _, rfl, rfl, hfl, ?_, ?_⟩
        · rw [List.length_map, List.length_map]
          exact L2.small1000 (by omega)
        · refine ⟨_, _, bs ++ [x], rfl, by rw [List.length_append, hbs]; rfl, same_upd2 s3 nfl, ?_⟩
          rw [upd_same, List.map_append, List.map_append]
          rfl
      · rintro σ H2 ⟨y10, y11, bs, rfl, hbs, s3, hfl⟩
        have h0 : 0 ≤ W / 5 % ((M : Int) + 1) := Int.emod_nonneg _ (by omega)
        have h1 : W / 5 % ((M : Int) + 1) < (M : Int) + 1 := Int.emod_lt_of_pos _ (by omega)
        refine ⟨.ref fl, rfl, .inl ⟨rfl, _, SqL.of hfl⟩, .int W, rfl, _, _, rfl, rfl, ⟨by decide, by decide⟩, nV M, rfl, _, _, rfl, rfl, _, _, rfl, rfl, (by show (0 : Int) < (M : Int) + 1; omega), fl, _, _, _, rfl, rfl, hfl, ?_, h0, ?_, ?_⟩
        · rw [List.length_map, List.length_map]
          exact L2.small1000 (by omega)
        · show W / 5 % ((M : Int) + 1) < 2 ^ 63
          omega
        · obtain ⟨j, ej⟩ : ∃ j : Nat, (W / 5 % ((M : Int) + 1)).toNat = j := ⟨_, rfl⟩
          have ez : cps ((bs.take j).reverse, bs.drop j) = (bs.map sg).take j ++ [46] ++ (bs.map sg).drop j := by
            simp [cps, List.map_take, List.map_drop]
          have el : ((bs.map sg).map sV).take (W / 5 % ((M : Int) + 1)).toNat ++ [V.str (Str.ofString ".")] ++ ((bs.map sg).map sV).drop (W / 5 % ((M : Int) + 1)).toNat = ((cps ((bs.take j).reverse, bs.drop j)).map fun c => S [c]).map V.str := by
            rw [ej, ← sV_map, ez, s_dot, List.map_append, List.map_append, List.map_take, List.map_drop]
            rfl
          have hpz : pads ((bs.take j).reverse, bs.drop j) = M + 1 := by
            simp [pads, List.length_take, List.length_drop]
            omega
          refine ⟨⟨_, rfl⟩, .ref fl, rfl, Str.ofString "", fl, (cps ((bs.take j).reverse, bs.drop j)).map fun c => S [c], rfl, rfl, .inl (SqL.of (by rw [upd_same, ← el])), ?_, ?_⟩
          · have h2 : (cps ((bs.take j).reverse, bs.drop j)).length ≤ 60 := by rw [cps_len, hpz]; omega
            have h3 := join_size _ (Nat.le_trans h2 (by decide))
            rw [s_nil, show (S []).length = 0 from rfl, Nat.mul_zero]
            omega
          · rw [s_nil, PR.join_one]
            exact q _ _ (same_upd2 (s1.trans s3) (s1.free nfl)) (by rw [hpz]; omega)
    · -- the beginning, or some moves on
      refine ⟨fun v H' => ∃ n : Nat, v = nV n ∧ n ≤ 100 ∧ H1 = H', ?_, ?_⟩
      · refine ⟨.int kd, rfl, rfl, _, rfl, ifB (fun _ => ?_) (fun _ => ?_)⟩
        · refine ⟨.int W, rfl, _, _, rfl, rfl, (by show (0 : Int) < 9; decide), ?_⟩
          have h0 : 0 ≤ W % 9 := Int.emod_nonneg _ (by decide)
          have h1 : W % 9 < 9 := Int.emod_lt_of_pos _ (by decide)
          exact ⟨(W % 9).toNat, by show V.int _ = V.int _; rw [Int.toNat_of_nonneg h0], by omega, rfl⟩
        · exact ⟨0, rfl, by decide, rfl⟩
      rintro _ _ ⟨n, rfl, hn, rfl⟩
      refine ⟨(n : Int), rfl, by omega, by omega, for_range (lo := 0) (n := (n : Int).toNat) (fun i σ H' => ∃ (z : Zp) (y9 y10 y11 y12 : Option V), σ = st9 a c b m W M kd O (tx z) [y9, y10, y11, y12] ∧ pads z = M + 1 ∧ Same H1 H')
        ⟨z0, none, none, none, none, rfl, hz0, Same.refl _⟩ ?_ ?_⟩
      · rintro i σ H2 hi ⟨z, y9, y10, y11, y12, rfl, hz, s3⟩
        refine ⟨tx z, rfl, z, rfl, by omega, fun H3 mv s4 nmv hmv => ?_⟩
        refine ⟨.ref mv, rfl, Nat.zero_le _, fun e ne => ?_⟩
        have s5 : Same H3 (upd H3 e (.lst [])) := same_upd ne
        have hmv2 := s5 _ _ hmv
        refine ⟨dI (zs (movers z)), dI [], dp_nats hmv2, dp_ints (SqL.of upd_same), shaped_ints _, shaped_ints _, _, rfl, ifB (fun e1 => ?_) (fun e1 => ?_)⟩
        · have hne : movers z ≠ [] := by
            have e2 := eqv_nats (movers z) []
            rw [show zs [] = ([] : List Int) from rfl] at e2
            rw [e2] at e1
            simpa using e1
          obtain ⟨k, hkb, hkS, hk⟩ := cell (0 + (i : Int) + b) (upd H3 e (.lst [])) (s3.trans (s4.trans s5))
          refine ⟨.ref c, rfl, .int (0 + (i : Int)), rfl, .int b, rfl, _, _, rfl, rfl, .ref c, rfl, c, _, rfl, .inl hkS, _, _, rfl, rfl, hcl, c, _, _, _, rfl, rfl, hkS, hk, .int (0 + (i : Int)), rfl, .int b, rfl, _, _, rfl, rfl, .int W, rfl, k, _, W, rfl, hkb, by omega, by omega, fun x => ?_⟩
          have hpl : 0 < (((movers z).map nV).length : Int) := by
            have := List.length_pos_iff.mpr hne
            rw [List.length_map]
            omega
          have h0 : 0 ≤ x / 3 % (((movers z).map nV).length : Int) := Int.emod_nonneg _ (by omega)
          have h1 : x / 3 % (((movers z).map nV).length : Int) < (((movers z).map nV).length : Int) := Int.emod_lt_of_pos _ (by omega)
          obtain ⟨j, ej⟩ : ∃ j : Nat, x / 3 % (((movers z).map nV).length : Int) = (j : Int) := ⟨(x / 3 % (((movers z).map nV).length : Int)).toNat, by omega⟩
          rw [ej, List.length_map] at h1
          have hj : j < (movers z).length := by omega
          have hmem : (movers z)[j] ∈ movers z := List.getElem_mem hj
          obtain ⟨⟨p, y⟩, hpy, ep⟩ := List.mem_map.mp hmem
          have hat : atI ((movers z).map nV) (x / 3 % (((movers z).map nV).length : Int)) = some (nV p) := by
            rw [ej]
            refine atI_nat ?_
            rw [List.getElem?_map, List.getElem?_eq_getElem hj, ← ep]
            rfl
          refine ⟨tx z, rfl, .ref mv, rfl, .int x, rfl, _, _, rfl, rfl, ⟨by decide, by decide⟩, .ref mv, rfl, mv, _, rfl, .inl (SqL.of hmv2), _, _, rfl, rfl, hpl, mv, _, _, _, rfl, rfl, SqL.of hmv2, hat, z, p, y, rfl, hpy, by omega, fun H4 s6 => ?_⟩
          exact ⟨y, _, _, _, _, rfl, by rw [next_pads hpy]; exact hz, s3.trans (s4.trans (s5.trans s6))⟩
        · exact ⟨z, _, _, _, _, rfl, hz, s3.trans (s4.trans s5)⟩
      · rintro σ H2 ⟨z, y9, y10, y11, y12, rfl, hz, s3⟩
        exact ⟨tx z, rfl, q H2 z (s1.trans s3) (by omega)⟩
end
end PP

/-! ### words that the laws' own bodies share -/
namespace PP
open PySem PySem.Spec PyProof.Rows L2 SX PR PL
section
variable {P : Program} {w : World} {K : PySem.W.Frag} {mg : Str → Option Value} {base : Heap}
def spLaw (K : PySem.W.Frag) : Sp := fun vs H Q _ => ∃ (a : Addr) (ns : List Int), vs = [.ref a] ∧ SqL K H a (ns.map V.int) ∧ ns.length ≤ 63 ∧ (∀ z ∈ ns, Builtin.Int.intBits z ≤ 1048576) ∧ ∀ H', Q (.bl true) H'
/-- a list of pairs, written: each item is one of them -/
theorem four_at {H : Hp} {t1 t2 t3 t4 : Addr} {b1 m1 b2 m2 b3 m3 b4 m4 : Int} {R : Int → Int → Prop} (h1 : H t1 = some (.tup [.int b1, .int m1])) (h2 : H t2 = some (.tup [.int b2, .int m2])) (h3 : H t3 = some (.tup [.int b3, .int m3])) (h4 : H t4 = some (.tup [.int b4, .int m4]))
    (r1 : R b1 m1) (r2 : R b2 m2) (r3 : R b3 m3) (r4 : R b4 m4) {i : Nat} {x : V} (e : [V.ref t1, V.ref t2, V.ref t3, V.ref t4][i]? = some x) : ∃ (t : Addr) (b m : Int), x = .ref t ∧ H t = some (.tup [.int b, .int m]) ∧ R b m := by
  match i, e with
  | 0, e => exact ⟨t1, b1, m1, (Option.some.inj e).symm, h1, r1⟩
  | 1, e => exact ⟨t2, b2, m2, (Option.some.inj e).symm, h2, r2⟩
  | 2, e => exact ⟨t3, b3, m3, (Option.some.inj e).symm, h3, r3⟩
  | 3, e => exact ⟨t4, b4, m4, (Option.some.inj e).symm, h4, r4⟩
  | (i + 4), e => simp at e
theorem three_at {H : Hp} {t1 t2 t3 : Addr} {b1 m1 b2 m2 b3 m3 : Int} {R : Int → Int → Prop} (h1 : H t1 = some (.tup [.int b1, .int m1])) (h2 : H t2 = some (.tup [.int b2, .int m2])) (h3 : H t3 = some (.tup [.int b3, .int m3]))
    (r1 : R b1 m1) (r2 : R b2 m2) (r3 : R b3 m3) {i : Nat} {x : V} (e : [V.ref t1, V.ref t2, V.ref t3][i]? = some x) : ∃ (t : Addr) (b m : Int), x = .ref t ∧ H t = some (.tup [.int b, .int m]) ∧ R b m := by
  match i, e with
  | 0, e => exact ⟨t1, b1, m1, (Option.some.inj e).symm, h1, r1⟩
  | 1, e => exact ⟨t2, b2, m2, (Option.some.inj e).symm, h2, r2⟩
  | 2, e => exact ⟨t3, b3, m3, (Option.some.inj e).symm, h3, r3⟩
  | (i + 3), e => simp at e
/-- an item of the list of moves -/
theorem mover_at {z : Zp} {i : Nat} {x : V} (h : ((movers z).map nV)[i]? = some x) : ∃ (p : Nat) (y : Zp), x = nV p ∧ (p, y) ∈ next z := by
  have hm := List.mem_of_getElem? h
  obtain ⟨u, hu, eu⟩ := List.mem_map.mp hm
  obtain ⟨⟨p1, y⟩, hq, e1⟩ := List.mem_map.mp hu
  simp only at e1
  subst e1
  exact ⟨_, y, eu.symm, hq⟩
theorem movers_two (z : Zp) : (movers z).length ≤ 2 := by
  unfold movers
  rw [List.length_map]
  exact next_two z
theorem ne_self (x : V) : (!decide (x = x)) = false := by rw [decide_eq_true rfl]; rfl
theorem eq_self (x : V) : decide (x = x) = true := decide_eq_true rfl
end
end PP

/-! ### goal_of -/
namespace PP
open PySem PySem.Spec PyProof.Rows L2 SX PR PL
section
variable {P : Program} {w : World} {K : PySem.W.Frag} {mg : Str → Option Value} {base : Heap}
def spGoal : Sp := fun vs H Q _ => ∃ z : Zp, vs = [tx z] ∧ pads z ≤ 60 ∧ ∀ H', Same H H' → Q (tx (goal z)) H'
theorem sc_goal_of : FnScope ["standing"] ["standing"] (defScope s_goal_of) := ⟨rfl, rfl, rfl, by decide +kernel, rfl, by decide +kernel, by decide +kernel⟩
theorem c_goal_of (D : Df K mg "goal_of" s_goal_of ["standing"]) : Cal P w K mg base 1 "goal_of" spGoal := by
  refine cal_of D sc_goal_of (fun vs H Q E h => ?_) (fun f cdv A outer s H vs Q E hr h => ?_)
  · obtain ⟨z, rfl, _⟩ := h
    rfl
  · obtain ⟨z, rfl, hp, q⟩ := h
    have hn := na_nb z
    refine ⟨_, pss_one (ps_ret (pe_op op_add_str (pe_op op_add_str (pe_op op_mul_str pe_str (pe_m1 PySem.F.slot_str_count PySem.F.type_str_count mt_count (pv 0) pe_str)) pe_str) (pe_op op_mul_str pe_str (pe_m1 PySem.F.slot_str_count PySem.F.type_str_count mt_count (pv 0) pe_str)))), ?_⟩
    have eb : Txt.count (S (cps z)) (Str.ofString "b") = (nb z : Nat) := by rw [s_b, count_S, cps_nb]
    have ea : Txt.count (S (cps z)) (Str.ofString "a") = (na z : Nat) := by rw [s_a, count_S, cps_na]
    refine ⟨tx z, rfl, ⟨_, rfl⟩, _, _, rfl, rfl, _, _, rfl, rfl, (by rw [s_b, ← s_b, eb, s_b]; exact mulOk_one 98 (by omega) (by omega)), _, _, rfl, rfl, ?_, tx z, rfl, ⟨_, rfl⟩, _, _, rfl, rfl, _, _, rfl, rfl, (by rw [s_a, ← s_a, ea, s_a]; exact mulOk_one 97 (by omega) (by omega)), _, _, rfl, rfl, ?_, ?_⟩
    · rw [eb, s_b, PR.mul_one 98 (by omega), s_dot, S_len, S_len]
      exact small (by simp; omega)
    · rw [eb, ea, s_b, s_a, PR.mul_one 98 (by omega), PR.mul_one 97 (by omega), s_dot, S_cat, S_len, S_len]
      exact small (by simp; omega)
    · have e : (Txt.mul (Str.ofString "b") (Txt.count (S (cps z)) (Str.ofString "b")) ++ Str.ofString ".") ++ Txt.mul (Str.ofString "a") (Txt.count (S (cps z)) (Str.ofString "a")) = S (cps (goal z)) := by
        rw [eb, ea, s_b, s_a, PR.mul_one 98 (by omega), PR.mul_one 97 (by omega), s_dot, S_cat, S_cat, goal_codes]
        congr 1
        simp
      rw [e]
      exact q H (Same.refl _)
end
end PP

/-! ### goal -/
namespace PP
open PySem PySem.Spec PyProof.Rows L2 SX PR PL
section
variable {P : Program} {w : World} {K : PySem.W.Frag} {mg : Str → Option Value} {base : Heap}
theorem sc_goal : FnScope ["standing"] ["standing"] (defScope s_goal) := ⟨rfl, rfl, rfl, by decide +kernel, rfl, by decide +kernel, by decide +kernel⟩
theorem c_goal (D : Df K mg "goal" s_goal ["standing"]) (ca : Cal P w K mg base 1 "asked_standing" spAsked) (cg : Cal P w K mg base 1 "goal_of" spGoal) : Cal P w K mg base 2 "goal" spGoal := by
  refine cal_of D sc_goal (fun vs H Q E h => ?_) (fun f cdv A outer s H vs Q E hr h => ?_)
  · obtain ⟨z, rfl, _⟩ := h
    rfl
  · obtain ⟨z, rfl, hp, q⟩ := h
    refine ⟨_, pss_cons (ps_expr (pe_c ca hr (by decide) (by rfl) (pa_cons (pv 0) pa_nil))) (pss_one (ps_ret (pe_c cg hr (by decide) (by rfl) (pa_cons (pv 0) pa_nil)))), ?_⟩
    refine ⟨tx z, rfl, z, rfl, hp, fun H1 s1 => ?_⟩
    exact ⟨tx z, rfl, z, rfl, hp, fun H2 s2 => q H2 (s1.trans s2)⟩
end
end PP

/-! ### moves_left -/
namespace PP
open PySem PySem.Spec PyProof.Rows L2 SX PR PL
section
variable {P : Program} {w : World} {K : PySem.W.Frag} {mg : Str → Option Value} {base : Heap}
def spLeft : Sp := fun vs H Q _ => ∃ z : Zp, vs = [tx z] ∧ pads z ≤ 60 ∧ ∀ H', Same H H' → Q (nV (mleft z)) H'
theorem sc_left : FnScope ["standing", "steps", "leaps", "pad", "sign"] ["standing"] (defScope s_moves_left) := ⟨rfl, rfl, rfl, by decide +kernel, rfl, by decide +kernel, by decide +kernel⟩
theorem c_left (D : Df K mg "moves_left" s_moves_left ["standing"]) (T : Bl mg) (ca : Cal P w K mg base 1 "asked_standing" spAsked) : Cal P w K mg base 2 "moves_left" spLeft := by
  refine cal_of D sc_left (fun vs H Q E h => ?_) (fun f cdv A outer s H vs Q E hr h => ?_)
  · obtain ⟨z, rfl, _⟩ := h
    rfl
  · obtain ⟨z, rfl, hp, q⟩ := h
    have nd := sc_left.nd
    have hlen := cps_len z
    have hlz : (S (cps z)).length ≤ sizeLine := small (by rw [S_len]; omega)
    refine ⟨_, pss_cons (ps_expr (pe_c ca hr (by decide) (by rfl) (pa_cons (pv 0) pa_nil)))
      (pss_cons (ps_asg (pe_tup (pa_cons pe_int (pa_cons pe_int pa_nil))) (pg_tup rfl (pgs_cons (pg_name (i := 1) nd rfl (.inl rfl)) (pgs_cons (pg_name (i := 2) nd rfl (.inl rfl)) pgs_nil))))
      (pss_cons (ps_for PassesOwn.never rfl (pi_enumS (by rfl) T.enum (pa_cons (pv 0) pa_nil)) (pg_tup rfl (pgs_cons (pg_name (i := 3) nd rfl (.inl rfl)) (pgs_cons (pg_name (i := 4) nd rfl (.inl rfl)) pgs_nil)))
        (C8.pss_cut (ps_if (pt_cmpR op_eq (pv 4) pe_str (nomark _))
            (pss_cons (ps_set (i := 1) nd rfl (.inl rfl) (pe_op op_sub (pe_op op_add (pe_op op_sub (pe_op op_add (pv 1) (pe_callB call_len_str (by rfl) T.len PySem.boot_len (pa_cons (pv 0) pa_nil))) (pe_m1 PySem.F.slot_str_count PySem.F.type_str_count mt_count (pv 0) pe_str))
              (pe_m1 PySem.F.slot_str_count PySem.F.type_str_count mt_count (pe_slice sl_str (pv 0) po_none (po_some (pv 3))) pe_str)) (pv 3)))
            (pss_one (ps_set (i := 2) nd rfl (.inl rfl) (pe_op op_add (pv 2) (pe_m1 PySem.F.slot_str_count PySem.F.type_str_count mt_count (pe_slice sl_str (pv 0) (po_some (pv 3)) po_none) pe_str))))) pss_nil)
        (pss_one (ps_if (pt_cmpR op_eq (pv 4) pe_str (nomark _))
            (pss_one (ps_set (i := 1) nd rfl (.inl rfl) (pe_op op_sub (pe_op op_add (pv 1) (pv 3)) (pe_m1 PySem.F.slot_str_count PySem.F.type_str_count mt_count (pe_slice sl_str (pv 0) po_none (po_some (pv 3))) pe_str)))) pss_nil))))
      (pss_one (ps_ret (pe_op op_sub (pv 1) (pv 2)))))), ?_⟩
    refine ⟨tx z, rfl, z, rfl, hp, fun H1 s1 => ?_⟩
    refine ⟨(by show 2 ≤ sizeLine; decide), fun t nt => ⟨t, _, rfl, SqT.of upd_same, rfl, .int 0, [.int 0], rfl, .int 0, [], rfl, rfl, ?_⟩⟩
    have s2 : Same H (upd H1 t (.tup [.int 0, .int 0])) := s1.trans (same_upd nt)
    refine ⟨tx z, rfl, cps z, rfl, for_it (walk_enumS (l := cps z)) (fun i σ H' => ∃ y3 y4, σ = [some (tx z), some (.int (upto (stp (cps z)) i)), some (.int (upto (lps (cps z)) i)), y3, y4] ∧ Same H H')
      ⟨none, none, rfl, s2⟩ (fun _ _ _ _ _ => trivial) ?_ ?_⟩
    · rintro i x σ H2 H3 hi ⟨y3, y4, rfl, s3⟩ ⟨Tp, c, rfl, nT, rfl, hc⟩
      refine ⟨Tp, [nV i, sV c], rfl, SqT.of upd_same, rfl, nV i, [sV c], rfl, sV c, [], rfl, rfl, ?_⟩
      have s4 : Same H (upd H2 Tp (.tup [nV i, sV c])) := same_upd2 s3 (s3.free nT)
      have hcut : cutS (S (cps z)) none (some (i : Int)) = S ((cps z).take i) := cutS_to _ _
      have hcut2 : cutS (S (cps z)) (some (i : Int)) none = S ((cps z).drop i) := cutS_from _ _
      refine ⟨fun σ' H' => σ' = [some (tx z), some (.int (upto (stp (cps z)) i + if c = 97 then stp (cps z) i else 0)), some (.int (upto (lps (cps z)) (i + 1))), some (nV i), some (sV c)] ∧ upd H2 Tp (.tup [nV i, sV c]) = H', ?_, ?_⟩
      · refine ⟨sV c, rfl, rfl, _, rfl, ifB (fun e => ?_) (fun e => ?_)⟩
        · rw [s_a, dec_str] at e
          have ec : c = 97 := by simpa using e
          refine ⟨.int _, rfl, tx z, rfl, _, rfl, hlz, _, _, rfl, rfl, tx z, rfl, ⟨_, rfl⟩, _, _, rfl, rfl, _, _, rfl, rfl, tx z, rfl, nV i, rfl, _, rfl, _, rfl, hlz, ⟨_, rfl⟩, _, _, rfl, rfl, _, _, rfl, rfl, nV i, rfl, _, _, rfl, rfl, ?_⟩
          refine ⟨.int _, rfl, tx z, rfl, nV i, rfl, _, rfl, _, rfl, hlz, ⟨_, rfl⟩, _, _, rfl, rfl, _, _, rfl, rfl, ?_, rfl⟩
          have e1 : upto (stp (cps z)) i + ((S (cps z)).length : Int) - Txt.count (S (cps z)) (Str.ofString "a") + Txt.count (cutS (S (cps z)) none (some (i : Int))) (Str.ofString "a") - (i : Int) = upto (stp (cps z)) i + if c = 97 then stp (cps z) i else 0 := by
            rw [if_pos ec, hcut, s_a, count_S, count_S, S_len]
            unfold stp
            rw [if_pos (by rw [hc, ec])]
            omega
          have e2 : upto (lps (cps z)) i + Txt.count (cutS (S (cps z)) (some (i : Int)) none) (Str.ofString "b") = upto (lps (cps z)) (i + 1) := by
            show _ = upto (lps (cps z)) i + lps (cps z) i
            rw [hcut2, s_b, count_S]
            unfold lps
            rw [if_pos (by rw [hc, ec])]
          rw [← e1, ← e2]
          rfl
        · rw [s_a, dec_str] at e
          have ec : c ≠ 97 := by simpa using e
          refine ⟨?_, rfl⟩
          have e2 : upto (lps (cps z)) (i + 1) = upto (lps (cps z)) i := by
            show upto (lps (cps z)) i + lps (cps z) i = _
            unfold lps
            rw [if_neg (by rw [hc]; exact fun z => ec (Option.some.inj z))]
            omega
          rw [if_neg ec, e2, Int.add_zero]
          rfl
      rintro _ _ ⟨rfl, rfl⟩
      refine ⟨sV c, rfl, rfl, _, rfl, ifB (fun e => ?_) (fun e => ?_)⟩
      · rw [s_b, dec_str] at e
        have ec : c = 98 := by simpa using e
        refine ⟨.int _, rfl, nV i, rfl, _, _, rfl, rfl, tx z, rfl, nV i, rfl, _, rfl, _, rfl, hlz, ⟨_, rfl⟩, _, _, rfl, rfl, _, _, rfl, rfl, some (nV i), some (sV c), ?_, s4⟩
        have e1 : (upto (stp (cps z)) i + if c = 97 then stp (cps z) i else 0) + (i : Int) - Txt.count (cutS (S (cps z)) none (some (i : Int))) (Str.ofString "b") = upto (stp (cps z)) (i + 1) := by
          show _ = upto (stp (cps z)) i + stp (cps z) i
          rw [hcut, s_b, count_S, if_neg (by omega)]
          unfold stp
          rw [if_neg (by rw [hc, ec]; decide), if_pos (by rw [hc, ec])]
          omega
        rw [← e1]
        rfl
      · rw [s_b, dec_str] at e
        have ec : c ≠ 98 := by simpa using e
        refine ⟨some (nV i), some (sV c), ?_, s4⟩
        have e1 : (upto (stp (cps z)) i + if c = 97 then stp (cps z) i else 0) = upto (stp (cps z)) (i + 1) := by
          show _ = upto (stp (cps z)) i + stp (cps z) i
          by_cases h : c = 97
          · rw [if_pos h]
          · rw [if_neg h]
            unfold stp
            rw [if_neg (by rw [hc]; exact fun z => h (Option.some.inj z)), if_neg (by rw [hc]; exact fun z => ec (Option.some.inj z))]
        rw [← e1]
    · rintro σ H2 ⟨y3, y4, rfl, s3⟩
      refine ⟨.int _, rfl, .int _, rfl, _, _, rfl, rfl, ?_⟩
      show Q (V.int (upto (stp (cps z)) (cps z).length - upto (lps (cps z)) (cps z).length)) H2
      rw [hlen, left_prog]
      exact q H2 s3
end
end PP

/-! ### exchange -/
namespace PP
open PySem PySem.Spec PyProof.Rows L2 SX PR PL
section
variable {P : Program} {w : World} {K : PySem.W.Frag} {mg : Str → Option Value} {base : Heap}
/-- exchange of two counts -/
def spExch : Sp := fun vs H Q _ => ∃ a b : Int, vs = [.int a, .int b] ∧ 0 ≤ a ∧ 0 ≤ b ∧ IntMulOk a b ∧ Q (.int (a * b + a + b)) H
theorem sc_exch : FnScope ["one", "other"] ["one", "other"] (defScope s_exchange) := ⟨rfl, rfl, rfl, by decide +kernel, rfl, by decide +kernel, by decide +kernel⟩
theorem c_exch (D : Df K mg "exchange" s_exchange ["one", "other"]) (cw : Cal P w K mg base 1 "is_whole" (spWhole K)) : Cal P w K mg base 2 "exchange" spExch := by
  refine cal_of D sc_exch (fun vs H Q E h => ?_) (fun f cdv A outer s H vs Q E hr h => ?_)
  · obtain ⟨a, b, rfl, _⟩ := h
    rfl
  · obtain ⟨a, b, rfl, ha, hb, hm, q⟩ := h
    refine ⟨_, pss_cons (ps_if (PW.pt (pw_or (pt_not (pt_val (pe_c cw hr (by decide) (by rfl) (pa_cons (pv 0) pa_nil)))) (pw_or (pt_not (pt_val (pe_c cw hr (by decide) (by rfl) (pa_cons (pv 1) pa_nil))))
        (pw_or (pt_cmpR op_lt (pv 0) pe_int (nomark _)) (pw_or1 (pt_cmpR op_lt (pv 1) pe_int (nomark _))))))) (pss_one ps_never) pss_nil)
      (pss_one (ps_ret (pe_op op_add (pe_op op_add (pe_op op_mulX (pv 0) (pv 1)) (pv 0)) (pv 1)))), ?_⟩
    refine ⟨.int a, rfl, .int a, "int", true, false, rfl, .base (.int _), by decide +kernel, by decide +kernel, _, rfl, ifF rfl ?_⟩
    refine ⟨.int b, rfl, .int b, "int", true, false, rfl, .base (.int _), by decide +kernel, by decide +kernel, _, rfl, ifF rfl ?_⟩
    refine ⟨.int a, rfl, _, _, rfl, rfl, _, rfl, ifF (decide_eq_false (by omega)) ?_⟩
    refine ⟨.int b, rfl, _, _, rfl, rfl, _, rfl, ifF (decide_eq_false (by omega)) ?_⟩
    exact ⟨.int a, rfl, .int b, rfl, _, _, rfl, rfl, hm, .int a, rfl, _, _, rfl, rfl, .int b, rfl, _, _, rfl, rfl, q⟩
end
end PP

/-! ### mirrored -/
namespace PP
open PySem PySem.Spec PyProof.Rows L2 SX PR PL
section
variable {P : Program} {w : World} {K : PySem.W.Frag} {mg : Str → Option Value} {base : Heap}
/-- mirrored -/
def spMirr : Sp := fun vs H Q _ => ∃ z : Zp, vs = [tx z] ∧ pads z ≤ 60 ∧ ∀ H', Same H H' → Q (tx (mirror z)) H'
theorem sc_mirr : FnScope ["standing", "signs", "sign"] ["standing"] (defScope s_mirrored) := ⟨rfl, rfl, rfl, by decide +kernel, rfl, by decide +kernel, by decide +kernel⟩
/-- the written table of kinds exchanged -/
abbrev swT : List (Key × V) := [(Sum.inr (Str.ofString "a"), .str (Str.ofString "b")), (Sum.inr (Str.ofString "b"), .str (Str.ofString "a")), (Sum.inr (Str.ofString "."), .str (Str.ofString "."))]
theorem sw_get {c : Nat} (h : c = 97 ∨ c = 98 ∨ c = 46) : valV (mergeK [] swT) (Sum.inr (S [c])) = some (sV (sw c)) := by
  rcases h with rfl | rfl | rfl <;> decide +kernel
theorem dget_sw {H : Hp} {d : Addr} {c : Nat} (h : H d = some (.dK (mergeK [] swT))) (hc : c = 97 ∨ c = 98 ∨ c = 46) : DGet H d (sV c) (some (sV (sw c))) := by
  have g := DGet.k (k := Sum.inr (S [c])) h
  rw [sw_get hc] at g
  exact g
theorem c_mirr (D : Df K mg "mirrored" s_mirrored ["standing"]) (ca : Cal P w K mg base 1 "asked_standing" spAsked) : Cal P w K mg base 2 "mirrored" spMirr := by
  refine cal_of D sc_mirr (fun vs H Q E h => ?_) (fun f cdv A outer s H vs Q E hr h => ?_)
  · obtain ⟨z, rfl, _⟩ := h
    rfl
  · obtain ⟨z, rfl, hp, q⟩ := h
    have nd := sc_mirr.nd
    have hlen := cps_len z
    refine ⟨_, pss_cons (ps_expr (pe_c ca hr (by decide) (by rfl) (pa_cons (pv 0) pa_nil)))
      (pss_cons (ps_set (i := 1) nd rfl (.inr rfl) (pe_disp (pps_cons pe_str pe_str (pps_cons pe_str pe_str (pps_cons pe_str pe_str pps_nil))) (by rfl) (by rfl) (fun z => by cases z) (by decide)))
      (pss_one (ps_ret (pe_join pe_str (pe_lc (own := [("sign", 2)]) (g := gName 2) (tt := tYes) (by rfl) nd (pi_str (pe_revS (pv 0))) (blkOk_by (own := [("sign", 2)]) (N := ["standing", "signs", "sign"]) (sc := defScope s_mirrored) (by decide +kernel))
        (fun _ _ _ _ _ => pg_name (i := 2) nd rfl (Or.inl rfl)) (fun _ _ _ _ _ => pts_nil) (fun _ _ _ _ _ => pe_dget (hu_of hr) (pv 1) (pv 2) (fun _ _ => rfl))))))), ?_⟩
    refine ⟨tx z, rfl, z, rfl, hp, fun H1 s1 => ?_⟩
    intro d nd1
    refine ⟨upd_same, swT, rfl, by decide, ?_⟩
    rw [upd_upd]
    obtain ⟨H2, eH⟩ : ∃ H2, upd H1 d (.dK (mergeK [] swT)) = H2 := ⟨_, rfl⟩
    have s2 : Same H H2 := by rw [← eH]; exact same_upd2 s1 (s1.free nd1)
    have hd : H2 d = some (.dK (mergeK [] swT)) := by rw [← eH]; exact upd_same
    rw [eH]
    refine ⟨⟨_, rfl⟩, tx z, rfl, cps z, rfl, small (by omega), S (cps z).reverse, rfl, fun D nD => ?_⟩
    refine lc_it (walk_strL (l := (cps z).reverse)) (fun i H' => Same H2 H' ∧ H' D = some (.lst ((((cps z).reverse.take i).map sw).map sV))) ⟨same_upd nD, upd_same⟩ (fun _ _ _ _ => trivial) ?_ ?_
    · rintro i x H3 _ hi ⟨s3, h3⟩ ⟨rfl, c, hc, rfl⟩
      have hcs : c = 97 ∨ c = 98 ∨ c = 46 := sgs_cps z c (List.mem_reverse.mp (List.mem_of_getElem? hc))
      have hd3 := s3 _ _ hd
      refine ⟨rfl, .ref d, rfl, sV c, rfl, d, sV (sw c), rfl, ?_, _, h3, ?_, same_upd2 s3 nD, ?_⟩
      · exact dget_sw hd3 hcs
      · rw [List.length_map, List.length_map, List.length_take]
        exact L2.small1000 (by rw [List.length_reverse]; omega)
      · rw [upd_same, List.take_succ, hc]
        simp
    · rintro H3 ⟨s3, h3⟩
      rw [List.take_length, ← cps_mirror, sV_map] at h3
      refine ⟨Str.ofString "", D, (cps (mirror z)).map fun c => S [c], rfl, rfl, .inl (SqL.of h3), ?_, ?_⟩
      · have h2 : (cps (mirror z)).length ≤ 60 := by rw [cps_len, mirror_pads]; exact hp
        have h4 := join_size (cps (mirror z)) (by omega)
        rw [s_nil, show (S []).length = 0 from rfl, Nat.mul_zero]
        omega
      · rw [s_nil, PR.join_one]
        exact q _ (s2.trans s3)
end
end PP

/-! ### asked_small -/
namespace PP
open PySem PySem.Spec PyProof.Rows L2 SX PR PL
section
variable {P : Program} {w : World} {K : PySem.W.Frag} {mg : Str → Option Value} {base : Heap}
/-- asked_small of a standing of at most nine pads: nothing -/
def spSmall : Sp := fun vs H Q _ => ∃ z : Zp, vs = [tx z] ∧ pads z ≤ 9 ∧ ∀ H', Same H H' → Q .non H'
theorem sc_small : FnScope ["standing"] ["standing"] (defScope s_asked_small) := ⟨rfl, rfl, rfl, by decide +kernel, rfl, by decide +kernel, by decide +kernel⟩
theorem c_small (D : Df K mg "asked_small" s_asked_small ["standing"]) (T : Bl mg) (hM : ∃ t, mg "SMALL" = some (.int 9 t)) (ca : Cal P w K mg base 1 "asked_standing" spAsked) : Cal P w K mg base 2 "asked_small" spSmall := by
  obtain ⟨tM, hM⟩ := hM
  refine cal_of D sc_small (fun vs H Q E h => ?_) (fun f cdv A outer s H vs Q E hr h => ?_)
  · obtain ⟨z, rfl, _⟩ := h
    rfl
  · obtain ⟨z, rfl, hp, q⟩ := h
    refine ⟨_, pss_cons (ps_expr (pe_c ca hr (by decide) (by rfl) (pa_cons (pv 0) pa_nil)))
      (pss_one (ps_if (pt_cmpR op_gt (pe_callB call_len_str (by rfl) T.len PySem.boot_len (pa_cons (pv 0) pa_nil)) (pe_glob (v := .int 9) (by rfl) hM ⟨_, rfl⟩) (nomark _)) (pss_one ps_never) pss_nil)), ?_⟩
    refine ⟨tx z, rfl, z, rfl, by omega, fun H1 s1 => ?_⟩
    have hl : (S (cps z)).length = pads z := by rw [S_len, cps_len]
    exact ⟨tx z, rfl, _, rfl, small (by omega), _, _, rfl, rfl, _, rfl, ifF (decide_eq_false (by rw [hl]; omega)) (q H1 s1)⟩
end
end PP

/-! ### asked_small; a dict that keeps what is known of standings; ways_of, ways -/
namespace PP
open PySem PySem.Spec PyProof.Rows L2 SX PR PL
/-- a standing as a key -/
abbrev kz (z : Zp) : Key := Sum.inr (S (cps z))
theorem kz_inj {y z : Zp} (h : kz y = kz z) : y = z := cps_inj (S_inj (Sum.inr.inj h))
/-- d is a dict whose keys are standings, each value as R says -/
def Kn (R : Hp → Zp → V → Prop) (H : Hp) (d : Addr) : Prop := ∃ kvs : List (Key × V), H d = some (.dK kvs) ∧ (kvs.map (·.1)).Nodup ∧ ∀ kv ∈ kvs, ∃ z : Zp, pads z ≤ 9 ∧ kv.1 = kz z ∧ R H z kv.2
theorem kn_len {R : Zp → V → Prop} {kvs : List (Key × V)} (hn : (kvs.map (·.1)).Nodup) (h : ∀ kv ∈ kvs, ∃ z : Zp, pads z ≤ 9 ∧ kv.1 = kz z ∧ R z kv.2) : kvs.length < sizeLine := by
  have h1 := nodup_le (l := kvs.map (·.1)) (m := allZ.map kz) hn fun x hx => by
    obtain ⟨kv, hkv, rfl⟩ := List.mem_map.mp hx
    obtain ⟨z, hz, e, _⟩ := h kv hkv
    exact List.mem_map.mpr ⟨z, mem_allZ hz, e.symm⟩
  rw [List.length_map, List.length_map, allZ_len] at h1
  exact Nat.lt_of_le_of_lt h1 (by decide)
theorem kn_get {R : Zp → V → Prop} {kvs : List (Key × V)} (h : ∀ kv ∈ kvs, ∃ z : Zp, pads z ≤ 9 ∧ kv.1 = kz z ∧ R z kv.2) {z : Zp} {v : V} (e : valV kvs (kz z) = some v) : R z v := by
  unfold valV at e
  cases f : kvs.find? (fun kv => decide (kv.1 = kz z)) with
  | none => rw [f] at e; cases e
  | some kv =>
    rw [f] at e
    have hv : kv.2 = v := Option.some.inj e
    obtain ⟨y, _, ey, r⟩ := h kv (List.mem_of_find?_eq_some f)
    have ek : kv.1 = kz z := by
      have := List.find?_some f
      simpa using this
    have : y = z := kz_inj (ey.symm.trans ek)
    rw [← hv, ← this]
    exact r
theorem kn_put {Pk : Key × V → Prop} {kvs : List (Key × V)} {k : Key} {v : V} (hn : (kvs.map (·.1)).Nodup) (h : ∀ kv ∈ kvs, Pk kv) (hv : Pk (k, v)) : ((putK kvs k v).map (·.1)).Nodup ∧ ∀ kv ∈ putK kvs k v, Pk kv := by
  cases e : valV kvs k with
  | none =>
    refine ⟨nd_putK v hn e, fun kv hkv => ?_⟩
    rw [putK_new v e] at hkv
    rcases List.mem_append.mp hkv with m | m
    · exact h kv m
    · rw [List.mem_singleton.mp m]
      exact hv
  | some u =>
    have ha : (kvs.any fun kv => decide (kv.1 = k)) = true := by rw [valV_any, e]; rfl
    have ep : putK kvs k v = kvs.map (fun kv => if kv.1 = k then (kv.1, v) else kv) := by unfold putK; rw [if_pos ha]
    rw [ep]
    constructor
    · have : (kvs.map (fun kv => if kv.1 = k then (kv.1, v) else kv)).map (·.1) = kvs.map (·.1) := by
        rw [List.map_map]
        refine List.map_congr_left fun kv _ => ?_
        show (if kv.1 = k then (kv.1, v) else kv).1 = kv.1
        split <;> rfl
      rw [this]
      exact hn
    · intro kv hkv
      obtain ⟨kv', hm, rfl⟩ := List.mem_map.mp hkv
      by_cases ek : kv'.1 = k
      · rw [if_pos ek, ek]
        exact hv
      · rw [if_neg ek]
        exact h kv' hm
/-- all but d stands as it stood -/
def Sb (d : Addr) (H H' : Hp) : Prop := ∀ b o, b ≠ d → H b = some o → H' b = some o
theorem Sb.refl (d : Addr) (H : Hp) : Sb d H H := fun _ _ _ h => h
theorem Sb.trans {d : Addr} {H H1 H2 : Hp} (a : Sb d H H1) (b : Sb d H1 H2) : Sb d H H2 := fun c o n h => b c o n (a c o n h)
theorem Same.sb {d : Addr} {H H' : Hp} (s : L2.Same H H') : Sb d H H' := fun b o _ h => s b o h
theorem Sb.upd {d : Addr} {H : Hp} {o : HO} : Sb d H (L2.upd H d o) := fun b x n h => by rw [upd_ne n]; exact h
/-- behind a dict that was made new: all stands -/
theorem Sb.same {d : Addr} {H H1 : Hp} {o : HO} (s : Sb d (L2.upd H d o) H1) (h : H d = none) : L2.Same H H1 := fun b x e => by
  have n : b ≠ d := ne_of_none e h
  exact s b x n (by rw [upd_ne n]; exact e)
section
variable {P : Program} {w : World} {K : PySem.W.Frag} {mg : Str → Option Value} {base : Heap}
/-- what ways_of keeps -/
abbrev RW : Hp → Zp → V → Prop := fun _ z v => v = nV (ways z)
theorem kn_sb {d : Addr} {H H' : Hp} (h : Kn RW H d) (e : H' d = H d) : Kn RW H' d := by
  obtain ⟨kvs, h1, h2, h3⟩ := h
  exact ⟨kvs, by rw [e]; exact h1, h2, h3⟩
def spWays (k : Nat) : Sp := fun vs H Q _ => ∃ (z : Zp) (d : Addr), vs = [tx z, .ref d] ∧ pads z ≤ 9 ∧ mleft z ≤ k ∧ Kn RW H d ∧ ∀ H', Sb d H H' → Kn RW H' d → Q (nV (ways z)) H'
theorem sc_ways : FnScope ["standing", "known", "found", "pad"] ["standing", "known"] (defScope s_ways_of) := ⟨rfl, rfl, rfl, by decide +kernel, rfl, by decide +kernel, by decide +kernel⟩
theorem kn_same {d : Addr} {H H' : Hp} (h : Kn RW H d) (s : Same H H') : Kn RW H' d := by
  obtain ⟨kvs, h1, h2, h3⟩ := h
  exact ⟨kvs, s _ _ h1, h2, h3⟩
theorem c_ways (D : Df K mg "ways_of" s_ways_of ["standing", "known"]) (cg : Cal P w K mg base 1 "goal_of" spGoal) (cm : Cal P w K mg base 1 "movers" spMovers) (cb : Cal P w K mg base 1 "behind" spBehind) : ∀ k : Nat, Cal P w K mg base (k + 2) "ways_of" (spWays k) := by
  have main : ∀ (k : Nat) (rec : ∀ z : Zp, mleft z ≤ k → next z ≠ [] → ∃ j, j + 1 ≤ k ∧ Cal P w K mg base (j + 2) "ways_of" (spWays j) ∧ k ≤ j + 1) (c' : k = 0 ∨ Cal P w K mg base (k + 1) "ways_of" (spWays (k - 1))), Cal P w K mg base (k + 2) "ways_of" (spWays k) := by
    intro k _ c'
    have nd := sc_ways.nd
    refine cal_of D sc_ways (fun vs H Q E h => ?_) (fun f cdv A outer s H vs Q E hr h => ?_)
    · obtain ⟨z, d, rfl, _⟩ := h
      rfl
    · obtain ⟨z, d, rfl, hp, hml, kn, q⟩ := h
      have hu := hu_of hr
      -- the call of itself
      have ce : ∃ sp : Sp, Cal P w K mg base (k + 1) "ways_of" sp ∧ ∀ (y : Zp) (p : Nat) (H : Hp) (Q : VK), (p, y) ∈ next z → Kn RW H d → (∀ H', Sb d H H' → Kn RW H' d → Q (nV (ways y)) H') → sp [tx y, .ref d] H Q L2.E0 := by
        rcases c' with rfl | c'
        · have hn : next z = [] := next_none (by omega)
          obtain ⟨fa, fd, F, b, g⟩ := D.ex
          refine ⟨fun _ _ _ _ => False, ⟨fa, fd, ["standing", "known"], ⟨fun _ _ _ _ h => h.elim, fun _ _ _ _ _ _ _ _ _ _ _ _ _ h => h.elim⟩, g, F.kp, b⟩, fun y p H Q hy => ?_⟩
          rw [hn] at hy
          cases hy
        · refine ⟨_, c', fun y p H Q hy hk hq => ?_⟩
          have hm := next_mleft hy
          exact ⟨y, d, rfl, by rw [next_pads hy]; exact hp, by omega, hk, hq⟩
      obtain ⟨sp, cr, hsp⟩ := ce
      refine ⟨_, pss_cons (ps_if (pt_cmp (pc_dnotin hu (pv 0) (pv 1)))
          (C8.pss_cut (ps_set (i := 2) nd rfl (.inl rfl) (pe_ifExp (pt_cmpR op_eq (pv 0) (pe_c cg hr (by omega) (by rfl) (pa_cons (pv 0) pa_nil)) (nomark _)) pe_int pe_int))
          (pss_cons (ps_for PassesOwn.never rfl (pi_list (pe_c cm hr (by omega) (by rfl) (pa_cons (pv 0) pa_nil))) (pg_name (i := 3) nd rfl (.inl rfl))
            (pss_one (ps_set (i := 2) nd rfl (.inl rfl) (pe_op op_add (pv 2) (pe_c cr hr (Nat.le_refl _) (by rfl) (pa_cons (pe_c cb hr (by omega) (by rfl) (pa_cons (pv 0) (pa_cons (pv 3) pa_nil))) (pa_cons (pv 1) pa_nil)))))))
          (pss_one (ps_dput hu (pv 1) (pv 0) (pv 2) rfl)))) pss_nil)
        (pss_one (ps_ret (pe_dget hu (pv 1) (pv 0) (fun _ _ => rfl)))), ?_⟩
      obtain ⟨kvs, hd, hn, hall⟩ := id kn
      refine ⟨tx z, rfl, .ref d, rfl, d, _, rfl, DGet.k (k := kz z) hd, _, rfl, ifB (fun e => ?_) (fun e => ?_)⟩
      · -- not known yet
        refine ⟨fun σ' H' => σ' = [some (tx z), some (.ref d), some (nV (if z = goal z then 1 else 0)), none] ∧ Same H H', ?_, ?_⟩
        · refine ⟨tx z, rfl, tx z, rfl, z, rfl, by omega, fun H1 s1 => ⟨rfl, _, rfl, ifB (fun e1 => ?_) (fun e1 => ?_)⟩⟩
          · rw [dec_str] at e1
            have eg : z = goal z := cps_inj (of_decide_eq_true e1)
            rw [if_pos eg]
            exact ⟨rfl, s1⟩
          · rw [dec_str] at e1
            have eg : ¬ z = goal z := fun h => of_decide_eq_false e1 (congrArg cps h)
            rw [if_neg eg]
            exact ⟨rfl, s1⟩
        rintro _ H1 ⟨rfl, s1⟩
        refine ⟨tx z, rfl, z, rfl, by omega, fun H2 p s2 np hpl => ?_⟩
        have hd2 := (s1.trans s2) _ _ hd
        have npd : p ≠ d := ne_of hpl hd2 (by intro q; cases q)
        refine ⟨p, rfl, ⟨_, SqL.of hpl⟩, for_list (K := K) (a := p) (xs := (movers z).map nV) (fun i σ H' => ∃ y3, σ = [some (tx z), some (.ref d), some (nV ((if z = goal z then 1 else 0) + pref (next z) i)), y3] ∧ Sb d H2 H' ∧ Kn RW H' d)
          ⟨none, rfl, Sb.refl _ _, kn_same kn (s1.trans s2)⟩ (fun i σ H' _ ⟨_, _, sx, _⟩ => SqL.of (sx _ _ npd hpl)) ?_ ?_⟩
        · rintro i x σ H3 hx ⟨y3, rfl, s3, k3⟩
          obtain ⟨⟨pd, y⟩, hq, ex⟩ : ∃ qy : Nat × Zp, (next z)[i]? = some qy ∧ x = nV qy.1 := by
            unfold movers at hx
            rw [List.getElem?_map, List.getElem?_map] at hx
            cases e : (next z)[i]? with
            | none => rw [e] at hx; cases hx
            | some u => rw [e] at hx; exact ⟨u, rfl, (Option.some.inj hx).symm⟩
          subst ex
          have hy : (pd, y) ∈ next z := List.mem_of_getElem? hq
          refine ⟨nV _, rfl, tx z, rfl, nV pd, rfl, z, pd, y, rfl, hy, by omega, fun H4 s4 => ⟨.ref d, rfl, ?_⟩⟩
          refine hsp y pd H4 _ hy (kn_same k3 s4) fun H5 s5 k5 => ?_
          refine ⟨_, _, rfl, rfl, some (nV pd), ?_, s3.trans ((Same.sb s4).trans s5), k5⟩
          rw [pref_succ hq]
          show [some (tx z), some (.ref d), some (V.int (((if z = goal z then 1 else 0) + pref (next z) i : Nat) + (ways y : Nat) : Int)), some (nV pd)] = [some (tx z), some (.ref d), some (V.int (((if z = goal z then 1 else 0) + (pref (next z) i + ways y) : Nat) : Int)), some (nV pd)]
          rw [show (((if z = goal z then 1 else 0) + pref (next z) i : Nat) : Int) + ((ways y : Nat) : Int) = (((if z = goal z then 1 else 0) + (pref (next z) i + ways y) : Nat) : Int) by push_cast; omega]
        · rintro σ H3 ⟨y3, rfl, s3, k3⟩
          have ew : (if z = goal z then 1 else 0) + pref (next z) ((movers z).map nV).length = ways z := by
            unfold movers
            rw [List.length_map, List.length_map]
            unfold pref
            rw [List.take_length, ways_eq z]
          rw [ew]
          obtain ⟨kvs3, hd3, hn3, hall3⟩ := id k3
          have hlt := kn_len (R := fun z v => v = nV (ways z)) hn3 hall3
          obtain ⟨pn, pa⟩ := kn_put (k := kz z) (v := nV (ways z)) hn3 hall3 ⟨z, hp, rfl, rfl⟩
          refine ⟨nV (ways z), rfl, .ref d, rfl, tx z, rfl, d, _, rfl, DPut.k (k := kz z) hd3 hlt, ?_⟩
          refine ⟨.ref d, rfl, tx z, rfl, d, nV (ways z), rfl, ?_, ?_⟩
          · have g := DGet.k (k := kz z) (upd_same (H := H3) (a := d) (o := .dK (putK kvs3 (kz z) (nV (ways z)))))
            rw [valV_put, if_pos rfl] at g
            exact g
          · exact q _ (((Same.sb (s1.trans s2)).trans s3).trans Sb.upd) ⟨_, upd_same, pn, pa⟩
      · -- known
        cases ev : valV kvs (kz z) with
        | none => rw [ev] at e; cases e
        | some v =>
          have hv : v = nV (ways z) := kn_get (R := fun z v => v = nV (ways z)) hall ev
          have g := DGet.k (k := kz z) hd
          rw [ev, hv] at g
          exact ⟨.ref d, rfl, tx z, rfl, d, nV (ways z), rfl, g, q H (Sb.refl _ _) kn⟩
  intro k
  induction k with
  | zero => exact main 0 (fun z hz hn => absurd (next_none (by omega)) hn) (.inl rfl)
  | succ k ih => exact main (k + 1) (fun z hz hn => ⟨k, Nat.le_refl _, ih, Nat.le_refl _⟩) (.inr ih)
/-- a dict just made knows nothing -/
theorem kn_new {R : Hp → Zp → V → Prop} {H : Hp} {d : Addr} (h : H d = some (.dK [])) : Kn R H d := ⟨[], h, List.nodup_nil, fun _ hm => nomatch hm⟩
theorem sb_same {d : Addr} {H H1 H2 : Hp} (s : Same H H1) (h : H d = none) (t : Sb d H1 H2) : Same H H2 := fun b o e => t b o (ne_of_none e h) (s b o e)
theorem kn_ne {R : Hp → Zp → V → Prop} {H : Hp} {d p : Addr} {xs : List V} (k : Kn R H d) (h : H p = some (.lst xs)) : p ≠ d := by
  obtain ⟨kvs, hd, _⟩ := k
  exact ne_of h hd (by intro q; cases q)
/-- an item of the list of moves, by its place -/
theorem mover_ix {z : Zp} {i : Nat} {x : V} (hx : ((movers z).map nV)[i]? = some x) : ∃ (pd : Nat) (y : Zp), (next z)[i]? = some (pd, y) ∧ x = nV pd ∧ (pd, y) ∈ next z := by
  unfold movers at hx
  rw [List.getElem?_map, List.getElem?_map] at hx
  cases e : (next z)[i]? with
  | none => rw [e] at hx; cases hx
  | some u => rw [e] at hx; exact ⟨u.1, u.2, rfl, (Option.some.inj hx).symm, List.mem_of_getElem? e⟩
end
end PP

/-! ### ways -/
namespace PP
open PySem PySem.Spec PyProof.Rows L2 SX PR PL
section
variable {P : Program} {w : World} {K : PySem.W.Frag} {mg : Str → Option Value} {base : Heap}
def spMany : Sp := fun vs H Q _ => ∃ z : Zp, vs = [tx z] ∧ pads z ≤ 9 ∧ ∀ H', Same H H' → Q (nV (ways z)) H'
theorem sc_waysA : FnScope ["standing"] ["standing"] (defScope s_ways) := ⟨rfl, rfl, rfl, by decide +kernel, rfl, by decide +kernel, by decide +kernel⟩
theorem c_waysA (D : Df K mg "ways" s_ways ["standing"]) (ca : Cal P w K mg base 2 "asked_small" spSmall) (cw : Cal P w K mg base 26 "ways_of" (spWays 24)) : Cal P w K mg base 27 "ways" spMany := by
  refine cal_of D sc_waysA (fun vs H Q E h => ?_) (fun f cdv A outer s H vs Q E hr h => ?_)
  · obtain ⟨z, rfl, _⟩ := h
    rfl
  · obtain ⟨z, rfl, hp, q⟩ := h
    refine ⟨_, pss_cons (ps_expr (pe_c ca hr (by decide) (by rfl) (pa_cons (pv 0) pa_nil))) (pss_one (ps_ret (pe_c cw hr (by decide) (by rfl) (pa_cons (pv 0) (pa_cons pe_dnewK pa_nil))))), ?_⟩
    refine ⟨tx z, rfl, z, rfl, hp, fun H1 s1 => ⟨tx z, rfl, fun d nd => ⟨z, d, rfl, hp, mleft_le9 hp, kn_new upd_same, fun H2 s2 _ => ?_⟩⟩⟩
    exact q H2 (s1.trans (s2.same nd))
end
end PP

/-! ### way_of -/
namespace PP
open PySem PySem.Spec PyProof.Rows L2 SX PR PL
section
variable {P : Program} {w : World} {K : PySem.W.Frag} {mg : Str → Option Value} {base : Heap}
def spWayOf : Sp := fun vs H Q _ => ∃ (z : Zp) (n : Nat) (wy : List Nat), vs = [tx z, nV n] ∧ pads z ≤ 9 ∧ (wl z)[n]? = some wy ∧ ∀ H' p, Same H H' → H p = none → H' p = some (.lst (wy.map nV)) → Q (.ref p) H'
theorem sc_wayof : FnScope ["standing", "number", "known", "found", "here", "pad", "many"] ["standing", "number"] (defScope s_way_of) := ⟨rfl, rfl, rfl, by decide +kernel, rfl, by decide +kernel, by decide +kernel⟩
theorem c_wayof (D : Df K mg "way_of" s_way_of ["standing", "number"]) (cg : Cal P w K mg base 1 "goal_of" spGoal) (cm : Cal P w K mg base 1 "movers" spMovers) (cb : Cal P w K mg base 1 "behind" spBehind) (cw : Cal P w K mg base 26 "ways_of" (spWays 24)) :
    Cal P w K mg base 27 "way_of" spWayOf := by
  refine cal_of D sc_wayof (fun vs H Q E h => ?_) (fun f cdv A outer s H vs Q E hr h => ?_)
  · obtain ⟨z, n, wy, rfl, _⟩ := h
    rfl
  · obtain ⟨z0, n0, wy, rfl, hp0, hw0, q⟩ := h
    have nd := sc_wayof.nd
    have hlen0 : wy.length ≤ 24 := by
      rw [wl_len 24 z0 (mleft_le9 hp0) wy (List.mem_of_getElem? hw0)]
      exact mleft_le9 hp0
    refine ⟨_, pss_cons (ps_par3 (i := 2) (j := 3) (l := 4) (by rfl) nd rfl rfl rfl (by decide) (by decide) (by decide) rfl rfl rfl (pa_cons pe_dnewK (pa_cons (pe_lst pa_nil) (pa_cons (pv 0) pa_nil))) (by rfl))
      (pss_cons (ps_while PassesOwn.never (pt_cmpR op_ne (pv 4) (pe_c cg hr (by decide) (by rfl) (pa_cons (pv 4) pa_nil)) (nomark _))
        (pss_one (ps_for PassesOwn.never rfl (pi_list (pe_c cm hr (by decide) (by rfl) (pa_cons (pv 4) pa_nil))) (pg_name (i := 5) nd rfl (.inl rfl))
          (pss_cons (ps_set (i := 6) nd rfl (.inl rfl) (pe_c cw hr (by decide) (by rfl) (pa_cons (pe_c cb hr (by decide) (by rfl) (pa_cons (pv 4) (pa_cons (pv 5) pa_nil))) (pa_cons (pv 2) pa_nil))))
          (pss_cons (ps_if (pt_cmpR op_lt (pv 1) (pv 6) (nomark _))
            (pss_cons (ps_expr (pe_bm PySem.F.plainAttrs_list PySem.F.slot_list_append PySem.F.type_list_append mt_append (pv 3) (pa_cons (pv 5) pa_nil)))
            (pss_cons (ps_set (i := 4) nd rfl (.inl rfl) (pe_c cb hr (by decide) (by rfl) (pa_cons (pv 4) (pa_cons (pv 5) pa_nil)))) (pss_one ps_break))) pss_nil)
          (pss_one (ps_set (i := 1) nd rfl (.inl rfl) (pe_op op_sub (pv 1) (pv 6)))))))))
      (pss_one (ps_ret (pv 3)))), ?_⟩
    intro d ndd
    refine ⟨Nat.zero_le _, fun fl nfl => ⟨tx z0, rfl, _, _, _, rfl, ?_⟩⟩
    have nfl0 : H fl = none := (same_upd ndd).free nfl
    have ndf : d ≠ fl := fun e => by rw [← e, upd_same] at nfl; cases nfl
    let W : Nat → L2.St → Hp → Prop := fun m σ H' => ∃ (z : Zp) (n : Nat) (pre rest : List Nat) (y5 y6 : Option V), m = mleft z ∧ σ = [some (tx z0), some (nV n), some (.ref d), some (.ref fl), some (tx z), y5, y6] ∧ pads z ≤ 9 ∧ (wl z)[n]? = some rest ∧ pre ++ rest = wy ∧ H' fl = some (.lst (pre.map nV)) ∧ Kn RW H' d ∧ Same H H'
    refine ⟨W, ⟨mleft z0, z0, n0, [], wy, none, none, rfl, rfl, hp0, hw0, rfl, upd_same, ⟨[], by rw [upd_ne ndf]; exact upd_same, List.nodup_nil, fun _ hm => nomatch hm⟩, same_upd2 (same_upd ndd) nfl0⟩, ?_⟩
    rintro m σ H1 ⟨z, n, pre, rest, y5, y6, rfl, rfl, hp, hw, hpr, hfl, kn, s1⟩
    have hnlt : n < ways z := (List.getElem?_eq_some_iff.mp hw).1
    refine ⟨tx z, rfl, tx z, rfl, z, rfl, by omega, fun H2 s2 => ⟨rfl, _, rfl, ifB (fun e => ?_) (fun e => ?_)⟩⟩
    · rw [dec_str] at e
      have hz : z ≠ goal z := fun h => by
        rw [decide_eq_true (congrArg cps h)] at e
        cases e
      refine ⟨fun σ' H' => ∃ m', m' < mleft z ∧ W m' σ' H', fun _ _ h => h, ?_⟩
      refine ⟨tx z, rfl, z, rfl, by omega, fun H3 p s3 np hpl => ?_⟩
      have kn3 := kn_same kn (s2.trans s3)
      have hfl3 := (s2.trans s3) _ _ hfl
      have npf : fl ≠ p := ne_of_none (s2 _ _ hfl) np
      have st3 : Same H H3 := s1.trans (s2.trans s3)
      refine ⟨p, rfl, ⟨_, SqL.of hpl⟩, for_list (K := K) (a := p) (xs := (movers z).map nV) (fun i σ H' => ∃ (n' : Nat) (y5 y6 : Option V), n' + pref (next z) i = n ∧ σ = [some (tx z0), some (nV n'), some (.ref d), some (.ref fl), some (tx z), y5, y6] ∧ H' p = some (.lst ((movers z).map nV)) ∧ H' fl = some (.lst (pre.map nV)) ∧ Kn RW H' d ∧ Same H H')
        ⟨n, y5, y6, rfl, rfl, hpl, hfl3, kn3, st3⟩ (fun i σ H' _ ⟨_, _, _, _, _, h, _⟩ => SqL.of h) ?_ ?_⟩
      · rintro i x σ H4 hx ⟨n', y5, y6, hn', rfl, hp4, hfl4, kn4, st4⟩
        obtain ⟨pd, y, hq, rfl, hy⟩ := mover_ix hx
        have hpy : pads y ≤ 9 := by rw [next_pads hy]; exact hp
        refine ⟨tx z, rfl, nV pd, rfl, z, pd, y, rfl, hy, by omega, fun H5 s5 => ⟨.ref d, rfl, y, d, rfl, hpy, mleft_le9 hpy, kn_same kn4 s5, fun H6 s6 kn6 => ?_⟩⟩
        have hp6 : H6 p = some (.lst ((movers z).map nV)) := s6 _ _ (kn_ne kn4 hp4) (s5 _ _ hp4)
        have hfl6 : H6 fl = some (.lst (pre.map nV)) := s6 _ _ (kn_ne kn4 hfl4) (s5 _ _ hfl4)
        have st6 : Same H H6 := sb_same (st4.trans s5) ndd s6
        refine ⟨nV n', rfl, nV (ways y), rfl, _, _, rfl, rfl, _, rfl, ifB (fun e2 => ?_) (fun e2 => ?_)⟩
        · have hlt : n' < ways y := by have := of_decide_eq_true e2; omega
          obtain ⟨w', hw1, hw2⟩ := way_at hz hq (n := n) (by omega) (by show n - pref (next z) i < ways y; omega)
          have en : n - pref (next z) i = n' := by omega
          rw [en] at hw1
          have er : rest = pd :: w' := by rw [hw] at hw2; exact Option.some.inj hw2
          refine ⟨.ref fl, rfl, .inl ⟨rfl, _, SqL.of hfl6⟩, nV pd, rfl, fl, _, _, rfl, rfl, hfl6, ?_, ?_⟩
          · rw [List.length_map]
            have : pre.length ≤ wy.length := by rw [← hpr, List.length_append]; omega
            exact L2.small1000 (by omega)
          refine ⟨tx z, rfl, nV pd, rfl, z, pd, y, rfl, hy, by omega, fun H7 s7 => ?_⟩
          have hml := next_mleft hy
          have kn7 : Kn RW (upd H6 fl (.lst (pre.map nV ++ [nV pd]))) d := kn_sb kn6 (upd_ne (kn_ne kn6 hfl6).symm)
          refine ⟨mleft y, by omega, y, n', pre ++ [pd], w', _, _, rfl, rfl, hpy, hw1, by rw [← hpr, er]; simp, ?_, kn_same kn7 s7, (same_upd2 st6 nfl0).trans s7⟩
          have := s7 _ _ (upd_same (H := H6) (a := fl) (o := .lst (pre.map nV ++ [nV pd])))
          rw [this, snoc_nV]
        · have hge : ways y ≤ n' := by have := of_decide_eq_false e2; omega
          refine ⟨nV n', rfl, nV (ways y), rfl, _, _, rfl, rfl, n' - ways y, some (nV pd), some (nV (ways y)), ?_, ?_, hp6, hfl6, kn6, st6⟩
          · rw [pref_succ hq]
            show n' - ways y + (pref (next z) i + ways y) = n
            omega
          · rw [show nV (n' - ways y) = V.int ((n' : Int) - (ways y : Nat)) by show V.int _ = V.int _; rw [show ((n' - ways y : Nat) : Int) = (n' : Int) - (ways y : Nat) by omega]]
            rfl
      · rintro σ H4 ⟨n', y5, y6, hn', _⟩
        have hall : pref (next z) ((movers z).map nV).length = ways z := by
          unfold movers
          rw [List.length_map, List.length_map]
          exact pref_all z hz
        exact absurd hn' (by omega)
    · rw [dec_str] at e
      have hz : z = goal z := by
        refine cps_inj ?_
        cases h : decide (cps z = cps (goal z)) with
        | true => exact of_decide_eq_true h
        | false => rw [h] at e; cases e
      rw [wl_goal hz] at hw
      have hr0 : rest = [] := by
        cases n with
        | zero => exact (Option.some.inj hw).symm
        | succ n => simp at hw
      rw [hr0, List.append_nil] at hpr
      subst hpr
      exact ⟨.ref fl, rfl, q H2 fl (s1.trans s2) nfl0 (s2 _ _ hfl)⟩
end
end PP

/-! ### way_by -/
namespace PP
open PySem PySem.Spec PyProof.Rows L2 SX PR PL
section
variable {P : Program} {w : World} {K : PySem.W.Frag} {mg : Str → Option Value} {base : Heap}
theorem sc_wayby : FnScope ["standing", "number"] ["standing", "number"] (defScope s_way_by) := ⟨rfl, rfl, rfl, by decide +kernel, rfl, by decide +kernel, by decide +kernel⟩
theorem c_wayby (D : Df K mg "way_by" s_way_by ["standing", "number"]) (ca : Cal P w K mg base 2 "asked_small" spSmall) (ch : Cal P w K mg base 1 "is_whole" (spWhole K)) (cw : Cal P w K mg base 26 "ways_of" (spWays 24)) (cy : Cal P w K mg base 27 "way_of" spWayOf) :
    Cal P w K mg base 28 "way_by" spWayOf := by
  refine cal_of D sc_wayby (fun vs H Q E h => ?_) (fun f cdv A outer s H vs Q E hr h => ?_)
  · obtain ⟨z, n, wy, rfl, _⟩ := h
    rfl
  · obtain ⟨z, n, wy, rfl, hp, hw, q⟩ := h
    have hnlt : n < ways z := (List.getElem?_eq_some_iff.mp hw).1
    refine ⟨_, pss_cons (ps_expr (pe_c ca hr (by decide) (by rfl) (pa_cons (pv 0) pa_nil)))
      (pss_cons (ps_if (PW.pt (pw_or (pt_not (pt_val (pe_c ch hr (by decide) (by rfl) (pa_cons (pv 1) pa_nil)))) (pw_or1 (pt_not (pt_chain op_le op_lt pe_int (pv 1) (pe_c cw hr (by decide) (by rfl) (pa_cons (pv 0) (pa_cons pe_dnewK pa_nil)))))))) (pss_one ps_never) pss_nil)
      (pss_one (ps_ret (pe_c cy hr (by decide) (by rfl) (pa_cons (pv 0) (pa_cons (pv 1) pa_nil)))))), ?_⟩
    refine ⟨tx z, rfl, z, rfl, hp, fun H1 s1 => ?_⟩
    refine ⟨nV n, rfl, nV n, "int", true, false, rfl, .base (.int _), by decide +kernel, by decide +kernel, _, rfl, ifF rfl ?_⟩
    refine ⟨nV n, rfl, _, _, rfl, rfl, _, rfl, ifT (decide_eq_true (by omega)) ?_⟩
    refine ⟨tx z, rfl, fun d nd => ⟨z, d, rfl, hp, mleft_le9 hp, kn_new upd_same, fun H2 s2 _ => ⟨_, _, rfl, rfl, _, rfl, ifF ?_ ?_⟩⟩⟩
    · rw [decide_eq_true (show (n : Int) < (ways z : Nat) by omega)]
      rfl
    · have st2 := s1.trans (s2.same nd)
      exact ⟨tx z, rfl, nV n, rfl, z, n, wy, rfl, hp, hw, fun H3 p s3 np hl => q H3 p (st2.trans s3) (st2.free np) hl⟩
end
end PP

/-! ### own classes: methods by name, making; Leads and Never as the top has left them -/
namespace PP
open PySem PySem.Spec PyProof.Rows L2 SX PR PL
section
variable {P : Program} {w : World} {K : PySem.W.Frag} {mg : Str → Option Value} {base : Heap}
/-- a method of the text -/
structure Dm (K : PySem.W.Frag) (C : Addr) (m qual : Str) (st : Stmt) (ps : List Str) : Prop where
  ex : ∃ (f : Addr) (fd : FuncData), L2.Fun K m qual st f fd ∧ Binds K fd ps [] ∧ Meth K C m f
/-- .. that keeps sp -/
structure Mtd (P : Program) (w : World) (K : PySem.W.Frag) (mg : Str → Option Value) (base : Heap) (k : Nat) (C : Addr) (m : Str) (sp : Sp) : Prop where
  ex : ∃ (f : Addr) (fd : FuncData) (ps : List Str), FnOk P w K mg base L2.CX0 k f fd ps sp ∧ Meth K C m f ∧ Binds K fd ps []
theorem mtd_of {C : Addr} {m qual : Str} {st : Stmt} {N ps : List Str} {k : Nat} {sp : Sp} (D : Dm K C m qual st ps) (S : FnScope N ps (defScope st)) (len : ∀ vs H Q E, sp vs H Q E → vs.length = ps.length)
    (hbody : ∀ (f : Addr) (cdv : Value) (A : Around) (outer : List Env) (s : Shared) (H : Hp) (vs : List V) (Q : VK) (E : XK), Room k (A.deeper (envOfC qual (defScope st) s.heap.objs.size f cdv)) → sp vs H Q E →
      ∃ t, PSs (cxOf L2.CX0 P w K mg base N qual (defScope st) f cdv A outer s H E).nox (defBody st) t ∧ t { nx := fun _ H' => Q .non H', rt := Q } (start N vs) H) : Mtd P w K mg base (k + 1) C m sp := by
  obtain ⟨f, fd, F, b, g⟩ := D.ex
  exact ⟨f, fd, ps, F.ok S len (hbody f), g, b⟩
/-- a class by its name that may be made, its __init__ keeps sp -/
structure Mkr (P : Program) (w : World) (K : PySem.W.Frag) (mg : Str → Option Value) (base : Heap) (k : Nat) (x : Str) (C : Addr) (sp : Sp) : Prop where
  ex : ∃ (f : Addr) (fd : FuncData) (ps : List Str), FnOk P w K mg base L2.CX0 k f fd ps sp ∧ Mk K C f ∧ mg x = some (.ref C) ∧ Binds K fd ps []
/-- the class's __init__ as it stands -/
structure Di (K : PySem.W.Frag) (mg : Str → Option Value) (x : Str) (C : Addr) (qual : Str) (st : Stmt) (ps : List Str) : Prop where
  ex : ∃ (f : Addr) (fd : FuncData), L2.Fun K "__init__" qual st f fd ∧ Binds K fd ps [] ∧ Mk K C f ∧ mg x = some (.ref C)
theorem mkr_of {x : Str} {C : Addr} {qual : Str} {st : Stmt} {N ps : List Str} {k : Nat} {sp : Sp} (D : Di K mg x C qual st ps) (S : FnScope N ps (defScope st)) (len : ∀ vs H Q E, sp vs H Q E → vs.length = ps.length)
    (hbody : ∀ (f : Addr) (cdv : Value) (A : Around) (outer : List Env) (s : Shared) (H : Hp) (vs : List V) (Q : VK) (E : XK), Room k (A.deeper (envOfC qual (defScope st) s.heap.objs.size f cdv)) → sp vs H Q E →
      ∃ t, PSs (cxOf L2.CX0 P w K mg base N qual (defScope st) f cdv A outer s H E).nox (defBody st) t ∧ t { nx := fun _ H' => Q .non H', rt := Q } (start N vs) H) : Mkr P w K mg base (k + 1) x C sp := by
  obtain ⟨f, fd, F, b, M, g⟩ := D.ex
  exact ⟨f, fd, ps, F.ok S len (hbody f), M, g, b⟩
theorem cls_some {K : PySem.W.Frag} {D : Addr} {b : Value} {r : Bool} (h : PySem.W.mroIn K D b = some r) : (PySem.W.clsIn K D).isSome = true := by
  unfold PySem.W.mroIn at h
  cases e : PySem.W.clsIn K D with
  | none => rw [e] at h; cases h
  | some _ => rfl
theorem kit_self {K : PySem.W.Frag} {C : Addr} : PySem.W.kitOne K (.ref C) (.ref C) = some true := if_pos (beq_self_eq_true _)
theorem kit_own {K : PySem.W.Frag} {C D : Addr} {b : Bool} (ht : PySem.W.typeIn K (.ref D) = some (.type "type")) (hc : PySem.W.mroIn K D (.type "object") = some true) (hs : PySem.W.subIn K (.ref C) (.ref D) = some b) (hd : PySem.W.subIn K (.ref D) (.ref D) = some true) : PySem.W.kitOne K (.ref C) (.ref D) = some b := by
  by_cases e : C = D
  · subst e
    rw [hd] at hs
    rw [← hs]
    exact kit_self
  · have hn : ((Value.ref C == Value.ref D)) = false := by simpa using e
    unfold PySem.W.kitOne
    rw [hn]
    show (if ((PySem.W.clsIn K D).isSome && PySem.W.typeIn K (.ref D) == some (.type "type")) = true then PySem.W.subIn K (.ref C) (.ref D) else none) = some b
    rw [cls_some hc, ht, if_pos (by simp)]
    exact hs
/-- Answer, Leads, Never as the top has left them -/
structure Ans (K : PySem.W.Frag) (mg : Str → Option Value) (A L N : Addr) : Prop where
  iL : C8.InsC K L
  iN : C8.InsC K N
  mA : mg "Answer" = some (.ref A)
  mL : mg "Leads" = some (.ref L)
  mN : mg "Never" = some (.ref N)
  noP : NoAttr K L "pads"
  mkN : Mk0 K N
  LA : PySem.W.kitOne K (.ref L) (.ref A) = some true
  NA : PySem.W.kitOne K (.ref N) (.ref A) = some true
  LN : PySem.W.kitOne K (.ref L) (.ref N) = some false
  NL : PySem.W.kitOne K (.ref N) (.ref L) = some false
end
section
variable {X : Cx} {k j : Nat} {C : Addr} {x m : Str} {sp : Sp} {p pos apos : Pos} {e o : Expr} {es : List Expr} {t : TA} {ta : TE}
theorem pe_m {pl : Sem Bool} (he : PE X o ta) (cl : Cls X.K C) (c : Mtd X.prog X.w X.K X.mg X.base k C m sp) (hr : Room j X.A) (hk : k ≤ j) (ha : PA X (e :: es) t)
    (hst : starEach (e :: es) X.env = (false, eval e X.env) :: starEach es X.env := by rfl) (hpl : (backTo pos (starEach es X.env)).any (·.1) = false := by rfl)
    (ht : eval (.Call (.Attribute o m apos) (e :: es) [] pos) X.env = (do
      let ov ← eval o X.env
      standAt apos.atName
      let (f, first) ← holding [ov] (getMethod ov m pl)
      callWith pos f first (backTo pos (starEach (e :: es) X.env)) (backToKw pos (keywordEach [] X.env))) := by rfl) :
    PE X (.Call (.Attribute o m apos) (e :: es) [] pos) (tMeth C m sp [] L2.E0 ta t) := by
  obtain ⟨f, fd, ps, F, M, b⟩ := c.ex
  exact pe_meth (pl := pl) he cl M F (hr.mono hk) b .nil L2.pass0 ha hst hpl ht
theorem pe_mkr (c : Mkr X.prog X.w X.K X.mg X.base k x C sp) (hr : Room j X.A) (hk : k + 1 ≤ j) (hg : Gl X x) (ha : PA X (e :: es) t)
    (hdb : (x == ("__debug__" : Str)) = false := by decide) (he : starEach (e :: es) X.env = (false, eval e X.env) :: starEach es X.env := by rfl) (hpl : (backTo pos (starEach es X.env)).any (·.1) = false := by rfl) :
    PE X (.Call (.Name x p) (e :: es) [] pos) (tMake C sp [] L2.E0 t) := by
  obtain ⟨f, fd, ps, F, M, hm, b⟩ := c.ex
  exact pe_make M F (hr.mono hk) hg hm b .nil L2.pass0 ha hdb he hpl
/-- isinstance(e, C), C an own class -/
theorem pe_isO {a : Expr} {y : Str} {p1 p2 : Pos} (h1 : X.mg "isinstance" = none) (h2 : X.mg y = some (.ref C)) (g1 : Gl X "isinstance") (g2 : Gl X y) (ha : PE X a ta)
    (hd : (y == ("__debug__" : Str)) = false := by decide)
    (s1 : starEach [a, .Name y p2] X.env = (false, eval a X.env) :: starEach [.Name y p2] X.env := by rfl) (s2 : starEach [.Name y p2] X.env = (false, eval (.Name y p2) X.env) :: starEach [] X.env := by rfl) (hpl : (backTo pos (starEach [.Name y p2] X.env)).any (·.1) = false := by rfl) :
    PE X (.Call (.Name "isinstance" p1) [a, .Name y p2] [] pos) (tCB (rIsi X.K) (tCons ta (tCons (tC (.ref C)) tNil))) :=
  pe_callB call_isi g1 h1 (by decide +kernel) (pa_cons ha (pa_cons (pe_glob (v := .ref C) g2 h2 rfl hd) pa_nil s2) s1) (he := s1) (hpl := hpl)
end
section
variable {P : Program} {w : World} {K : PySem.W.Frag} {mg : Str → Option Value} {base : Heap}
theorem InsC.ty {C a dx : Addr} {H : Hp} {fs : List (Str × V)} (c : C8.InsC K C) (h : H a = some (.ins C dx fs)) : TyX K H (.ref a) (.ref C) := .base (.ins h c.cl c.ha c.hn c.htk c.hm)
/-- a Leads stands at p, its field at q -/
abbrev fP (q : Addr) : List (Str × V) := [("pads", .ref q)]
theorem no_shows (q : Addr) : (fP q).lookup ("shows" : Str) = none := by
  have h : (("shows" : Str) == ("pads" : Str)) = false := by decide +kernel
  show (match ("shows" : Str) == ("pads" : Str) with | true => some (V.ref q) | false => List.lookup ("shows" : Str) ([] : List (Str × V))) = none
  rw [h]
  rfl
def spInitL (K : PySem.W.Frag) (L : Addr) : Sp := fun vs H Q _ => ∃ (p dx a : Addr) (xs : List V), vs = [.ref p, .ref a] ∧ H p = some (.ins L dx []) ∧ SqL K H a xs ∧ ∀ q, H q = none → Q .non (upd (upd H q (.lst xs)) p (.ins L dx (fP q)))
theorem sc_initL : FnScope ["self", "pads"] ["self", "pads"] (defScope s_Leads_init) := ⟨rfl, rfl, rfl, by decide +kernel, rfl, by decide +kernel, by decide +kernel⟩
theorem c_initL {A L N : Addr} (Y : Ans K mg A L N) (T : Bl mg) (D : Di K mg "Leads" L "Leads.__init__" s_Leads_init ["self", "pads"]) : Mkr P w K mg base 1 "Leads" L (spInitL K L) := by
  refine mkr_of D sc_initL (fun vs H Q E h => ?_) (fun f cdv A outer s H vs Q E hr h => ?_)
  · obtain ⟨p, dx, a, xs, rfl, _⟩ := h
    rfl
  · obtain ⟨p, dx, a, xs, rfl, hp, hS, q⟩ := h
    refine ⟨_, pss_one (ps_fld (pv 0) (pe_callTy call_list_of (by rfl) T.list (by decide +kernel) (pa_cons (pv 1) pa_nil)) rfl), ?_⟩
    refine ⟨.ref a, rfl, a, xs, rfl, .inl hS, fun l nl => ⟨.ref p, rfl, p, L, dx, [], rfl, ?_, Y.iL.cl, Y.noP, (by show 0 < 1000; decide), q l nl⟩⟩
    rw [upd_ne (ne_of_none hp nl)]
    exact hp
theorem int_at {ns : List Int} {i : Nat} {x : V} (h : (ns.map V.int)[i]? = some x) : ∃ n, x = .int n ∧ ns[i]? = some n := by
  rw [List.getElem?_map] at h
  cases e : ns[i]? with
  | none => rw [e] at h; cases h
  | some n => rw [e] at h; exact ⟨n, (Option.some.inj h).symm, rfl⟩
end
end PP

/-! ### the answers' own words -/
namespace PP
open PySem PySem.Spec PyProof.Rows L2 SX PR PL
section
variable {P : Program} {w : World} {K : PySem.W.Frag} {mg : Str → Option Value} {base : Heap}
def spShowsL (K : PySem.W.Frag) (L : Addr) : Sp := fun vs H Q _ => ∃ (p dx q : Addr) (ns : List Int) (z : Zp), vs = [.ref p, tx z] ∧ pads z ≤ 60 ∧ H p = some (.ins L dx (fP q)) ∧ SqL K H q (ns.map V.int) ∧ ∀ H', Same H H' → Q (.bl (leadsB z ns)) H'
theorem sc_showsL : FnScope ["self", "standing", "here", "pad"] ["self", "standing"] (defScope s_Leads_shows) := ⟨rfl, rfl, rfl, by decide +kernel, rfl, by decide +kernel, by decide +kernel⟩
theorem c_showsL {A L N : Addr} (Y : Ans K mg A L N) (D : Dm K L "shows" "Leads.shows" s_Leads_shows ["self", "standing"]) (cg : Cal P w K mg base 1 "goal_of" spGoal) (cm : Cal P w K mg base 1 "movers" spMovers) (cb : Cal P w K mg base 1 "behind" spBehind) : Mtd P w K mg base 2 L "shows" (spShowsL K L) := by
  refine mtd_of D sc_showsL (fun vs H Q E h => ?_) (fun f cdv A outer s H vs Q E hr h => ?_)
  · obtain ⟨p, dx, q, ns, z, rfl, _⟩ := h
    rfl
  · obtain ⟨p, dx, qa, ns, z, rfl, hz, hp, hS, q⟩ := h
    have nd := sc_showsL.nd
    refine ⟨_, pss_cons (ps_set (i := 2) nd rfl (.inl rfl) (pv 1))
      (pss_cons (ps_for PassesOwn.never rfl (pi_list (pe_fld (pv 0) rfl)) (pg_name (i := 3) nd rfl (.inl rfl))
        (pss_cons (ps_if (pt_cmpR op_notIn_seq (pv 3) (pe_c cm hr (by decide) (by rfl) (pa_cons (pv 2) pa_nil)) (by rfl)) (pss_one (ps_ret pe_bl)) pss_nil)
        (pss_one (ps_set (i := 2) nd rfl (.inl rfl) (pe_c cb hr (by decide) (by rfl) (pa_cons (pv 2) (pa_cons (pv 3) pa_nil)))))))
      (pss_one (ps_ret (pe_cmpR op_eq (pv 2) (pe_c cg hr (by decide) (by rfl) (pa_cons (pv 1) pa_nil)) (nomark _))))), ?_⟩
    refine ⟨tx z, rfl, .ref p, rfl, p, L, dx, _, _, rfl, hp, Y.iL.cl, Y.noP, rfl, qa, rfl, ⟨_, hS⟩, for_list (K := K) (a := qa) (xs := ns.map V.int) (fun i σ H' => ∃ (y : Zp) (y3 : Option V), σ = [some (.ref p), some (tx z), some (tx y), y3] ∧ runI z (ns.take i) = some y ∧ Same H H')
      ⟨z, none, rfl, rfl, Same.refl _⟩ (fun i σ H' _ ⟨_, _, _, _, sx⟩ => sx.seq hS) ?_ ?_⟩
    · rintro i x σ H1 hx ⟨y, y3, rfl, hrun, s1⟩
      obtain ⟨n, rfl, hn⟩ := int_at hx
      obtain ⟨_, hpy⟩ := runI_same _ hrun
      refine ⟨.int n, rfl, tx y, rfl, y, rfl, by omega, fun H2 m s2 nm hm => ⟨m, (movers y).map nV, rfl, .inl (SqL.of hm), rfl, flat_nV _, _, rfl, ?_⟩⟩
      have ein : inV (.int n) ((movers y).map nV) = (stepI y n).isSome := by rw [in_nV, stepI_isSome]
      refine ifB (fun e => ?_) (fun e => ?_)
      · have e' : (stepI y n).isSome = false := by
          rw [← ein]
          simpa using e
        have hs : stepI y n = none := by
          cases h : stepI y n with
          | none => rfl
          | some _ => rw [h] at e'; cases e'
        rw [leadsB_stop hrun hn hs] at q
        exact q H2 (s1.trans s2)
      · have e' : (stepI y n).isSome = true := by
          rw [← ein]
          simpa using e
        obtain ⟨y', hs⟩ := Option.isSome_iff_exists.mp e'
        obtain ⟨pd, en, hy'⟩ := stepI_mem hs
        subst en
        refine ⟨tx y, rfl, nV pd, rfl, y, pd, y', rfl, hy', by omega, fun H3 s3 => ⟨y', _, rfl, ?_, s1.trans (s2.trans s3)⟩⟩
        rw [runI_turn hrun hn, hs]
    · rintro σ H1 ⟨y, y3, rfl, hrun, s1⟩
      rw [List.length_map, List.take_length] at hrun
      refine ⟨tx y, rfl, tx z, rfl, z, rfl, hz, fun H2 s2 => ⟨rfl, ?_⟩⟩
      have eb : decide (tx y = tx (goal z)) = leadsB z ns := by
        rw [leadsB_end hrun, dec_str]
        by_cases h : y = goal z
        · rw [decide_eq_true (congrArg cps h), decide_eq_true h]
        · rw [decide_eq_false fun e => h (cps_inj e), decide_eq_false h]
      rw [← eb] at q
      exact q H2 (s1.trans s2)
def spShowsN (N : Addr) : Sp := fun vs H Q _ => ∃ (p : Addr) (z : Zp), vs = [.ref p, tx z] ∧ pads z ≤ 9 ∧ ∀ H', Same H H' → Q (.bl (decide (ways z = 0))) H'
theorem sc_showsN : FnScope ["self", "standing"] ["self", "standing"] (defScope s_Never_shows) := ⟨rfl, rfl, rfl, by decide +kernel, rfl, by decide +kernel, by decide +kernel⟩
theorem c_showsN {N : Addr} (D : Dm K N "shows" "Never.shows" s_Never_shows ["self", "standing"]) (cw : Cal P w K mg base 26 "ways_of" (spWays 24)) : Mtd P w K mg base 27 N "shows" (spShowsN N) := by
  refine mtd_of D sc_showsN (fun vs H Q E h => ?_) (fun f cdv A outer s H vs Q E hr h => ?_)
  · obtain ⟨p, z, rfl, _⟩ := h
    rfl
  · obtain ⟨p, z, rfl, hz, q⟩ := h
    refine ⟨_, pss_one (ps_ret (pe_cmpR op_eq (pe_c cw hr (by decide) (by rfl) (pa_cons (pv 1) (pa_cons pe_dnewK pa_nil))) pe_int (nomark _))), ?_⟩
    refine ⟨tx z, rfl, fun d nd => ⟨z, d, rfl, hz, mleft_le9 hz, kn_new upd_same, fun H2 s2 _ => ⟨rfl, ?_⟩⟩⟩
    have eb : decide (nV (ways z) = V.int 0) = decide (ways z = 0) := by
      by_cases h : ways z = 0
      · rw [decide_eq_true h, h]; rfl
      · rw [decide_eq_false h, decide_eq_false fun e => h (by have := V.int.inj e; omega)]
    rw [← eb] at q
    exact q H2 (s2.same nd)
end
end PP

/-! ### led -/
namespace PP
open PySem PySem.Spec PyProof.Rows L2 SX PR PL
section
variable {P : Program} {w : World} {K : PySem.W.Frag} {mg : Str → Option Value} {base : Heap}
def spLed (L N : Addr) : Sp := fun vs H Q _ => ∃ z : Zp, vs = [tx z] ∧ pads z ≤ 9 ∧
  (∀ H' p dx q wy, (wl z)[0]? = some wy → Same H H' → H p = none → H q = none → p ≠ q → H' p = some (.ins L dx (fP q)) → H' q = some (.lst (wy.map nV)) → Q (.ref p) H') ∧
  (ways z = 0 → ∀ H' p dx, Same H H' → H p = none → H' p = some (.ins N dx []) → Q (.ref p) H')
theorem sc_led : FnScope ["standing"] ["standing"] (defScope s_led) := ⟨rfl, rfl, rfl, by decide +kernel, rfl, by decide +kernel, by decide +kernel⟩
theorem c_led {A L N : Addr} (Y : Ans K mg A L N) (D : Df K mg "led" s_led ["standing"]) (ca : Cal P w K mg base 2 "asked_small" spSmall) (cw : Cal P w K mg base 26 "ways_of" (spWays 24)) (cy : Cal P w K mg base 27 "way_of" spWayOf) (ci : Mkr P w K mg base 1 "Leads" L (spInitL K L)) :
    Cal P w K mg base 28 "led" (spLed L N) := by
  refine cal_of D sc_led (fun vs H Q E h => ?_) (fun f cdv A outer s H vs Q E hr h => ?_)
  · obtain ⟨z, rfl, _⟩ := h
    rfl
  · obtain ⟨z, rfl, hp, qL, qN⟩ := h
    refine ⟨_, pss_cons (ps_expr (pe_c ca hr (by decide) (by rfl) (pa_cons (pv 0) pa_nil)))
      (pss_one (ps_ret (pe_ifExp (pt_cmpR op_gt (pe_c cw hr (by decide) (by rfl) (pa_cons (pv 0) (pa_cons pe_dnewK pa_nil))) pe_int (nomark _))
        (pe_mkr ci hr (by decide) (by rfl) (pa_cons (pe_c cy hr (by decide) (by rfl) (pa_cons (pv 0) (pa_cons pe_int pa_nil))) pa_nil)) (pe_makeO Y.mkN (by rfl) Y.mN)))), ?_⟩
    refine ⟨tx z, rfl, z, rfl, hp, fun H1 s1 => ⟨tx z, rfl, fun d nd => ⟨z, d, rfl, hp, mleft_le9 hp, kn_new upd_same, fun H2 s2 _ => ⟨_, _, rfl, rfl, _, rfl, ifB (fun e => ?_) (fun e => ?_)⟩⟩⟩⟩
    · have hpos : 0 < ways z := by have := of_decide_eq_true e; omega
      obtain ⟨wy, hwy⟩ := ways_lt hpos
      have st2 := s1.trans (s2.same nd)
      refine ⟨tx z, rfl, z, 0, wy, rfl, hp, hwy, fun H3 a s3 na ha => ?_⟩
      intro x dx nx ndx nex
      have sx : Same H3 (upd (upd H3 dx (.own x)) x (.ins L dx [])) := (same_upd ndx).trans (same_upd (by rw [upd_ne nex.symm]; exact nx))
      refine ⟨x, dx, a, _, rfl, upd_same, SqL.of (sx _ _ ha), fun qa nq => ⟨rfl, ?_⟩⟩
      have st3 := st2.trans (s3.trans sx)
      have nxq : x ≠ qa := fun e => by rw [← e, upd_same] at nq; cases nq
      refine qL _ x dx qa wy hwy ?_ ((st2.trans s3).free nx) (st3.free nq) nxq upd_same ?_
      · exact same_upd2 (same_upd2 st3 (st3.free nq)) ((st2.trans s3).free nx)
      · rw [upd_ne nxq.symm, upd_same]
    · have h0 : ways z = 0 := by have := of_decide_eq_false e; omega
      have st2 := s1.trans (s2.same nd)
      intro x dx nx ndx nex
      have sx : Same H2 (upd (upd H2 dx (.own x)) x (.ins N dx [])) := (same_upd ndx).trans (same_upd (by rw [upd_ne nex.symm]; exact nx))
      exact qN h0 _ x dx (st2.trans sx) (st2.free nx) upd_same
end
end PP

/-! ### lists of texts compared; a dict that keeps standings -/
namespace PP
open PySem PySem.Spec PyProof.Rows L2 SX PR PL
section
variable {K : PySem.W.Frag} {H : Hp}
abbrev dT (l : List Zp) : PyData := .list (l.map fun z => PyData.str (S (cps z)))
theorem dpAll_T : ∀ l : List Zp, DpAll K H (l.map tx) (l.map fun z => PyData.str (S (cps z)))
  | [] => .nil
  | z :: r => .cons (.str _) (dpAll_T r)
theorem dp_T {p : Addr} {l : List Zp} (h : H p = some (.lst (l.map tx))) : Dp K H (.ref p) (dT l) := .lst (SqL.of h) (dpAll_T l)
theorem strOk_z (z : Zp) : PyData.strOk (S (cps z)) = true := by
  unfold PyData.strOk
  rw [← Array.all_toList]
  refine List.all_eq_true.mpr fun c hc => ?_
  have hc' : c ∈ cps z := by simpa using hc
  rcases sgs_cps z c hc' with e | e | e <;> (rw [e]; decide)
theorem canLay_T : ∀ l : List Zp, PyData.canLayAll0 (l.map fun z => PyData.str (S (cps z))) = true
  | [] => rfl
  | z :: r => by
    have h1 := canLay_T r
    have h2 := strOk_z z
    simp [PyData.canLayAll0, PyData.canLay0, h1, h2]
theorem depth_T : ∀ l : List Zp, PyData.depthAll (l.map fun z => PyData.str (S (cps z))) ≤ 1
  | [] => by simp [PyData.depthAll]
  | z :: r => by
    have h1 := depth_T r
    simp [PyData.depthAll, PyData.depth]
    omega
theorem shaped_T (l : List Zp) : SeqAt.shaped (dT l) = true := by
  unfold SeqAt.shaped
  rw [Bool.and_eq_true]
  refine ⟨?_, decide_eq_true ?_⟩
  · simpa [PyData.canLay0] using canLay_T l
  · have := depth_T l
    simp [PyData.depth]
    omega
theorem S_eq (a b : List Nat) : (S a == S b) = decide (a = b) := by
  by_cases h : a = b
  · subst h; simp
  · rw [decide_eq_false h]
    exact beq_eq_false_iff_ne.mpr fun e => h (S_inj e)
theorem eqvAll_T : ∀ l m : List Zp, PyData.eqvAll (l.map fun z => PyData.str (S (cps z))) (m.map fun z => PyData.str (S (cps z))) = decide (l = m)
  | [], [] => by simp [PyData.eqvAll]
  | [], n :: r => by simp [PyData.eqvAll]
  | m :: r, [] => by simp [PyData.eqvAll]
  | y :: r, z :: q => by
    have ih := eqvAll_T r q
    simp only [List.map_cons, PyData.eqvAll, PyData.eqv, ih, S_eq]
    by_cases h1 : y = z
    · subst h1
      by_cases h2 : r = q <;> simp [h2]
    · have : ¬ cps y = cps z := fun e => h1 (cps_inj e)
      simp [h1, this]
theorem eqv_T (l m : List Zp) : PyData.eqv (dT l) (dT m) = decide (l = m) := by
  rw [PyData.eqv]
  exact eqvAll_T l m
/-- the dict that found is -/
abbrev kd (fs : List Zp) : List (Key × V) := fs.map fun y => (kz y, V.bl true)
theorem kd_in {fs : List Zp} {x : Zp} (h : x ∈ fs) : valV (kd fs) (kz x) = some (.bl true) := by
  unfold valV
  cases e : (kd fs).find? (fun kv => decide (kv.1 = kz x)) with
  | none =>
    have := List.find?_eq_none.mp e (kz x, V.bl true) (List.mem_map.mpr ⟨x, h, rfl⟩)
    simp at this
  | some kv =>
    obtain ⟨y, _, ey⟩ := List.mem_map.mp (List.mem_of_find?_eq_some e)
    rw [← ey]
    rfl
theorem kd_out {fs : List Zp} {x : Zp} (h : x ∉ fs) : valV (kd fs) (kz x) = none := by
  unfold valV
  have e : (kd fs).find? (fun kv => decide (kv.1 = kz x)) = none := by
    refine List.find?_eq_none.mpr fun kv hkv => ?_
    obtain ⟨y, hy, ey⟩ := List.mem_map.mp hkv
    rw [← ey]
    have : ¬ kz y = kz x := fun e => h (kz_inj e ▸ hy)
    simp [this]
  rw [e]
  rfl
theorem kd_put {fs : List Zp} {x : Zp} (h : x ∉ fs) : putK (kd fs) (kz x) (.bl true) = kd (fs ++ [x]) := by
  rw [putK_new _ (kd_out h)]
  show _ = (fs ++ [x]).map _
  rw [List.map_append]
  rfl
theorem snoc_cases {α : Type} (l : List α) (h : l ≠ []) : ∃ m x, l = m ++ [x] := by
  refine ⟨l.dropLast, l.getLast h, ?_⟩
  exact (List.dropLast_concat_getLast h).symm
theorem movers_nil (y : Zp) : movers y = [] ↔ next y = [] := by
  unfold movers
  exact List.map_eq_nil_iff
theorem tx_at {ws : List Zp} {i : Nat} {x : V} (hx : (ws.map tx)[i]? = some x) : ∃ y, ws[i]? = some y ∧ x = tx y := by
  rw [List.getElem?_map] at hx
  cases e : ws[i]? with
  | none => rw [e] at hx; cases hx
  | some u => rw [e] at hx; exact ⟨u, rfl, (Option.some.inj hx).symm⟩
theorem flat_tx (ws : List Zp) : (ws.map tx).all flatV = true := by
  rw [List.all_map]
  exact List.all_eq_true.mpr fun _ _ => rfl
theorem in_tx {x : Zp} {ws : List Zp} (h : x ∈ ws) : inV (tx x) (ws.map tx) = true := by
  unfold inV
  rw [List.any_map]
  refine List.any_eq_true.mpr ⟨x, h, ?_⟩
  show eqV (tx x) (tx x) = true
  simp [eqV]
end
end PP

/-! ### come_by_all, come_by, stuck -/
namespace PP
open PySem PySem.Spec PyProof.Rows L2 SX PR PL
section
variable {P : Program} {w : World} {K : PySem.W.Frag} {mg : Str → Option Value} {base : Heap}
def spAll : Sp := fun vs H Q _ => ∃ z : Zp, vs = [tx z] ∧ pads z ≤ 9 ∧ ∀ H' p ws, Same H H' → H p = none → IsRch z ws → (ws.map cps).Pairwise (· < ·) → H' p = some (.lst (ws.map tx)) → Q (.ref p) H'
abbrev nmAll : List Str := ["standing", "found", "line", "here", "pad", "there"]
theorem sc_comeall : FnScope nmAll ["standing"] (defScope s_come_by_all) := ⟨rfl, rfl, rfl, by decide +kernel, rfl, by decide +kernel, by decide +kernel⟩
theorem big4097 {n : Nat} (h : n ≤ 4097) : n < sizeLine := Nat.lt_of_le_of_lt h (by decide)
theorem c_comeall (D : Df K mg "come_by_all" s_come_by_all ["standing"]) (T : Bl mg) (cm : Cal P w K mg base 1 "movers" spMovers) (cb : Cal P w K mg base 1 "behind" spBehind) : Cal P w K mg base 2 "come_by_all" spAll := by
  refine cal_of D sc_comeall (fun vs H Q E h => ?_) (fun f cdv A outer s H vs Q E hr h => ?_)
  · obtain ⟨z, rfl, _⟩ := h
    rfl
  · obtain ⟨z, rfl, hz, q⟩ := h
    have nd := sc_comeall.nd
    refine ⟨_, (pss_cons (ps_par (i := 1) (j := 2) (by rfl) nd rfl rfl (by decide) rfl rfl (pa_cons (pe_disp (pps_cons (pv 0) pe_bl pps_nil) (by rfl) (by rfl) (fun z => by cases z) (by decide)) (pa_cons (pe_lst (pa_cons (pv 0) pa_nil)) pa_nil)) (by rfl))
      (pss_cons (ps_while PassesOwn.never (pt_cmpR (op_neD hr.units) (pv 2) (pe_lst pa_nil) (nomark _))
      (pss_cons (ps_set (i := 3) nd rfl (.inl rfl) (pe_bm0 PySem.F.plainAttrs_list PySem.F.slot_list_pop PySem.F.type_list_pop mt_pop (pv 2)))
      (pss_one (ps_for PassesOwn.never rfl (pi_list (pe_c cm hr (by decide) (by rfl) (pa_cons (pv 3) pa_nil))) (pg_name (i := 4) nd rfl (.inl rfl))
      (pss_cons (ps_set (i := 5) nd rfl (.inl rfl) (pe_c cb hr (by decide) (by rfl) (pa_cons (pv 3) (pa_cons (pv 4) pa_nil))))
      (pss_one (ps_if (pt_cmp (pc_dnotin (hu_of hr) (pv 5) (pv 1)))
      (pss_cons (ps_dput (hu_of hr) (pv 1) (pv 5) pe_bl rfl)
      (pss_one (ps_expr (pe_bm PySem.F.plainAttrs_list PySem.F.slot_list_append PySem.F.type_list_append mt_append (pv 2) (pa_cons (pv 5) pa_nil)))))
      pss_nil)))))))
      (pss_one (ps_ret (pe_callB cr_sortedT (by rfl) T.sorted (by decide +kernel) (pa_cons (pe_callTy (call_listD rfl) (by rfl) T.list (by decide +kernel) (pa_cons (pv 1) pa_nil)) pa_nil)))))), ?_⟩
    intro d nd1
    refine ⟨tx z, rfl, upd_same, [(kz z, V.bl true)], rfl, (by show 1 ≤ 15; decide), ?_⟩
    generalize e1 : upd (upd H d _) d _ = H1
    have s1 : Same H H1 := by rw [← e1]; exact same_upd2 (same_upd nd1) nd1
    have hd1 : H1 d = some (.dK (kd [z])) := by rw [← e1]; exact upd_same
    refine ⟨tx z, rfl, (by show 1 ≤ sizeLine; decide), fun l nl => ⟨_, _, rfl, ?_⟩⟩
    have nl0 : H l = none := s1.free nl
    have ndl : d ≠ l := ne_of_none hd1 nl
    let W : Nat → L2.St → Hp → Prop := fun m σ H' => ∃ (fs ln : List Zp) (y3 y4 y5 : Option V), m = 2 * (4097 - fs.length) + ln.length ∧ σ = [some (tx z), some (.ref d), some (.ref l), y3, y4, y5] ∧ H' d = some (.dK (kd fs)) ∧ H' l = some (.lst (ln.map tx)) ∧ Sk z fs ln ∧ Same H H'
    refine ⟨W, ⟨_, [z], [z], none, none, none, rfl, rfl, by rw [upd_ne ndl]; exact hd1, upd_same, Sk.start z, same_upd2 s1 nl0⟩, ?_⟩
    rintro m σ H2 ⟨fs, ln, y3, y4, y5, rfl, rfl, hd2, hl2, sk, s2⟩
    refine ⟨.ref l, rfl, Nat.zero_le _, fun e ne => ⟨dT ln, dT [], dp_T ((same_upd ne) _ _ hl2), dp_T upd_same, shaped_T _, shaped_T _, _, rfl, ifB (fun e1 => ?_) (fun e1 => ?_)⟩⟩
    · rw [eqv_T] at e1
      have hne : ln ≠ [] := by simpa using e1
      obtain ⟨ln0, h, rfl⟩ := snoc_cases ln hne
      generalize e3 : upd H2 e _ = H3
      have s23 : Same H2 H3 := by rw [← e3]; exact same_upd ne
      have hd3 := s23 _ _ hd2
      have hl3 := s23 _ _ hl2
      have s3 := s2.trans s23
      refine ⟨fun σ' H' => ∃ m', m' < 2 * (4097 - fs.length) + (ln0 ++ [h]).length ∧ W m' σ' H', fun _ _ h => h, ?_⟩
      refine ⟨.ref l, rfl, .inl ⟨rfl, _, SqL.of hl3⟩, l, _, tx h, rfl, rfl, hl3, by simp, ?_⟩
      generalize e4 : upd H3 l _ = H4
      have hl4 : H4 l = some (.lst (ln0.map tx)) := by rw [← e4, upd_same]; simp
      have hd4 : H4 d = some (.dK (kd fs)) := by rw [← e4, upd_ne ndl]; exact hd3
      have s4 : Same H H4 := by rw [← e4]; exact same_upd2 s3 nl0
      have hh9 : pads h ≤ 9 := by rw [(sk.rc h (sk.sub h (by simp))).pads]; exact hz
      refine ⟨tx h, rfl, h, rfl, by omega, fun H5 p s45 np hp => ?_⟩
      refine ⟨p, rfl, ⟨_, SqL.of hp⟩, for_list (K := K) (a := p) (xs := (movers h).map nV) (fun i σ H' => ∃ (fs' ln' : List Zp) (y4 y5 : Option V), σ = [some (tx z), some (.ref d), some (.ref l), some (tx h), y4, y5] ∧ H' d = some (.dK (kd fs')) ∧ H' l = some (.lst (ln'.map tx)) ∧ H' p = some (.lst ((movers h).map nV)) ∧ Ski z h i fs' ln' ∧ 2 * (4097 - fs'.length) + ln'.length < 2 * (4097 - fs.length) + (ln0 ++ [h]).length ∧ Same H H')
        ⟨fs, ln0, _, _, rfl, s45 _ _ hd4, s45 _ _ hl4, hp, sk.pop, by rw [List.length_append]; show _ < _ + (_ + 1); omega, s4.trans s45⟩ (fun i σ H' _ ⟨_, _, _, _, _, _, _, h, _⟩ => SqL.of h) ?_ ?_⟩
      · rintro i x σ H6 hx ⟨fs', ln', y4, y5, rfl, hd6, hl6, hp6, si, hm, s6⟩
        obtain ⟨pd, y, hq, rfl, hy⟩ := mover_ix hx
        refine ⟨tx h, rfl, nV pd, rfl, h, pd, y, rfl, hy, by omega, fun H7 s67 => ?_⟩
        have hd7 := s67 _ _ hd6
        have hl7 := s67 _ _ hl6
        have hp7 := s67 _ _ hp6
        have s7 := s6.trans s67
        have g := DGet.k (k := kz y) hd7
        by_cases hin : y ∈ fs'
        · rw [kd_in hin] at g
          exact ⟨tx y, rfl, .ref d, rfl, d, _, rfl, g, _, rfl, ifF rfl ⟨fs', ln', _, _, rfl, hd7, hl7, hp7, si.old hq hin, hm, s7⟩⟩
        · rw [kd_out hin] at g
          have sn := si.new hq hin
          have h97 := len9 hz sn.nd sn.rc
          have h98 : ln'.length ≤ 4097 := by
            have h1 := si.le
            rw [List.length_append] at h97
            omega
          have hfl : (kd fs').length < sizeLine := by
            rw [List.length_append] at h97
            rw [List.length_map]
            exact big4097 (by have : ([y] : List Zp).length = 1 := rfl; omega)
          refine ⟨tx y, rfl, .ref d, rfl, d, _, rfl, g, _, rfl, ifT rfl ?_⟩
          refine ⟨.ref d, rfl, tx y, rfl, d, _, rfl, DPut.k (k := kz y) hd7 hfl, ?_⟩
          rw [kd_put hin]
          generalize e8 : upd H7 d _ = H8
          have hd8 : H8 d = some (.dK (kd (fs' ++ [y]))) := by rw [← e8]; exact upd_same
          have hl8 : H8 l = some (.lst (ln'.map tx)) := by rw [← e8, upd_ne ndl.symm]; exact hl7
          have hp8 : H8 p = some (.lst ((movers h).map nV)) := by rw [← e8, upd_ne (ne_of hp7 hd7 (by intro q; cases q))]; exact hp7
          have s8 : Same H H8 := by rw [← e8]; exact same_upd2 s7 nd1
          have npl : p ≠ l := (ne_of_none hl4 np).symm
          refine ⟨.ref l, rfl, .inl ⟨rfl, _, SqL.of hl8⟩, tx y, rfl, l, _, _, rfl, rfl, hl8, ?_, ?_⟩
          · rw [List.length_map]
            exact Nat.lt_of_le_of_lt h98 (by decide)
          refine ⟨fs' ++ [y], ln' ++ [y], _, _, rfl, by rw [upd_ne ndl]; exact hd8, by rw [upd_same, List.map_append]; rfl, by rw [upd_ne npl]; exact hp8, sn, ?_, same_upd2 s8 nl0⟩
          have h99 : fs'.length + 1 ≤ 4097 := by rw [List.length_append] at h97; exact h97
          have h1 : (fs' ++ [y]).length = fs'.length + 1 := by simp
          have h2 : (ln' ++ [y]).length = ln'.length + 1 := by simp
          rw [h1, h2]
          omega
      · rintro σ H6 ⟨fs', ln', y4, y5, rfl, hd6, hl6, hp6, si, hm, s6⟩
        refine ⟨_, hm, fs', ln', _, _, _, rfl, rfl, hd6, hl6, si.done ?_, s6⟩
        unfold movers
        rw [List.length_map, List.length_map]
        exact Nat.le_refl _
    · rw [eqv_T] at e1
      have hln : ln = [] := by simpa using e1
      subst hln
      generalize e3 : upd H2 e _ = H3
      have s23 : Same H2 H3 := by rw [← e3]; exact same_upd ne
      have hd3 := s23 _ _ hd2
      have s3 := s2.trans s23
      have ra := sk.all
      refine ⟨.ref d, rfl, d, _, rfl, .inl hd3, fun p np => ?_⟩
      generalize e4 : upd H3 p _ = H4
      have s34 : Same H3 H4 := by rw [← e4]; exact same_upd np
      have hp4 : H4 p = some (.lst ((fs.map fun z => S (cps z)).map V.str)) := by
        rw [← e4, upd_same, List.map_map, List.map_map]
        rfl
      refine ⟨p, fs.map fun z => S (cps z), rfl, SqL.of hp4, fun ys p2 perm srt np2 => ?_⟩
      obtain ⟨ws, rfl, pw, hs⟩ := sorted_zs perm srt ra.nd
      have s4 := s3.trans s34
      refine q _ p2 ws (same_upd2 s4 (s4.free np2)) (s4.free np2) ⟨pw.nodup_iff.mpr ra.nd, fun y => (pw.mem_iff).trans (ra.mem y)⟩ hs ?_
      rw [upd_same, List.map_map]
      rfl
/-- come_by -/
def spCome : Sp := fun vs H Q _ => ∃ z : Zp, vs = [tx z] ∧ pads z ≤ 9 ∧ ∀ H', Same H H' → Q (nV (rset z).length) H'
theorem sc_comeby : FnScope ["standing"] ["standing"] (defScope s_come_by) := ⟨rfl, rfl, rfl, by decide +kernel, rfl, by decide +kernel, by decide +kernel⟩
theorem c_come (D : Df K mg "come_by" s_come_by ["standing"]) (T : Bl mg) (ca : Cal P w K mg base 2 "asked_small" spSmall) (cl : Cal P w K mg base 2 "come_by_all" spAll) : Cal P w K mg base 3 "come_by" spCome := by
  refine cal_of D sc_comeby (fun vs H Q E h => ?_) (fun f cdv A outer s H vs Q E hr h => ?_)
  · obtain ⟨z, rfl, _⟩ := h
    rfl
  · obtain ⟨z, rfl, hz, q⟩ := h
    refine ⟨_, pss_cons (ps_expr (pe_c ca hr (by decide) (by rfl) (pa_cons (pv 0) pa_nil))) (pss_one (ps_ret (pe_callB call_len_seq (by rfl) T.len PySem.boot_len (pa_cons (pe_c cl hr (by decide) (by rfl) (pa_cons (pv 0) pa_nil)) pa_nil)))), ?_⟩
    refine ⟨tx z, rfl, z, rfl, hz, fun H1 s1 => ⟨tx z, rfl, z, rfl, hz, fun H2 p ws s2 np ra _ hp => ⟨p, _, rfl, .inl (SqL.of hp), ?_⟩⟩⟩
    rw [List.length_map, ra.count]
    exact q H2 (s1.trans s2)
/-- stuck -/
def spStuck : Sp := fun vs H Q _ => ∃ z : Zp, vs = [tx z] ∧ pads z ≤ 9 ∧ ∀ H' p ws, Same H H' → H p = none → IsStk z ws → H' p = some (.lst (ws.map tx)) → ws.length ≤ 4097 → Q (.ref p) H'
theorem sc_stuck : FnScope ["standing", "some"] ["standing"] (defScope s_stuck) := ⟨rfl, rfl, rfl, by decide +kernel, rfl, by decide +kernel, by decide +kernel⟩
theorem c_stuck (D : Df K mg "stuck" s_stuck ["standing"]) (T : Bl mg) (ca : Cal P w K mg base 2 "asked_small" spSmall) (cl : Cal P w K mg base 2 "come_by_all" spAll) (cm : Cal P w K mg base 1 "movers" spMovers) (cg : Cal P w K mg base 1 "goal_of" spGoal) : Cal P w K mg base 3 "stuck" spStuck := by
  refine cal_of D sc_stuck (fun vs H Q E h => ?_) (fun f cdv A outer s H vs Q E hr h => ?_)
  · obtain ⟨z, rfl, _⟩ := h
    rfl
  · obtain ⟨z, rfl, hz, q⟩ := h
    have nd := sc_stuck.nd
    refine ⟨_, (pss_cons (ps_expr (pe_c ca hr (by decide) (by rfl) (pa_cons (pv 0) pa_nil)))
      (pss_one (ps_ret (pe_lc (own := [("some", 1)]) (g := gName 1) (by rfl) nd (pi_list (pe_c cl hr (by decide) (by rfl) (pa_cons (pv 0) pa_nil))) (blkOk_by (own := [("some", 1)]) (N := ["standing", "some"]) (sc := defScope s_stuck) (by decide +kernel)) (fun _ _ _ _ _ => pg_name (i := 1) nd rfl (Or.inl rfl)) (fun _ _ _ _ _ => (pts_one (PW.pt (pw_and (pt_cmpR (r := rEqD K) (op_eqD hr.units) (pe_c cm hr (by decide) (by rfl) (pa_cons (pv 1) pa_nil)) (pe_lst pa_nil) (nomark _)) (pw_and1 (pt_cmpR op_ne (pv 1) (pe_c cg hr (by decide) (by rfl) (pa_cons (pv 1) pa_nil)) (nomark _))))))) (fun _ _ _ _ _ => (pv 1)))))), ?_⟩
    refine ⟨tx z, rfl, z, rfl, hz, fun H1 s1 => ⟨tx z, rfl, z, rfl, hz, fun H2 p ws s2 np ra hs hp => ⟨p, rfl, ⟨_, SqL.of hp⟩, fun Dl nD => ?_⟩⟩⟩
    have st2 := s1.trans s2
    have h97 := ra.le hz
    refine lc_it (walk_list (K := K) (a := p) (xs := ws.map tx)) (fun i H' => Same H2 H' ∧ H' Dl = some (.lst (((ws.take i).filter isStuck).map tx))) ⟨same_upd nD, upd_same⟩ (fun i H' _ ⟨sa, _⟩ => SqL.of (sa _ _ hp)) ?_ ?_
    · rintro i x H3 _ hi ⟨s3, h3⟩ ⟨rfl, hx⟩
      obtain ⟨y, hy, rfl⟩ : ∃ y, ws[i]? = some y ∧ x = tx y := by
        rw [List.getElem?_map] at hx
        cases e : ws[i]? with
        | none => rw [e] at hx; cases hx
        | some u => rw [e] at hx; exact ⟨u, rfl, (Option.some.inj hx).symm⟩
      have hy9 : pads y ≤ 9 := by rw [((ra.mem y).mp (List.mem_of_getElem? hy)).pads]; exact hz
      have yes : isStuck y = true → ((ws.take (i + 1)).filter isStuck).map tx = ((ws.take i).filter isStuck).map tx ++ [tx y] := fun e => by
        rw [List.take_succ, hy, List.filter_append, List.map_append]
        simp [e]
      have no : isStuck y = false → ((ws.take (i + 1)).filter isStuck).map tx = ((ws.take i).filter isStuck).map tx := fun e => by
        rw [List.take_succ, hy, List.filter_append, List.map_append]
        simp [e]
      refine ⟨rfl, tx y, rfl, y, rfl, by omega, fun H4 pm s4 npm hpm => ⟨Nat.zero_le _, fun e ne => ⟨dI (zs (movers y)), dI (zs []), dp_nats ((same_upd ne) _ _ hpm), dp_nats upd_same, shaped_ints _, shaped_ints _, _, rfl, ifB (fun e1 => ?_) (fun e1 => ?_)⟩⟩⟩
      · rw [eqv_nats] at e1
        have hn : next y = [] := (movers_nil y).mp (by simpa using e1)
        refine ⟨tx y, rfl, tx y, rfl, y, rfl, by omega, fun H5 s5 => ⟨rfl, _, rfl, ifB (fun e2 => ?_) (fun e2 => ?_)⟩⟩
        · rw [dec_str] at e2
          have hg : y ≠ goal y := fun h => by rw [decide_eq_true (congrArg cps h)] at e2; cases e2
          have es : isStuck y = true := by unfold isStuck; rw [decide_eq_true hn, decide_eq_true hg]; rfl
          refine ⟨tx y, rfl, _, (s4.trans ((same_upd ne).trans s5)) _ _ h3, ?_, same_upd2 (s3.trans (s4.trans ((same_upd ne).trans s5))) nD, ?_⟩
          · rw [List.length_map]
            have h1 := List.length_filter_le isStuck (ws.take i)
            rw [List.length_take] at h1
            exact big4097 (by omega)
          · rw [upd_same, yes es]
        · rw [dec_str] at e2
          have hg : y = goal y := by
            refine cps_inj ?_
            cases h : decide (cps y = cps (goal y)) with
            | true => exact of_decide_eq_true h
            | false => rw [h] at e2; cases e2
          have es : isStuck y = false := by unfold isStuck; rw [decide_eq_false (p := y ≠ goal y) fun n => n hg, Bool.and_false]
          refine ⟨s3.trans (s4.trans ((same_upd ne).trans s5)), ?_⟩
          rw [no es]
          exact (s4.trans ((same_upd ne).trans s5)) _ _ h3
      · rw [eqv_nats] at e1
        have hn : next y ≠ [] := fun h => by rw [decide_eq_true ((movers_nil y).mpr h)] at e1; cases e1
        have es : isStuck y = false := by unfold isStuck; rw [decide_eq_false hn]; rfl
        refine ⟨s3.trans (s4.trans (same_upd ne)), ?_⟩
        rw [no es]
        exact (s4.trans (same_upd ne)) _ _ h3
    · rintro H3 ⟨s3, h3⟩
      rw [List.length_map, List.take_length] at h3
      refine q H3 Dl (ws.filter isStuck) (st2.trans s3) (st2.free nD) ⟨?_, fun y => ?_⟩ h3 ?_
      · exact List.Pairwise.sublist (List.filter_sublist.map cps) hs
      · rw [List.mem_filter, ra.mem]
      · exact Nat.le_trans (List.length_filter_le _ _) h97
end
end PP

/-! ### lists of lists -/
namespace PP
open PySem PySem.Spec PyProof.Rows L2 SX PR PL
theorem pr_append {α β : Type} {F : α → β → Prop} : ∀ {l1 l2 : List α} {m1 m2 : List β}, Paired F l1 m1 → Paired F l2 m2 → Paired F (l1 ++ l2) (m1 ++ m2)
  | _, _, _, _, .nil, h => h
  | _, _, _, _, .cons a t, h => .cons a (pr_append t h)
theorem pr_len {α β : Type} {F : α → β → Prop} : ∀ {l : List α} {m : List β}, Paired F l m → l.length = m.length
  | _, _, .nil => rfl
  | _, _, .cons _ t => by rw [List.length_cons, List.length_cons, pr_len t]
theorem pr_get {α β : Type} {F : α → β → Prop} : ∀ {l : List α} {m : List β} {i : Nat} {b : β}, Paired F l m → m[i]? = some b → ∃ a, l[i]? = some a ∧ F a b
  | _, _, _, _, .nil, e => by simp at e
  | _, _, 0, _, .cons r _, e => by simp at e; subst e; exact ⟨_, rfl, r⟩
  | _, _, i + 1, b, .cons _ t, e => by
    obtain ⟨a, h1, h2⟩ := pr_get (i := i) (b := b) t (by simpa using e)
    exact ⟨a, by simpa using h1, h2⟩
theorem pr_get2 {α β : Type} {F : α → β → Prop} : ∀ {l : List α} {m : List β} {i : Nat} {a : α}, Paired F l m → l[i]? = some a → ∃ b, m[i]? = some b ∧ F a b
  | _, _, _, _, .nil, e => by simp at e
  | _, _, 0, _, .cons r _, e => by simp at e; subst e; exact ⟨_, rfl, r⟩
  | _, _, i + 1, a, .cons _ t, e => by
    obtain ⟨b, h1, h2⟩ := pr_get2 (i := i) (a := a) t (by simpa using e)
    exact ⟨b, by simpa using h1, h2⟩
theorem pr_imp {α β : Type} {F G : α → β → Prop} : ∀ {l : List α} {m : List β}, Paired F l m → (∀ a b, F a b → G a b) → Paired G l m
  | _, _, .nil, _ => .nil
  | _, _, .cons r t, f => .cons (f _ _ r) (pr_imp t f)
/-- at p a list of lists of pads -/
def LL (H : Hp) (p : Addr) (ws : List (List Nat)) : Prop := ∃ qs : List Addr, H p = some (.lst (qs.map V.ref)) ∧ Paired (fun q wy => H q = some (.lst (wy.map nV))) qs ws
theorem LL.same {H H' : Hp} {p : Addr} {ws : List (List Nat)} (h : LL H p ws) (s : Same H H') : LL H' p ws := by
  obtain ⟨qs, h1, h2⟩ := h
  exact ⟨qs, s _ _ h1, pr_imp h2 fun q wy e => s _ _ e⟩
theorem LL.sb {H H' : Hp} {p d : Addr} {ws : List (List Nat)} {kvs : List (Key × V)} (h : LL H p ws) (hd : H d = some (.dK kvs)) (s : Sb d H H') : LL H' p ws := by
  obtain ⟨qs, h1, h2⟩ := h
  exact ⟨qs, s _ _ (ne_of h1 hd (by intro q; cases q)) h1, pr_imp h2 fun q wy e => s _ _ (ne_of e hd (by intro q; cases q)) e⟩
end PP

/-! ### lists of lists compared; lists of truths -/
namespace PP
open PySem PySem.Spec PyProof.Rows L2 SX PR PL
section
variable {K : PySem.W.Frag} {H : Hp}
abbrev dLL (ws : List (List Nat)) : PyData := .list (ws.map fun wy => dI (zs wy))
theorem dpAll_LL : ∀ {qs : List Addr} {ws : List (List Nat)}, Paired (fun q wy => H q = some (.lst (wy.map nV))) qs ws → DpAll K H (qs.map V.ref) (ws.map fun wy => dI (zs wy))
  | _, _, .nil => .nil
  | _, _, .cons h t => .cons (dp_nats h) (dpAll_LL t)
theorem dp_LL {p : Addr} {ws : List (List Nat)} (h : LL H p ws) : Dp K H (.ref p) (dLL ws) := by
  obtain ⟨qs, h1, h2⟩ := h
  exact .lst (SqL.of h1) (dpAll_LL h2)
theorem canLay_LL : ∀ ws : List (List Nat), PyData.canLayAll0 (ws.map fun wy => dI (zs wy)) = true
  | [] => rfl
  | w :: r => by
    have h1 := canLay_LL r
    have h2 := canLay_ints (zs w)
    simp [PyData.canLayAll0, PyData.canLay0, h1, h2]
theorem depth_LL : ∀ ws : List (List Nat), PyData.depthAll (ws.map fun wy => dI (zs wy)) ≤ 2
  | [] => by simp [PyData.depthAll]
  | w :: r => by
    have h1 := depth_LL r
    have h2 := depth_ints (zs w)
    simp [PyData.depthAll, PyData.depth]
    omega
theorem shaped_LL (ws : List (List Nat)) : SeqAt.shaped (dLL ws) = true := by
  unfold SeqAt.shaped
  rw [Bool.and_eq_true]
  refine ⟨?_, decide_eq_true ?_⟩
  · simpa [PyData.canLay0] using canLay_LL ws
  · have := depth_LL ws
    simp [PyData.depth]
    omega
theorem eqv_LL_nil (ws : List (List Nat)) : PyData.eqv (dLL ws) (dI (zs [])) = decide (ws = []) := by
  rw [PyData.eqv]
  cases ws with
  | nil => simp [PyData.eqvAll, zs]
  | cons w r => simp [PyData.eqvAll, zs]
theorem eqv_bb {a b c d : Bool} (h1 : a = c) (h2 : b = d) : (!PyData.eqv (.list [.bool a, .bool b]) (.list [.bool c, .bool d])) = false := by
  subst h1 h2
  cases a <;> cases b <;> decide +kernel
theorem shaped_bb (a b : Bool) : SeqAt.shaped (.list [.bool a, .bool b]) = true := by cases a <;> cases b <;> decide +kernel
theorem Room.u65 {k : Nat} {A : Around} (r : L2.Room k A) : A.units + 65 < cLine := by have := r.un; omega
end
end PP

/-! ### calls without arguments; _law_plain, _law_truths -/
namespace PP
open PySem PySem.Spec PyProof.Rows L2 SX PR PL
theorem pe_c0 {X : Cx} {k j : Nat} {x : Str} {sp : Sp} {p pos : Pos} (c : Cal X.prog X.w X.K X.mg X.base k x sp) (hr : Room j X.A) (hk : k ≤ j) (hg : Gl X x) (hdb : (x == ("__debug__" : Str)) = false := by decide) :
    PE X (.Call (.Name x p) [] [] pos) (tCall sp [] L2.E0 tNil) := by
  obtain ⟨f, fd, ps, F, hm, kp, b⟩ := c.ex
  exact pe_call0 F (hr.mono hk) hg hm kp b .nil L2.pass0 hdb
/-- whole numbers and texts, in lists of at most such a depth -/
inductive Pl (H : Hp) : Nat → V → Prop
  | int {k : Nat} (n : Int) : Pl H k (.int n)
  | str {k : Nat} (s : Str) : Pl H k (.str s)
  | lst {k : Nat} {a : Addr} {xs : List V} (h : H a = some (.lst xs)) (l : xs.length ≤ 5000) (all : ∀ x ∈ xs, Pl H k x) : Pl H (k + 1) (.ref a)
theorem Pl.same {H H' : Hp} {k : Nat} {v : V} (h : Pl H k v) (s : Same H H') : Pl H' k v := by
  induction h with
  | int n => exact .int n
  | str t => exact .str t
  | lst h l _ ih => exact .lst (s _ _ h) l ih
section
variable {P : Program} {w : World} {K : PySem.W.Frag} {mg : Str → Option Value} {base : Heap}
def spPlain (k : Nat) : Sp := fun vs H Q _ => ∃ v : V, vs = [v] ∧ Pl H k v ∧ ∀ H', Same H H' → Q (.bl true) H'
theorem sc_plain : FnScope ["_law_thing", "_law_one"] ["_law_thing"] (defScope s__law_plain) := ⟨rfl, rfl, rfl, by decide +kernel, rfl, by decide +kernel, by decide +kernel⟩
theorem c_plain (D : Df K mg "_law_plain" s__law_plain ["_law_thing"]) (T : Bl mg) : ∀ k : Nat, Cal P w K mg base (k + 2) "_law_plain" (spPlain k) := by
  have main : ∀ (k : Nat) (c' : k = 0 ∨ Cal P w K mg base (k + 1) "_law_plain" (spPlain (k - 1))), Cal P w K mg base (k + 2) "_law_plain" (spPlain k) := by
    intro k c'
    have nd := sc_plain.nd
    refine cal_of D sc_plain (fun vs H Q E h => ?_) (fun f cdv A outer s H vs Q E hr h => ?_)
    · obtain ⟨v, rfl, _⟩ := h
      rfl
    · obtain ⟨v, rfl, hv, q⟩ := h
      have ce : ∃ sp : Sp, Cal P w K mg base (k + 1) "_law_plain" sp ∧ (0 < k → sp = spPlain (k - 1)) := by
        rcases c' with rfl | c'
        · obtain ⟨fa, fd, F, b, g⟩ := D.ex
          exact ⟨fun _ _ _ _ => False, ⟨fa, fd, ["_law_thing"], ⟨fun _ _ _ _ h => h.elim, fun _ _ _ _ _ _ _ _ _ _ _ _ _ h => h.elim⟩, g, F.kp, b⟩, fun h => absurd h (Nat.lt_irrefl _)⟩
        · exact ⟨_, c', fun _ => rfl⟩
      obtain ⟨sp, crec, hsp⟩ := ce
      refine ⟨_, (pss_cons (ps_if (PW.pt (pw_or (pt_val (pe_isi (T := "list") T.isi T.list (by rfl) (by rfl) (pv 0) (by decide +kernel))) (pw_or1 (pt_val (pe_isi (T := "tuple") T.isi T.tuple (by rfl) (by rfl) (pv 0) (by decide +kernel))))))
        (pss_one (ps_ret (pe_callB (cr_all rfl) (by rfl) T.all (by decide +kernel) (pa_cons (pe_lc (own := [("_law_one", 1)]) (g := gName 1) (tt := tYes) (by rfl) nd (pi_list (pv 0)) (blkOk_by (own := [("_law_one", 1)]) (N := ["_law_thing", "_law_one"]) (sc := defScope s__law_plain) (by decide +kernel)) (fun _ _ _ _ _ => pg_name (i := 1) nd rfl (Or.inl rfl)) (fun _ _ _ _ _ => pts_nil) (fun _ _ _ _ _ => (pe_c crec hr (Nat.le_refl _) (by rfl) (pa_cons (pv 1) pa_nil)))) pa_nil))))
        pss_nil)
        (pss_one (ps_ret (pe_or (pe_cmpR op_isN (pv 0) pe_non (nomark _)) (pe_or (pe_isi (T := "str") T.isi T.str (by rfl) (by rfl) (pv 0) (by decide +kernel)) (pe_one (pe_and (pe_isi (T := "int") T.isi T.int (by rfl) (by rfl) (pv 0) (by decide +kernel)) (pe_one (pe_not (pe_isi (T := "bool") T.isi T.bool (by rfl) (by rfl) (pv 0) (by decide +kernel))))))))))), ?_⟩
      cases hv with
      | int n =>
        refine ⟨.int n, rfl, .int n, .ty "list", .type "int", .type "list", false, rfl, .ty _, .base (.int _), kit_ty (by decide +kernel), false, rfl, ifF rfl ?_⟩
        refine ⟨.int n, rfl, .int n, .ty "tuple", .type "int", .type "tuple", false, rfl, .ty _, .base (.int _), kit_ty (by decide +kernel), false, rfl, ifF rfl ?_⟩
        refine ⟨.int n, rfl, rfl, false, by rw [decide_eq_false (p := V.int n = V.non) (fun e => by cases e)], ifF rfl ?_⟩
        refine ⟨.int n, rfl, .int n, .ty "str", .type "int", .type "str", false, rfl, .ty _, .base (.int _), kit_ty (by decide +kernel), false, rfl, ifF rfl ?_⟩
        refine ⟨.int n, rfl, .int n, .ty "int", .type "int", .type "int", true, rfl, .ty _, .base (.int _), kit_ty (by decide +kernel), true, rfl, ifT rfl ?_⟩
        exact ⟨.int n, rfl, .int n, .ty "bool", .type "int", .type "bool", false, rfl, .ty _, .base (.int _), kit_ty (by decide +kernel), false, rfl, q H (Same.refl _)⟩
      | str t =>
        refine ⟨.str t, rfl, .str t, .ty "list", .type "str", .type "list", false, rfl, .ty _, .base (.str _), kit_ty (by decide +kernel), false, rfl, ifF rfl ?_⟩
        refine ⟨.str t, rfl, .str t, .ty "tuple", .type "str", .type "tuple", false, rfl, .ty _, .base (.str _), kit_ty (by decide +kernel), false, rfl, ifF rfl ?_⟩
        refine ⟨.str t, rfl, rfl, false, by rw [decide_eq_false (p := V.str t = V.non) (fun e => by cases e)], ifF rfl ?_⟩
        exact ⟨.str t, rfl, .str t, .ty "str", .type "str", .type "str", true, rfl, .ty _, .base (.str _), kit_ty (by decide +kernel), true, rfl, ifT rfl (q H (Same.refl _))⟩
      | @lst k a xs h hl all =>
        obtain rfl := hsp (Nat.succ_pos _)
        refine ⟨.ref a, rfl, .ref a, .ty "list", .type "list", .type "list", true, rfl, .ty _, .base (.lst h), kit_ty (by decide +kernel), true, rfl, ifT rfl ?_⟩
        refine ifT rfl ?_
        refine ⟨.ref a, rfl, a, rfl, ⟨_, SqL.of h⟩, fun Dl nD => ?_⟩
        refine lc_it (walk_list (K := K) (a := a) (xs := xs)) (fun i H' => Same H H' ∧ H' Dl = some (.lst (List.replicate i (V.bl true)))) ⟨same_upd nD, upd_same⟩ (fun i H' _ ⟨sa, _⟩ => SqL.of (sa _ _ h)) ?_ ?_
        · rintro i x H1 _ hi ⟨s1, h1⟩ ⟨rfl, hx⟩
          refine ⟨rfl, x, rfl, x, rfl, (all x (List.mem_of_getElem? hx)).same s1, fun H2 s2 => ⟨_, s2 _ _ h1, ?_, same_upd2 (s1.trans s2) nD, ?_⟩⟩
          · rw [List.length_replicate]
            exact Nat.lt_of_le_of_lt (show i ≤ 5000 by omega) (by decide)
          · rw [upd_same, List.replicate_succ']
        · rintro H1 ⟨s1, h1⟩
          refine ⟨Dl, List.replicate xs.length true, rfl, SqL.of (by rw [h1, List.map_replicate]), ?_⟩
          have e : (List.replicate xs.length true).all id = true := by simp
          rw [e]
          exact q H1 s1
  intro k
  induction k with
  | zero => exact main 0 (.inl rfl)
  | succ k ih => exact main (k + 1) (.inr ih)
def spTruths (K : PySem.W.Frag) : Sp := fun vs H Q _ => ∃ (a : Addr) (bs : List Bool), vs = [.ref a] ∧ SqL K H a (bs.map V.bl) ∧ bs.length ≤ 1000 ∧ ∀ H', Same H H' → Q (.bl true) H'
theorem sc_truths : FnScope ["_law_things", "_law_one"] ["_law_things"] (defScope s__law_truths) := ⟨rfl, rfl, rfl, by decide +kernel, rfl, by decide +kernel, by decide +kernel⟩
theorem c_truths (D : Df K mg "_law_truths" s__law_truths ["_law_things"]) (T : Bl mg) : Cal P w K mg base 1 "_law_truths" (spTruths K) := by
  refine cal_of D sc_truths (fun vs H Q E h => ?_) (fun f cdv A outer s H vs Q E hr h => ?_)
  · obtain ⟨a, bs, rfl, _⟩ := h
    rfl
  · obtain ⟨a, bs, rfl, hS, hl, q⟩ := h
    have nd := sc_truths.nd
    refine ⟨_, (pss_one (ps_ret (pe_callB (cr_all rfl) (by rfl) T.all (by decide +kernel) (pa_cons (pe_lc (own := [("_law_one", 1)]) (g := gName 1) (tt := tYes) (te := tCB (rIsi K) (tCons (tVar 1) (tCons (tC (.ty "bool")) tNil))) (by rfl) nd (pi_list (pv 0)) (blkOk_by (own := [("_law_one", 1)]) (N := ["_law_things", "_law_one"]) (sc := defScope s__law_truths) (by decide +kernel)) (fun _ _ _ _ _ => pg_name (i := 1) nd rfl (Or.inl rfl)) (fun _ _ _ _ _ => pts_nil) (fun _ _ _ _ _ => (pe_isi (T := "bool") T.isi T.bool (by rfl) (by rfl) (pv 1) (by decide +kernel)))) pa_nil)))), ?_⟩
    refine ⟨.ref a, rfl, a, rfl, ⟨_, hS⟩, fun Dl nD => ?_⟩
    refine lc_it (walk_list (K := K) (a := a) (xs := bs.map V.bl)) (fun i H' => Same H H' ∧ H' Dl = some (.lst (List.replicate i (V.bl true)))) ⟨same_upd nD, upd_same⟩ (fun i H' _ ⟨sa, _⟩ => sa.seq hS) ?_ ?_
    · rintro i x H1 _ hi ⟨s1, h1⟩ ⟨rfl, hx⟩
      obtain ⟨b, _, rfl⟩ := List.mem_map.mp (List.mem_of_getElem? hx)
      refine ⟨rfl, .bl b, rfl, .bl b, .ty "bool", .type "bool", .type "bool", true, rfl, .ty _, .base (.bl _), kit_ty (by decide +kernel), _, h1, ?_, same_upd2 s1 nD, ?_⟩
      · rw [List.length_replicate]
        rw [List.length_map] at hi
        exact L2.small1000 (by omega)
      · rw [upd_same, List.replicate_succ']
    · rintro H1 ⟨s1, h1⟩
      refine ⟨Dl, List.replicate (bs.map V.bl).length true, rfl, SqL.of (by rw [h1, List.map_replicate]), ?_⟩
      have e : (List.replicate (bs.map V.bl).length true).all id = true := by simp
      rw [e]
      exact q H1 s1
end
end PP

/-! ### _law_told_right of the law k08 -/
namespace PP
open PySem PySem.Spec PyProof.Rows L2 SX PR PL
/-- a whole number, a text, or a list of such, not at F -/
def El (F : Addr) (H : Hp) (x : V) : Prop := (∃ n, x = .int n) ∨ (∃ s, x = .str s) ∨ ∃ q xs, x = .ref q ∧ q ≠ F ∧ H q = some (.lst xs) ∧ xs.length ≤ 5000 ∧ ∀ y ∈ xs, (∃ n, y = .int n) ∨ ∃ s, y = .str s
theorem El.same {F : Addr} {H H' : Hp} {x : V} (h : El F H x) (s : Same H H') : El F H' x := by
  rcases h with h | h | ⟨q, xs, e, ne, hq, hl, ha⟩
  · exact .inl h
  · exact .inr (.inl h)
  · exact .inr (.inr ⟨q, xs, e, ne, s _ _ hq, hl, ha⟩)
theorem El.upd {F : Addr} {H : Hp} {o : HO} {x : V} (h : El F H x) : El F (L2.upd H F o) x := by
  rcases h with h | h | ⟨q, xs, e, ne, hq, hl, ha⟩
  · exact .inl h
  · exact .inr (.inl h)
  · exact .inr (.inr ⟨q, xs, e, ne, by rw [upd_ne ne]; exact hq, hl, ha⟩)
theorem El.pl {F : Addr} {H : Hp} {x : V} (h : El F H x) : Pl H 1 x := by
  rcases h with ⟨n, rfl⟩ | ⟨s, rfl⟩ | ⟨q, xs, rfl, ne, hq, hl, ha⟩
  · exact .int n
  · exact .str s
  · refine .lst hq hl fun y hy => ?_
    rcases ha y hy with ⟨n, rfl⟩ | ⟨s, rfl⟩
    · exact .int n
    · exact .str s
theorem el_nats {F q : Addr} {H : Hp} {l : List Nat} (ne : q ≠ F) (h : H q = some (.lst (l.map nV))) (hl : l.length ≤ 5000) : El F H (.ref q) :=
  .inr (.inr ⟨q, _, rfl, ne, h, by rw [List.length_map]; exact hl, fun y hy => by
    obtain ⟨n, _, e⟩ := List.mem_map.mp hy
    exact .inl ⟨_, e.symm⟩⟩)
theorem el_txs {F q : Addr} {H : Hp} {l : List Zp} (ne : q ≠ F) (h : H q = some (.lst (l.map tx))) (hl : l.length ≤ 5000) : El F H (.ref q) :=
  .inr (.inr ⟨q, _, rfl, ne, h, by rw [List.length_map]; exact hl, fun y hy => by
    obtain ⟨n, _, e⟩ := List.mem_map.mp hy
    exact .inr ⟨_, e.symm⟩⟩)
/-- what is found so far, at F -/
structure FL (F : Addr) (H : Hp) (xs : List V) : Prop where
  at_ : H F = some (.lst xs)
  el : ∀ x ∈ xs, El F H x
theorem FL.same {F : Addr} {H H' : Hp} {xs : List V} (h : FL F H xs) (s : Same H H') : FL F H' xs := ⟨s _ _ h.at_, fun x hx => (h.el x hx).same s⟩
theorem FL.app {F : Addr} {H : Hp} {xs : List V} {x : V} (h : FL F H xs) (hx : El F H x) : FL F (L2.upd H F (.lst (xs ++ [x]))) (xs ++ [x]) :=
  ⟨upd_same, fun y hy => by
    rcases List.mem_append.mp hy with m | m
    · exact (h.el y m).upd
    · rw [List.mem_singleton.mp m]
      exact hx.upd⟩
/-- an answer, its field not at F -/
def An (L N F : Addr) (H : Hp) (p : Addr) : Prop := (∃ (dx q : Addr) (wy : List Nat), H p = some (.ins L dx (fP q)) ∧ q ≠ F ∧ H q = some (.lst (wy.map nV)) ∧ wy.length ≤ 24) ∨ ∃ dx, H p = some (.ins N dx [])
theorem An.same {L N F p : Addr} {H H' : Hp} (h : An L N F H p) (s : Same H H') : An L N F H' p := by
  rcases h with ⟨dx, q, wy, h1, h2, h3, h4⟩ | ⟨dx, h1⟩
  · exact .inl ⟨dx, q, wy, s _ _ h1, h2, s _ _ h3, h4⟩
  · exact .inr ⟨dx, s _ _ h1⟩
theorem An.upd {L N F p : Addr} {H : Hp} {xs : List V} {o : HO} (h : An L N F H p) (hF : H F = some (.lst xs)) : An L N F (L2.upd H F o) p := by
  rcases h with ⟨dx, q, wy, h1, h2, h3, h4⟩ | ⟨dx, h1⟩
  · exact .inl ⟨dx, q, wy, by rw [upd_ne (ne_of h1 hF (by intro e; cases e))]; exact h1, h2, by rw [upd_ne h2]; exact h3, h4⟩
  · exact .inr ⟨dx, by rw [upd_ne (ne_of h1 hF (by intro e; cases e))]; exact h1⟩
/-- an instance that shows -/
def Sh (L N : Addr) (H : Hp) (x : V) : Prop := ∃ a, x = .ref a ∧ ((∃ (dx q : Addr) (ns : List Int), H a = some (.ins L dx (fP q)) ∧ H q = some (.lst (ns.map V.int))) ∨ ∃ dx, H a = some (.ins N dx []))
theorem Sh.same {L N : Addr} {H H' : Hp} {x : V} (h : Sh L N H x) (s : Same H H') : Sh L N H' x := by
  obtain ⟨a, e, ⟨dx, q, ns, h1, h2⟩ | ⟨dx, h1⟩⟩ := h
  · exact ⟨a, e, .inl ⟨dx, q, ns, s _ _ h1, s _ _ h2⟩⟩
  · exact ⟨a, e, .inr ⟨dx, s _ _ h1⟩⟩
section
variable {P : Program} {w : World} {K : PySem.W.Frag} {mg : Str → Option Value} {base : Heap}
def spTold : Sp := fun vs H Q _ => ∃ z : Zp, vs = [tx z] ∧ pads z ≤ 9 ∧ ∀ H', Same H H' → Q (.bl true) H'
abbrev nmTold : List Str := ["_law_standing_here", "_law_answer", "_law_found", "_law_pad", "_law_one"]
theorem sc_told : FnScope nmTold ["_law_standing_here"] (defScope s__law_told_right) := ⟨rfl, rfl, rfl, by decide +kernel, rfl, by decide +kernel, by decide +kernel⟩
theorem c_told {A L N : Addr} (Y : Ans K mg A L N) (T : Bl mg) (D : Df K mg "_law_told_right" s__law_told_right ["_law_standing_here"]) (cled : Cal P w K mg base 28 "led" (spLed L N)) (cm : Cal P w K mg base 2 "moves" spMovers) (cg : Cal P w K mg base 2 "goal" spGoal) (cr : Cal P w K mg base 2 "mirrored" spMirr) (cl : Cal P w K mg base 2 "moves_left" spLeft)
    (cwy : Cal P w K mg base 27 "ways" spMany) (cc : Cal P w K mg base 3 "come_by" spCome) (cst : Cal P w K mg base 3 "stuck" spStuck) (cy : Cal P w K mg base 28 "way_by" spWayOf) (cv : Cal P w K mg base 2 "moved" spBehind) (cpl : Cal P w K mg base 4 "_law_plain" (spPlain 2)) (ctr : Cal P w K mg base 1 "_law_truths" (spTruths K))
    (ci : Mkr P w K mg base 1 "Leads" L (spInitL K L)) (mL : Mtd P w K mg base 2 L "shows" (spShowsL K L)) (mN : Mtd P w K mg base 27 N "shows" (spShowsN N)) : Cal P w K mg base 29 "_law_told_right" spTold := by
  refine cal_of D sc_told (fun vs H Q E h => ?_) (fun f cdv Ar outer s H vs Q E hr h => ?_)
  · obtain ⟨z, rfl, _⟩ := h
    rfl
  · obtain ⟨z, rfl, hz, q⟩ := h
    have nd := sc_told.nd
    have hz60 : pads z ≤ 60 := by omega
    refine ⟨_, (C8.pss_cut (ps_par (i := 1) (j := 2) (by rfl) nd rfl rfl (by decide) rfl rfl (pa_cons (pe_c cled hr (by decide) (by rfl) (pa_cons (pv 0) pa_nil)) (pa_cons (pe_lst (pa_cons (pe_c cm hr (by decide) (by rfl) (pa_cons (pv 0) pa_nil)) (pa_cons (pe_c cg hr (by decide) (by rfl) (pa_cons (pv 0) pa_nil)) (pa_cons (pe_c cr hr (by decide) (by rfl) (pa_cons (pv 0) pa_nil)) (pa_cons (pe_c cl hr (by decide) (by rfl) (pa_cons (pv 0) pa_nil)) pa_nil))))) pa_nil)) (by rfl))
      (C8.pss_cut (ps_set (i := 2) nd rfl (.inl rfl) (pe_op op_cat (pv 2) (pe_lst (pa_cons (pe_c cwy hr (by decide) (by rfl) (pa_cons (pv 0) pa_nil)) (pa_cons (pe_c cc hr (by decide) (by rfl) (pa_cons (pv 0) pa_nil)) (pa_cons (pe_c cst hr (by decide) (by rfl) (pa_cons (pv 0) pa_nil)) pa_nil))))))
      (C8.pss_cut (ps_if (pt_val (pe_isO (C := L) T.isi Y.mL (by rfl) (by rfl) (pv 1)))
      (pss_one (ps_expr (pe_bm PySem.F.plainAttrs_list PySem.F.slot_list_append PySem.F.type_list_append mt_append (pv 2) (pa_cons (pe_fld (pv 1) rfl) pa_nil))))
      pss_nil)
      (C8.pss_cut (ps_if (pt_cmpR op_gt (pe_c cwy hr (by decide) (by rfl) (pa_cons (pv 0) pa_nil)) pe_int (nomark _))
      (pss_one (ps_expr (pe_bm PySem.F.plainAttrs_list PySem.F.slot_list_append PySem.F.type_list_append mt_append (pv 2) (pa_cons (pe_c cy hr (by decide) (by rfl) (pa_cons (pv 0) (pa_cons pe_int pa_nil))) pa_nil))))
      pss_nil)
      (pss_cons (ps_for PassesOwn.never rfl (pi_list (pe_c cm hr (by decide) (by rfl) (pa_cons (pv 0) pa_nil))) (pg_name (i := 3) nd rfl (.inl rfl))
      (pss_one (ps_expr (pe_bm PySem.F.plainAttrs_list PySem.F.slot_list_append PySem.F.type_list_append mt_append (pv 2) (pa_cons (pe_c cv hr (by decide) (by rfl) (pa_cons (pv 0) (pa_cons (pv 3) pa_nil))) pa_nil)))))
      (pss_cons (ps_if (pt_not (pt_val (pe_c cpl hr (by decide) (by rfl) (pa_cons (pv 2) pa_nil))))
      (pss_one (ps_ret pe_bl))
      pss_nil)
      (pss_one (ps_ret (pe_c ctr hr (by decide) (by rfl) (pa_cons (pe_lc (own := [("_law_one", 4)]) (g := gName 4) (tt := tYes) (by rfl) nd (pi_list (pe_lst (pa_cons (pv 1) (pa_cons (pe_makeO Y.mkN (by rfl) Y.mN) (pa_cons (pe_mkr ci hr (by decide) (by rfl) (pa_cons (pe_lst pa_nil) pa_nil)) pa_nil))))) (blkOk_by (own := [("_law_one", 4)]) (N := nmTold) (sc := defScope s__law_told_right) (by decide +kernel)) (fun _ _ _ _ _ => pg_name (i := 4) nd rfl (Or.inl rfl)) (fun _ _ _ _ _ => pts_nil) (fun _ _ _ _ _ => (pe_either (pe_m (pv 4) Y.iL.cl mL hr (by decide) (pa_cons (pv 0) pa_nil)) (pe_m (pv 4) Y.iN.cl mN hr (by decide) (pa_cons (pv 0) pa_nil))))) pa_nil)))))))))), ?_⟩
    -- _law_answer, _law_found
    refine ⟨fun σ' H' => ∃ (p F : Addr) (xs : List V), σ' = [some (tx z), some (.ref p), some (.ref F), none, none] ∧ Same H H' ∧ H F = none ∧ An L N F H' p ∧ FL F H' xs ∧ xs.length ≤ 4, ?_, ?_⟩
    · -- the list, behind any answer
      have rest : ∀ (H1 : Hp) (p : Addr), Same H H1 → (∀ F, H1 F = none → An L N F H1 p) → ∀ (Q2 : List V → Hp → Prop), (∀ H' F xs, Same H H' → H F = none → An L N F H' p → FL F H' xs → xs.length ≤ 4 → Q2 [.ref F] H') →
          (tCons (tLst (tCons (tCall spMovers [] L2.E0 (tCons (tVar 0) tNil)) (tCons (tCall spGoal [] L2.E0 (tCons (tVar 0) tNil)) (tCons (tCall spMirr [] L2.E0 (tCons (tVar 0) tNil)) (tCons (tCall spLeft [] L2.E0 (tCons (tVar 0) tNil)) tNil))))) tNil) (start nmTold [tx z]) H1 Q2 := by
        intro H1 p s1 an Q2 hq
        refine ⟨tx z, rfl, z, rfl, hz60, fun H2 pm s2 npm hpm => ⟨tx z, rfl, z, rfl, hz60, fun H3 s3 => ⟨tx z, rfl, z, rfl, hz60, fun H4 s4 => ⟨tx z, rfl, z, rfl, hz60, fun H5 s5 => ⟨(by show 4 ≤ sizeLine; decide), fun F nF => ?_⟩⟩⟩⟩⟩
        have s25 := s3.trans (s4.trans s5)
        have s15 := s2.trans s25
        have hpm5 := s25 _ _ hpm
        have nFm : pm ≠ F := ne_of_none hpm5 nF
        refine hq _ F _ ((s1.trans s15).trans (same_upd nF)) ((s1.trans s15).free nF) ((an F (s15.free nF)).same (s15.trans (same_upd nF))) ⟨upd_same, fun x hx => ?_⟩ (Nat.le_refl _)
        have hm := movers_two z
        simp only [List.mem_cons, List.not_mem_nil, or_false] at hx
        rcases hx with rfl | rfl | rfl | rfl
        · exact (el_nats nFm hpm5 (by omega)).upd
        · exact .inr (.inl ⟨_, rfl⟩)
        · exact .inr (.inl ⟨_, rfl⟩)
        · exact .inl ⟨_, rfl⟩
      refine ⟨tx z, rfl, z, rfl, hz, fun H1 p dx qa wy hwy s1 np nq npq hp hqa => ?_, fun h0 H1 p dx s1 np hp => ?_⟩
      · refine rest H1 p s1 (fun F nF => .inl ⟨dx, qa, wy, hp, ne_of_none hqa nF, hqa, ?_⟩) _ fun H' F xs s' nF an fl hl => ⟨_, _, rfl, p, F, xs, rfl, s', nF, an, fl, hl⟩
        rw [wl_len _ z (Nat.le_refl _) wy (List.mem_of_getElem? hwy)]
        exact mleft_le9 hz
      · exact rest H1 p s1 (fun F nF => .inr ⟨dx, hp⟩) _ fun H' F xs s' nF an fl hl => ⟨_, _, rfl, p, F, xs, rfl, s', nF, an, fl, hl⟩
    rintro _ H1 ⟨p, F0, xs0, rfl, s1, nF0, an0, fl0, hl0⟩
    -- _law_found + [..]
    refine ⟨fun σ' H' => ∃ (F : Addr) (xs : List V), σ' = [some (tx z), some (.ref p), some (.ref F), none, none] ∧ Same H H' ∧ H F = none ∧ An L N F H' p ∧ FL F H' xs ∧ xs.length ≤ 7, ?_, ?_⟩
    · refine ⟨.ref F0, rfl, tx z, rfl, z, rfl, hz, fun H2 s2 => ⟨tx z, rfl, z, rfl, hz, fun H3 s3 => ⟨tx z, rfl, z, rfl, hz, fun H4 ps ws s4 nps stk hps hwl => ⟨(by show 3 ≤ sizeLine; decide), fun e ne => ?_⟩⟩⟩⟩
      have s14 := s2.trans (s3.trans s4)
      generalize k5 : upd H4 e _ = H5
      have s45 : Same H4 H5 := by rw [← k5]; exact same_upd ne
      have h5 : H5 e = some (.lst [nV (ways z), nV (rset z).length, .ref ps]) := by rw [← k5]; exact upd_same
      have s15 := s14.trans s45
      refine ⟨F0, e, _, _, rfl, rfl, s15 _ _ fl0.at_, h5, small (by show xs0.length + 3 ≤ 1000; omega), fun F nF => ?_⟩
      have sF := same_upd (o := HO.lst (xs0 ++ [nV (ways z), nV (rset z).length, .ref ps])) nF
      have s16 := s15.trans sF
      refine ⟨F, xs0 ++ [nV (ways z), nV (rset z).length, .ref ps], rfl, s1.trans s16, (s1.trans s15).free nF, ?_, ⟨upd_same, fun x hx => ?_⟩, by rw [List.length_append]; show xs0.length + 3 ≤ 7; omega⟩
      · rcases an0.same s15 with ⟨dx, qa, wy, a1, a2, a3, a4⟩ | ⟨dx, a1⟩
        · exact .inl ⟨dx, qa, wy, sF _ _ a1, ne_of_none a3 nF, sF _ _ a3, a4⟩
        · exact .inr ⟨dx, sF _ _ a1⟩
      · rcases List.mem_append.mp hx with m | m
        · rcases (fl0.el x m).same s15 with k | k | ⟨qq, ys, k1, k2, k3, k4, k5⟩
          · exact .inl k
          · exact .inr (.inl k)
          · exact .inr (.inr ⟨qq, ys, k1, ne_of_none k3 nF, sF _ _ k3, k4, k5⟩)
        · simp only [List.mem_cons, List.not_mem_nil, or_false] at m
          rcases m with rfl | rfl | rfl
          · exact .inl ⟨_, rfl⟩
          · exact .inl ⟨_, rfl⟩
          · have h3 := s45 _ _ hps
            exact (el_txs (ne_of_none h3 nF) h3 (by omega)).upd
    rintro _ H2 ⟨F, xs1, rfl, s2, nF, an1, fl1, hl1⟩
    -- if isinstance(_law_answer, Leads)
    refine ⟨fun σ' H' => ∃ (xs : List V), σ' = [some (tx z), some (.ref p), some (.ref F), none, none] ∧ Same H H' ∧ An L N F H' p ∧ FL F H' xs ∧ xs.length ≤ 8, ?_, ?_⟩
    · rcases id an1 with ⟨dx, qa, wy, a1, a2, a3, a4⟩ | ⟨dx, a1⟩
      · refine ⟨.ref p, rfl, .ref p, .ref L, .ref L, .ref L, true, rfl, .own L, InsC.ty Y.iL a1, Y.iL.me, true, rfl, ifT rfl ?_⟩
        refine ⟨.ref F, rfl, .inl ⟨rfl, _, SqL.of fl1.at_⟩, .ref p, rfl, p, L, dx, _, _, rfl, a1, Y.iL.cl, Y.noP, rfl, F, _, _, rfl, rfl, fl1.at_, L2.small1000 (by omega), ?_⟩
        exact ⟨xs1 ++ [.ref qa], rfl, same_upd2 s2 nF, an1.upd fl1.at_, fl1.app (el_nats a2 a3 (by omega)), by rw [List.length_append]; show xs1.length + 1 ≤ 8; omega⟩
      · refine ⟨.ref p, rfl, .ref p, .ref L, .ref N, .ref L, false, rfl, .own L, InsC.ty Y.iN a1, Y.NL, false, rfl, ifF rfl ?_⟩
        exact ⟨xs1, rfl, s2, an1, fl1, by omega⟩
    rintro _ H3 ⟨xs2, rfl, s3, an2, fl2, hl2⟩
    -- if ways(..) > 0
    refine ⟨fun σ' H' => ∃ (xs : List V), σ' = [some (tx z), some (.ref p), some (.ref F), none, none] ∧ Same H H' ∧ An L N F H' p ∧ FL F H' xs ∧ xs.length ≤ 9, ?_, ?_⟩
    · refine ⟨tx z, rfl, z, rfl, hz, fun H4 s4 => ⟨_, _, rfl, rfl, _, rfl, ifB (fun e => ?_) (fun e => ?_)⟩⟩
      · have hpos : 0 < ways z := by have := of_decide_eq_true e; omega
        obtain ⟨wy, hwy⟩ := ways_lt hpos
        have hwl : wy.length ≤ 24 := by
          rw [wl_len _ z (Nat.le_refl _) wy (List.mem_of_getElem? hwy)]
          exact mleft_le9 hz
        have fl4 := fl2.same s4
        refine ⟨.ref F, rfl, .inl ⟨rfl, _, SqL.of fl4.at_⟩, tx z, rfl, z, 0, wy, rfl, hz, hwy, fun H5 pw s5 npw hpw => ?_⟩
        have fl5 := fl4.same s5
        refine ⟨F, _, _, rfl, rfl, fl5.at_, L2.small1000 (by omega), ?_⟩
        exact ⟨xs2 ++ [.ref pw], rfl, same_upd2 (s3.trans (s4.trans s5)) nF, (an2.same (s4.trans s5)).upd fl5.at_, fl5.app (el_nats (ne_of_none fl4.at_ npw).symm hpw (by omega)), by rw [List.length_append]; show xs2.length + 1 ≤ 9; omega⟩
      · exact ⟨xs2, rfl, s3.trans s4, an2.same s4, fl2.same s4, by omega⟩
    rintro _ H4 ⟨xs3, rfl, s4, an3, fl3, hl3⟩
    -- each move
    refine ⟨tx z, rfl, z, rfl, hz60, fun H5 pm s5 npm hpm => ?_⟩
    have npF : pm ≠ F := (ne_of_none fl3.at_ npm).symm
    have hm2 := movers_two z
    refine ⟨pm, rfl, ⟨_, SqL.of hpm⟩, for_list (K := K) (a := pm) (xs := (movers z).map nV) (fun i σ H' => ∃ (y3 : Option V) (xs : List V), σ = [some (tx z), some (.ref p), some (.ref F), y3, none] ∧ Same H H' ∧ An L N F H' p ∧ FL F H' xs ∧ xs.length ≤ 9 + i ∧ H' pm = some (.lst ((movers z).map nV)))
      ⟨_, xs3, rfl, s4.trans s5, an3.same s5, fl3.same s5, by omega, hpm⟩ (fun i σ H' _ ⟨_, _, _, _, _, _, _, h⟩ => SqL.of h) ?_ ?_⟩
    · rintro i x σ H6 hx ⟨y3, xs4, rfl, s6, an4, fl4, hl4, hpm6⟩
      obtain ⟨pd, y, hq, rfl, hy⟩ := mover_ix hx
      have hi2 : i < 2 := by
        have := (List.getElem?_eq_some_iff.mp hx).1
        rw [List.length_map] at this
        omega
      refine ⟨.ref F, rfl, .inl ⟨rfl, _, SqL.of fl4.at_⟩, tx z, rfl, nV pd, rfl, z, pd, y, rfl, hy, hz60, fun H7 s7 => ?_⟩
      have fl7 := fl4.same s7
      refine ⟨F, _, _, rfl, rfl, fl7.at_, L2.small1000 (by omega), ?_⟩
      refine ⟨_, xs4 ++ [tx y], rfl, same_upd2 (s6.trans s7) nF, (an4.same s7).upd fl7.at_, fl7.app (.inr (.inl ⟨_, rfl⟩)), by rw [List.length_append]; show xs4.length + 1 ≤ 9 + (i + 1); omega, ?_⟩
      rw [upd_ne npF]
      exact s7 _ _ hpm6
    · rintro σ H6 ⟨y3, xs4, rfl, s6, an4, fl4, hl4, hpm6⟩
      rw [List.length_map] at hl4
      refine ⟨.ref F, rfl, .ref F, rfl, .lst fl4.at_ (by omega) (fun x hx => (fl4.el x hx).pl), fun H7 s7 => ⟨_, rfl, ifF rfl ?_⟩⟩
      -- each shows
      have an7 := an4.same s7
      refine ⟨.ref p, rfl, ?_⟩
      intro x1 dx1 nx1 ndx1 nex1
      generalize k8 : upd (upd H7 dx1 _) x1 _ = H8
      have s78 : Same H7 H8 := by rw [← k8]; exact (same_upd ndx1).trans (same_upd (by rw [upd_ne nex1.symm]; exact nx1))
      have h8 : H8 x1 = some (.ins N dx1 []) := by rw [← k8]; exact upd_same
      refine ⟨Nat.zero_le _, fun e9 ne9 => ?_⟩
      intro x2 dx2 nx2 ndx2 nex2
      generalize k9 : upd H8 e9 _ = H9 at nx2 ndx2 ⊢
      have s89 : Same H8 H9 := by rw [← k9]; exact same_upd ne9
      have h9 : H9 e9 = some (.lst (([] : List Int).map V.int)) := by rw [← k9]; exact upd_same
      generalize k10 : upd (upd H9 dx2 _) x2 _ = H10
      have s910 : Same H9 H10 := by rw [← k10]; exact (same_upd ndx2).trans (same_upd (by rw [upd_ne nex2.symm]; exact nx2))
      have h10 : H10 x2 = some (.ins L dx2 []) := by rw [← k10]; exact upd_same
      refine ⟨x2, dx2, e9, _, rfl, h10, SqL.of (s910 _ _ h9), fun qf nqf => ⟨rfl, ?_⟩⟩
      have nxq : x2 ≠ qf := ne_of_none h10 nqf
      generalize k11 : upd (upd H10 qf _) x2 _ = H11
      have s911 : Same H9 H11 := by rw [← k11]; exact same_upd2 (same_upd2 s910 (s910.free nqf)) nx2
      have h11 : H11 x2 = some (.ins L dx2 (fP qf)) := by rw [← k11]; exact upd_same
      have g11 : H11 qf = some (.lst (([] : List Int).map V.int)) := by rw [← k11, upd_ne nxq.symm]; exact upd_same
      have s711 := s78.trans (s89.trans s911)
      refine ⟨(by show 3 ≤ sizeLine; decide), fun l nl => ?_⟩
      generalize k12 : upd H11 l _ = H12
      have s1112 : Same H11 H12 := by rw [← k12]; exact same_upd nl
      have hl12 : H12 l = some (.lst [.ref p, .ref x1, .ref x2]) := by rw [← k12]; exact upd_same
      have sh : ∀ x ∈ [V.ref p, V.ref x1, V.ref x2], Sh L N H12 x := fun x hx => by
        simp only [List.mem_cons, List.not_mem_nil, or_false] at hx
        rcases hx with rfl | rfl | rfl
        · rcases an7.same (s711.trans s1112) with ⟨dx, qa, wy, a1, a2, a3, a4⟩ | ⟨dx, a1⟩
          · exact ⟨p, rfl, .inl ⟨dx, qa, zs wy, a1, by rw [a3, nV_ints]⟩⟩
          · exact ⟨p, rfl, .inr ⟨dx, a1⟩⟩
        · exact ⟨x1, rfl, .inr ⟨dx1, (s89.trans (s911.trans s1112)) _ _ h8⟩⟩
        · exact ⟨x2, rfl, .inl ⟨dx2, qf, [], s1112 _ _ h11, s1112 _ _ g11⟩⟩
      refine ⟨l, rfl, ⟨_, SqL.of hl12⟩, fun Dl nD => ?_⟩
      refine lc_it (walk_list (K := K) (a := l) (xs := [V.ref p, V.ref x1, V.ref x2])) (fun i H' => Same H12 H' ∧ ∃ bs : List Bool, bs.length = i ∧ H' Dl = some (.lst (bs.map V.bl))) ⟨same_upd nD, [], rfl, upd_same⟩ (fun i H' _ ⟨sa, _⟩ => SqL.of (sa _ _ hl12)) ?_ ?_
      · rintro i x _ H13 hi ⟨s13, bs, hbs, hD⟩ ⟨rfl, hx⟩
        have hi3 : i < 3 := hi
        obtain ⟨a', rfl, h'⟩ := (sh x (List.mem_of_getElem? hx)).same s13
        have fin : ∀ (b : Bool) (H14 : Hp), Same H13 H14 → ∃ acc, H14 Dl = some (.lst acc) ∧ acc.length < sizeLine ∧ Same H12 (upd H14 Dl (.lst (acc ++ [.bl b]))) ∧ ∃ bs : List Bool, bs.length = i + 1 ∧ (upd H14 Dl (.lst (acc ++ [.bl b]))) Dl = some (.lst (bs.map V.bl)) := fun b H14 s14 =>
          ⟨bs.map V.bl, s14 _ _ hD, L2.small1000 (by rw [List.length_map]; omega), same_upd2 (s13.trans s14) nD, bs ++ [b], by rw [List.length_append, hbs]; rfl, by rw [upd_same, List.map_append]; rfl⟩
        rcases h' with ⟨dx, qq, ms, b1, b2⟩ | ⟨dx, b1⟩
        · exact ⟨rfl, .inl ⟨.ref a', rfl, a', dx, _, rfl, b1, no_shows qq, tx z, rfl, a', dx, qq, ms, z, rfl, hz60, b1, SqL.of b2, fun H14 s14 => fin _ H14 s14⟩⟩
        · exact ⟨rfl, .inr ⟨.ref a', rfl, a', dx, _, rfl, b1, rfl, tx z, rfl, a', z, rfl, hz, fun H14 s14 => fin _ H14 s14⟩⟩
      · rintro H13 ⟨s13, bs, hbs, hD⟩
        refine ⟨Dl, bs, rfl, SqL.of hD, by rw [hbs]; show 3 ≤ 1000; decide, fun H14 s14 => ?_⟩
        exact q H14 (s6.trans (s7.trans (s711.trans (s1112.trans (s13.trans s14)))))
end
end PP

/-! ### _law_ways_promises, _law_promises_right of the law k08 -/
namespace PP
open PySem PySem.Spec PyProof.Rows L2 SX PR PL
theorem way_is {z : Zp} {n : Nat} {wy w' : List Nat} (h : (wl z)[n]? = some wy) (e : (wl z)[n]? = some w') : wy = w' := by
  rw [h] at e
  exact Option.some.inj e
theorem way_not {z : Zp} {n : Nat} {wy : List Nat} (h : (wl z)[n]? = some wy) (e : ways z = 0) : False := by
  have : n < ways z := (List.getElem?_eq_some_iff.mp h).1
  omega
theorem eqv_LL (ws : List (List Nat)) : PyData.eqv (dLL ws) (dLL ws) = true := SeqAt.eqv_refl _ (SeqAt.canLay_of_shaped (shaped_LL ws))
/-- a case: a standing and its moves -/
def Cs (H : Hp) (t : Addr) : Prop := ∃ (z : Zp) (q : Addr), H t = some (.tup [tx z, .ref q]) ∧ H q = some (.lst ((movers z).map nV)) ∧ pads z ≤ 60
theorem Cs.same {H H' : Hp} {t : Addr} (h : Cs H t) (s : Same H H') : Cs H' t := by
  obtain ⟨z, q, h1, h2, h3⟩ := h
  exact ⟨z, q, s _ _ h1, s _ _ h2, h3⟩
theorem Cs.mk {H H' : Hp} {q t : Addr} {xs : List V} {s : Str} (z : Zp) (k : upd (upd H q (.lst xs)) t (.tup [.str s, .ref q]) = H') (nq : H q = none) (nt : (upd H q (.lst xs)) t = none) (es : V.str s = tx z) (ex : xs = (movers z).map nV) (hz : pads z ≤ 60) : Same H H' ∧ Cs H' t := by
  subst k
  have ntq : q ≠ t := fun e => by rw [← e, upd_same] at nt; cases nt
  exact ⟨(same_upd nq).trans (same_upd nt), z, q, by rw [upd_same, es], by rw [upd_ne ntq, upd_same, ex], hz⟩
/-- a case: pads, a standing, whether they lead -/
def C3 (H : Hp) (t : Addr) : Prop := ∃ (q : Addr) (ns : List Int) (z : Zp), H t = some (.tup [.ref q, tx z, .bl (leadsB z ns)]) ∧ H q = some (.lst (ns.map V.int)) ∧ pads z ≤ 60
theorem C3.same {H H' : Hp} {t : Addr} (h : C3 H t) (s : Same H H') : C3 H' t := by
  obtain ⟨q, ns, z, h1, h2, h3⟩ := h
  exact ⟨q, ns, z, s _ _ h1, s _ _ h2, h3⟩
theorem C3.mk {H H' : Hp} {q t : Addr} {xs : List V} {s : Str} {b : Bool} (z : Zp) (ns : List Int) (k : upd (upd H q (.lst xs)) t (.tup [.ref q, .str s, .bl b]) = H') (nq : H q = none) (nt : (upd H q (.lst xs)) t = none) (es : V.str s = tx z) (ex : xs = ns.map V.int) (eb : b = leadsB z ns) (hz : pads z ≤ 60) : Same H H' ∧ C3 H' t := by
  subst k
  have ntq : q ≠ t := fun e => by rw [← e, upd_same] at nt; cases nt
  exact ⟨(same_upd nq).trans (same_upd nt), q, ns, z, by rw [upd_same, es, eb], by rw [upd_ne ntq, upd_same, ex], hz⟩
section
variable {P : Program} {w : World} {K : PySem.W.Frag} {mg : Str → Option Value} {base : Heap}
def spOk0 : Sp := fun vs H Q _ => vs = [] ∧ ∀ H', Same H H' → Q (.bl true) H'
theorem sc_wprom : FnScope ["_law_one", "_law_at"] [] (defScope s__law_ways_promises) := ⟨rfl, rfl, rfl, by decide +kernel, rfl, by decide +kernel, by decide +kernel⟩
theorem c_wprom {A L N : Addr} (Y : Ans K mg A L N) (T : Bl mg) (D : Df K mg "_law_ways_promises" s__law_ways_promises []) (cled : Cal P w K mg base 28 "led" (spLed L N)) (cm : Cal P w K mg base 2 "moves" spMovers) (cwy : Cal P w K mg base 27 "ways" spMany) (cc : Cal P w K mg base 3 "come_by" spCome) (cst : Cal P w K mg base 3 "stuck" spStuck)
    (cy : Cal P w K mg base 28 "way_by" spWayOf) (mN : Mtd P w K mg base 27 N "shows" (spShowsN N)) : Cal P w K mg base 29 "_law_ways_promises" spOk0 := by
  refine cal_of D sc_wprom (fun vs H Q E h => ?_) (fun f cdv Ar outer s H vs Q E hr h => ?_)
  · obtain ⟨rfl, _⟩ := h
    rfl
  · obtain ⟨rfl, q⟩ := h
    have nd := sc_wprom.nd
    refine ⟨_, (pss_cons (ps_if (PW.pt (pw_or (pt_not (pt_val (pe_isO (C := L) T.isi Y.mL (by rfl) (by rfl) (pe_c cled hr (by decide) (by rfl) (pa_cons pe_str pa_nil))))) (pw_or (pt_not (pt_val (pe_isO (C := N) T.isi Y.mN (by rfl) (by rfl) (pe_c cled hr (by decide) (by rfl) (pa_cons pe_str pa_nil))))) (pw_or1 (pt_cmpR (op_neD hr.units) (pe_fld (pe_c cled hr (by decide) (by rfl) (pa_cons pe_str pa_nil)) rfl) (pe_lst pa_nil) (nomark _))))))
      (pss_one (ps_ret pe_bl))
      pss_nil)
      (pss_cons (ps_if (PW.pt (pw_or (pt_val (pe_m (pe_makeO Y.mkN (by rfl) Y.mN) Y.iN.cl mN hr (by decide) (pa_cons pe_str pa_nil) (ht := mcall_of (abase_call (by decide)) (fun _ => rfl)))) (pw_or1 (pt_not (pt_val (pe_m (pe_makeO Y.mkN (by rfl) Y.mN) Y.iN.cl mN hr (by decide) (pa_cons pe_str pa_nil) (ht := mcall_of (abase_call (by decide)) (fun _ => rfl))))))))
      (pss_one (ps_ret pe_bl))
      pss_nil)
      (pss_cons (ps_if (pt_cmpR (op_neD hr.units) (pe_lc (own := [("_law_one", 0)]) (g := gName 0) (tt := tYes) (by rfl) nd (pi_tup (pe_tup (pa_cons pe_str (pa_cons pe_str (pa_cons pe_str (pa_cons pe_str (pa_cons pe_str pa_nil))))))) (blkOk_by (own := [("_law_one", 0)]) (N := ["_law_one", "_law_at"]) (sc := defScope s__law_ways_promises) (by decide +kernel)) (fun _ _ _ _ _ => pg_name (i := 0) nd rfl (Or.inl rfl)) (fun _ _ _ _ _ => pts_nil) (fun _ _ _ _ _ => (pe_c cwy hr (by decide) (by rfl) (pa_cons (pv 0) pa_nil)))) (pe_lst (pa_cons pe_int (pa_cons pe_int (pa_cons pe_int (pa_cons pe_int (pa_cons pe_int pa_nil)))))) (nomark _))
      (pss_one (ps_ret pe_bl))
      pss_nil)
      (pss_cons (ps_if (pt_cmpR (op_neD hr.units) (pe_lc (own := [("_law_at", 1)]) (g := gName 1) (tt := tYes) (by rfl) nd (pi_range1 (by rfl) T.range (pa_cons pe_int pa_nil)) (blkOk_by (own := [("_law_at", 1)]) (N := ["_law_one", "_law_at"]) (sc := defScope s__law_ways_promises) (by decide +kernel)) (fun _ _ _ _ _ => pg_name (i := 1) nd rfl (Or.inl rfl)) (fun _ _ _ _ _ => pts_nil) (fun _ _ _ _ _ => (pe_c cy hr (by decide) (by rfl) (pa_cons pe_str (pa_cons (pv 1) pa_nil))))) (pe_lst (pa_cons (pe_lst (pa_cons pe_int (pa_cons pe_int (pa_cons pe_int pa_nil)))) (pa_cons (pe_lst (pa_cons pe_int (pa_cons pe_int (pa_cons pe_int pa_nil)))) pa_nil))) (nomark _))
      (pss_one (ps_ret pe_bl))
      pss_nil)
      (pss_cons (ps_if (pt_cmpR (op_neD hr.units) (pe_c cy hr (by decide) (by rfl) (pa_cons pe_str (pa_cons pe_int pa_nil))) (pe_lst pa_nil) (nomark _))
      (pss_one (ps_ret pe_bl))
      pss_nil)
      (pss_cons (ps_if (pt_cmpR (op_neD hr.units) (pe_lc (own := [("_law_one", 0)]) (g := gName 0) (tt := tYes) (by rfl) nd (pi_tup (pe_tup (pa_cons pe_str (pa_cons pe_str (pa_cons pe_str (pa_cons pe_str (pa_cons pe_str pa_nil))))))) (blkOk_by (own := [("_law_one", 0)]) (N := ["_law_one", "_law_at"]) (sc := defScope s__law_ways_promises) (by decide +kernel)) (fun _ _ _ _ _ => pg_name (i := 0) nd rfl (Or.inl rfl)) (fun _ _ _ _ _ => pts_nil) (fun _ _ _ _ _ => (pe_c cc hr (by decide) (by rfl) (pa_cons (pv 0) pa_nil)))) (pe_lst (pa_cons pe_int (pa_cons pe_int (pa_cons pe_int (pa_cons pe_int (pa_cons pe_int pa_nil)))))) (nomark _))
      (pss_one (ps_ret pe_bl))
      pss_nil)
      (pss_cons (ps_if (pt_cmpR (op_neD hr.units) (pe_c cst hr (by decide) (by rfl) (pa_cons pe_str pa_nil)) (pe_lst (pa_cons pe_str pa_nil)) (nomark _))
      (pss_one (ps_ret pe_bl))
      pss_nil)
      (pss_cons (ps_if (pt_not (pt_cmpR (op_eqD hr.units) (pe_c cst hr (by decide) (by rfl) (pa_cons pe_str pa_nil)) (pe_lst pa_nil) (nomark _)))
      (pss_one (ps_ret pe_bl))
      pss_nil)
      (pss_cons (ps_if (pt_not (pt_cmpR (op_eqD hr.units) (pe_c cst hr (by decide) (by rfl) (pa_cons pe_str pa_nil)) (pe_lst pa_nil) (nomark _)))
      (pss_one (ps_ret pe_bl))
      pss_nil)
      (pss_cons (ps_if (pt_not (pt_cmpR (op_eqD hr.units) (pe_c cst hr (by decide) (by rfl) (pa_cons pe_str pa_nil)) (pe_lst pa_nil) (nomark _)))
      (pss_one (ps_ret pe_bl))
      pss_nil)
      (pss_one (ps_ret (pe_cmpR (op_eqD hr.units) (pe_c cm hr (by decide) (by rfl) (pa_cons (pe_op op_add_str (pe_op op_add_str (pe_op op_mul_str pe_str pe_int) pe_str) (pe_op op_mul_str pe_str pe_int)) pa_nil)) (pe_lst (pa_cons pe_int (pa_cons pe_int pa_nil))) (nomark _)))))))))))))), ?_⟩
    have h0 : Same H H := Same.refl _
    refine ⟨([true], [false]), by decide +kernel, by decide, fun H1 p1 dx1 qa1 wy hw s1 _ _ _ hp1 hq1 => ?_, fun h0 => absurd h0 (by decide +kernel)⟩
    refine ⟨.ref p1, .ref L, .ref L, .ref L, true, rfl, .own L, InsC.ty Y.iL hp1, Y.iL.me, true, rfl, ifF rfl ?_⟩
    refine ⟨([false, false, true, true], []), by decide +kernel, by decide, fun H2 p2 dx2 qa2 wy hw => absurd (show ways ([false, false, true, true], []) = 0 by decide +kernel) (fun h => way_not hw h), fun h0 H2 p2 dx2 s2 _ hp2 => ?_⟩
    refine ⟨.ref p2, .ref N, .ref N, .ref N, true, rfl, .own N, InsC.ty Y.iN hp2, Y.iN.me, true, rfl, ifF rfl ?_⟩
    refine ⟨([false], [true]), by decide +kernel, by decide, fun H3 p3 dx3 qa3 wy hw s3 _ _ _ hp3 hq3 => ?_, fun h0 => absurd h0 (by decide +kernel)⟩
    obtain rfl := way_is hw (w' := []) (by decide +kernel)
    refine ⟨p3, L, dx3, _, _, rfl, hp3, Y.iL.cl, Y.noP, rfl, Nat.zero_le _, fun e ne => ⟨dI (zs []), dI (zs []), dp_nats ((same_upd ne) _ _ hq3), dp_nats upd_same, shaped_ints _, shaped_ints _, _, rfl, ifF (by rw [eqv_nats, decide_eq_true rfl]; rfl) ?_⟩⟩
    have r1 : Same H (upd H3 e (.lst [])) := s1.trans (s2.trans (s3.trans (same_upd ne)))
    generalize upd H3 e _ = G0 at r1 ⊢
    intro x4 dx4 nx4 ndx4 nex4
    have sa0 : Same G0 _ := (same_upd (o := HO.own x4) ndx4).trans (same_upd (o := HO.ins N dx4 []) (by rw [upd_ne nex4.symm]; exact nx4))
    refine ⟨x4, dx4, [], rfl, upd_same, rfl, x4, ([true], [false]), congrArg (fun u => [V.ref x4, u]) (show V.str (Str.ofString "a.b") = tx ([true], [false]) by decide +kernel), by decide, fun G1 sg0 => ⟨_, rfl, ifF (by decide +kernel) ?_⟩⟩
    have r2 : Same H G1 := r1.trans (sa0.trans sg0)
    intro x5 dx5 nx5 ndx5 nex5
    have sa1 : Same G1 _ := (same_upd (o := HO.own x5) ndx5).trans (same_upd (o := HO.ins N dx5 []) (by rw [upd_ne nex5.symm]; exact nx5))
    refine ⟨x5, dx5, [], rfl, upd_same, rfl, x5, ([false, false, true, true], []), congrArg (fun u => [V.ref x5, u]) (show V.str (Str.ofString "aabb.") = tx ([false, false, true, true], []) by decide +kernel), by decide, fun G2 sg1 => ⟨_, rfl, ifF (by decide +kernel) ?_⟩⟩
    have r3 : Same H G2 := r2.trans (sa1.trans sg1)
    refine ⟨(by show 5 ≤ sizeLine; decide), fun tw ntw => ?_⟩
    generalize ktw : upd G2 tw _ = Gtw
    have stw : Same G2 Gtw := by rw [← ktw]; exact same_upd ntw
    have htw : Gtw tw = some (.tup (([([true], [false]), ([false], [true]), ([false, false, true, true], []), ([true], []), ([], [])] : List Zp).map tx)) := by rw [← ktw, upd_same]; exact congrArg (fun l => some (HO.tup l)) (by decide +kernel)
    refine ⟨tw, rfl, ⟨_, SqT.of htw⟩, fun Dw nDw => ?_⟩
    refine lc_it (walk_tup (K := K) (a := tw) (xs := ([([true], [false]), ([false], [true]), ([false, false, true, true], []), ([true], []), ([], [])] : List Zp).map tx)) (fun i H' => Same Gtw H' ∧ H' Dw = some (.lst ((([([true], [false]), ([false], [true]), ([false, false, true, true], []), ([true], []), ([], [])] : List Zp).take i).map fun y => nV (ways y)))) ⟨same_upd nDw, upd_same⟩ (fun i H' _ ⟨sa, _⟩ => SqT.of (sa _ _ htw)) ?_ ?_
    · rintro i x _ H6 hi ⟨s6, h6⟩ ⟨rfl, hx⟩
      obtain ⟨y, hy, rfl⟩ := tx_at hx
      have hy9 : pads y ≤ 9 := (show ∀ y ∈ ([([true], [false]), ([false], [true]), ([false, false, true, true], []), ([true], []), ([], [])] : List Zp), pads y ≤ 9 by decide) y (List.mem_of_getElem? hy)
      refine ⟨rfl, tx y, rfl, y, rfl, hy9, fun H7 s7 => ⟨_, s7 _ _ h6, ?_, same_upd2 (s6.trans s7) nDw, ?_⟩⟩
      · rw [List.length_map, List.length_take]
        exact L2.small1000 (by show min i 5 ≤ 1000; omega)
      · rw [upd_same, List.take_succ, hy, List.map_append]
        rfl
    rintro Guw ⟨suw, huw⟩
    have hvw : Guw Dw = some (.lst (([2, 1, 0, 1, 1] : List Nat).map nV)) := huw.trans (congrArg (fun l => some (HO.lst l)) (by decide +kernel))
    refine ⟨(by show 5 ≤ sizeLine; decide), fun ew new => ?_⟩
    generalize kew : upd Guw ew _ = G3
    have sew : Same Guw G3 := by rw [← kew]; exact same_upd new
    have hew : G3 ew = some (.lst (([2, 1, 0, 1, 1] : List Nat).map nV)) := by rw [← kew]; exact upd_same
    refine ⟨dI (zs [2, 1, 0, 1, 1]), dI (zs [2, 1, 0, 1, 1]), dp_nats (sew _ _ hvw), dp_nats hew, shaped_ints _, shaped_ints _, _, rfl, ifF (by rw [eqv_nats, decide_eq_true rfl]; rfl) ?_⟩
    have r4 : Same H G3 := r3.trans (stw.trans (suw.trans sew))
    refine ⟨2, rfl, by decide, by decide, fun Dr nDr => ?_⟩
    refine lc_it (walk_range (lo := 0) (n := 2)) (fun i H' => Same G3 H' ∧ ∃ qs : List Addr, H' Dr = some (.lst (qs.map V.ref)) ∧ Paired (fun q wy => q ≠ Dr ∧ H' q = some (.lst (wy.map nV))) qs (([[0, 2, 1], [2, 0, 1]] : List (List Nat)).take i)) ⟨same_upd nDr, [], upd_same, .nil⟩ (fun _ _ _ _ => trivial) ?_ ?_
    · rintro i x _ H6 hi ⟨s6, qs, h6, hpr⟩ ⟨rfl, rfl⟩
      obtain ⟨wy, hwy, hw⟩ : ∃ wy, ([[0, 2, 1], [2, 0, 1]] : List (List Nat))[i]? = some wy ∧ (wl ([true], [false]))[i]? = some wy := by
        match i, hi with
        | 0, _ => exact ⟨[0, 2, 1], rfl, by decide +kernel⟩
        | 1, _ => exact ⟨[2, 0, 1], rfl, by decide +kernel⟩
      have ev : [V.str (Str.ofString "a.b"), V.int (0 + (i : Int))] = [tx ([true], [false]), nV i] := by rw [show V.str (Str.ofString "a.b") = tx ([true], [false]) by decide +kernel, show (0 : Int) + (i : Int) = ((i : Nat) : Int) by omega]
      refine ⟨rfl, _, rfl, ([true], [false]), i, wy, ev, by decide, hw, fun H7 p7 s7 np7 hp7 => ?_⟩
      have nDp : p7 ≠ Dr := (ne_of_none h6 np7).symm
      refine ⟨_, s7 _ _ h6, ?_, same_upd2 (s6.trans s7) nDr, qs ++ [p7], by rw [upd_same, List.map_append]; rfl, ?_⟩
      · rw [List.length_map, pr_len hpr, List.length_take]
        exact L2.small1000 (by show min i 2 ≤ 1000; omega)
      · rw [List.take_succ, hwy]
        exact pr_append (pr_imp hpr fun a b ⟨n1, h1⟩ => ⟨n1, by rw [upd_ne n1]; exact s7 _ _ h1⟩) (.cons ⟨nDp, by rw [upd_ne nDp]; exact hp7⟩ .nil)
    rintro Gr ⟨sr, qsr, hr6, hprr⟩
    have llr : LL Gr Dr [[0, 2, 1], [2, 0, 1]] := ⟨qsr, hr6, pr_imp hprr fun a b h => h.2⟩
    refine ⟨(by show 3 ≤ sizeLine; decide), fun e1 ne1 => ⟨(by show 3 ≤ sizeLine; decide), fun e2 ne2 => ⟨(by show 2 ≤ sizeLine; decide), fun e3 ne3 => ?_⟩⟩⟩
    have j1 := same_upd (o := HO.lst [V.int 0, V.int 2, V.int 1]) ne1
    have j2 := same_upd (o := HO.lst [V.int 2, V.int 0, V.int 1]) ne2
    have j3 := same_upd (o := HO.lst [V.ref e1, V.ref e2]) ne3
    have lle : LL _ e3 [[0, 2, 1], [2, 0, 1]] := ⟨[e1, e2], upd_same (o := HO.lst [V.ref e1, V.ref e2]), .cons ((j2.trans j3) _ _ upd_same) (.cons (j3 _ _ upd_same) .nil)⟩
    refine ⟨dLL [[0, 2, 1], [2, 0, 1]], dLL [[0, 2, 1], [2, 0, 1]], dp_LL (llr.same (j1.trans (j2.trans j3))), dp_LL lle, shaped_LL _, shaped_LL _, _, rfl, ifF (by rw [eqv_LL]; rfl) ?_⟩
    have r5 := r4.trans (sr.trans (j1.trans (j2.trans j3)))
    generalize upd (upd (upd Gr e1 _) e2 _) e3 _ = G4 at r5 ⊢
    refine ⟨([false], [true]), 0, [], by decide +kernel, by decide, by decide +kernel, fun Gy py sy npy hpy => ⟨Nat.zero_le _, fun e ne => ⟨dI (zs []), dI (zs []), dp_nats ((same_upd ne) _ _ hpy), dp_nats upd_same, shaped_ints _, shaped_ints _, _, rfl, ifF (by rw [eqv_nats, decide_eq_true rfl]; rfl) ?_⟩⟩⟩
    have r6 : Same H (upd Gy e (.lst [])) := r5.trans (sy.trans (same_upd ne))
    generalize upd Gy e _ = G5 at r6 ⊢
    refine ⟨(by show 5 ≤ sizeLine; decide), fun tc ntc => ?_⟩
    generalize ktc : upd G5 tc _ = Gtc
    have stc : Same G5 Gtc := by rw [← ktc]; exact same_upd ntc
    have htc : Gtc tc = some (.tup (([([true], [false]), ([false], [true]), ([false, false, true, true], []), ([true], []), ([true, true], [])] : List Zp).map tx)) := by rw [← ktc, upd_same]; exact congrArg (fun l => some (HO.tup l)) (by decide +kernel)
    refine ⟨tc, rfl, ⟨_, SqT.of htc⟩, fun Dc nDc => ?_⟩
    refine lc_it (walk_tup (K := K) (a := tc) (xs := ([([true], [false]), ([false], [true]), ([false, false, true, true], []), ([true], []), ([true, true], [])] : List Zp).map tx)) (fun i H' => Same Gtc H' ∧ H' Dc = some (.lst ((([([true], [false]), ([false], [true]), ([false, false, true, true], []), ([true], []), ([true, true], [])] : List Zp).take i).map fun y => nV (rset y).length))) ⟨same_upd nDc, upd_same⟩ (fun i H' _ ⟨sa, _⟩ => SqT.of (sa _ _ htc)) ?_ ?_
    · rintro i x _ H6 hi ⟨s6, h6⟩ ⟨rfl, hx⟩
      obtain ⟨y, hy, rfl⟩ := tx_at hx
      have hy9 : pads y ≤ 9 := (show ∀ y ∈ ([([true], [false]), ([false], [true]), ([false, false, true, true], []), ([true], []), ([true, true], [])] : List Zp), pads y ≤ 9 by decide) y (List.mem_of_getElem? hy)
      refine ⟨rfl, tx y, rfl, y, rfl, hy9, fun H7 s7 => ⟨_, s7 _ _ h6, ?_, same_upd2 (s6.trans s7) nDc, ?_⟩⟩
      · rw [List.length_map, List.length_take]
        exact L2.small1000 (by show min i 5 ≤ 1000; omega)
      · rw [upd_same, List.take_succ, hy, List.map_append]
        rfl
    rintro Guc ⟨suc, huc⟩
    have hvc : Guc Dc = some (.lst (([6, 1, 1, 2, 3] : List Nat).map nV)) := huc.trans (congrArg (fun l => some (HO.lst l)) (by decide +kernel))
    refine ⟨(by show 5 ≤ sizeLine; decide), fun ec nec => ?_⟩
    generalize kec : upd Guc ec _ = G6
    have sec : Same Guc G6 := by rw [← kec]; exact same_upd nec
    have hec : G6 ec = some (.lst (([6, 1, 1, 2, 3] : List Nat).map nV)) := by rw [← kec]; exact upd_same
    refine ⟨dI (zs [6, 1, 1, 2, 3]), dI (zs [6, 1, 1, 2, 3]), dp_nats (sec _ _ hvc), dp_nats hec, shaped_ints _, shaped_ints _, _, rfl, ifF (by rw [eqv_nats, decide_eq_true rfl]; rfl) ?_⟩
    have r7 : Same H G6 := r6.trans (stc.trans (suc.trans sec))
    refine ⟨([false, false, true, true], []), by decide +kernel, by decide, fun Gs ps ws ss nps stk hps hwl => ?_⟩
    obtain rfl := stk.one (y := ([false, false, true, true], [])) (by decide +kernel)
    refine ⟨(by show 1 ≤ sizeLine; decide), fun e ne => ⟨dT [([false, false, true, true], [])], dT [([false, false, true, true], [])], dp_T ((same_upd ne) _ _ hps), dp_T (by rw [upd_same]; exact congrArg (fun l => some (HO.lst l)) (by decide +kernel)), shaped_T _, shaped_T _, _, rfl, ifF (by rw [eqv_T, decide_eq_true rfl]; rfl) ?_⟩⟩
    have q1 := r7.trans (ss.trans (same_upd (o := HO.lst [V.str (Str.ofString "aabb.")]) ne))
    generalize upd Gs e _ = M1 at q1 ⊢
    refine ⟨([true], [false]), by decide +kernel, by decide, fun Gs ps ws ss nps stk hps hwl => ?_⟩
    obtain rfl := stk.none (by decide +kernel)
    refine ⟨Nat.zero_le _, fun e ne => ⟨dT [], dT [], dp_T ((same_upd ne) _ _ hps), dp_T upd_same, shaped_T _, shaped_T _, _, rfl, ifF (by rw [eqv_T, decide_eq_true rfl]; rfl) ?_⟩⟩
    have q2 := q1.trans (ss.trans (same_upd (o := HO.lst []) ne))
    generalize upd Gs e _ = M2 at q2 ⊢
    refine ⟨([false], [true]), by decide +kernel, by decide, fun Gs ps ws ss nps stk hps hwl => ?_⟩
    obtain rfl := stk.none (by decide +kernel)
    refine ⟨Nat.zero_le _, fun e ne => ⟨dT [], dT [], dp_T ((same_upd ne) _ _ hps), dp_T upd_same, shaped_T _, shaped_T _, _, rfl, ifF (by rw [eqv_T, decide_eq_true rfl]; rfl) ?_⟩⟩
    have q3 := q2.trans (ss.trans (same_upd (o := HO.lst []) ne))
    generalize upd Gs e _ = M3 at q3 ⊢
    refine ⟨([true], [true]), by decide +kernel, by decide, fun Gs ps ws ss nps stk hps hwl => ?_⟩
    obtain rfl := stk.none (by decide +kernel)
    refine ⟨Nat.zero_le _, fun e ne => ⟨dT [], dT [], dp_T ((same_upd ne) _ _ hps), dp_T upd_same, shaped_T _, shaped_T _, _, rfl, ifF (by rw [eqv_T, decide_eq_true rfl]; rfl) ?_⟩⟩
    have q4 := q3.trans (ss.trans (same_upd (o := HO.lst []) ne))
    generalize upd Gs e _ = M4 at q4 ⊢
    have eT : (Txt.mul (Str.ofString "a") 30 ++ Str.ofString ".") ++ Txt.mul (Str.ofString "b") 29 = S (cps (List.replicate 30 true, List.replicate 29 false)) := by
      rw [s_a, PR.mul_one 97 (by omega), s_dot, s_b, PR.mul_one 98 (by omega), S_cat, S_cat]
      rfl
    refine ⟨_, _, rfl, rfl, (by rw [s_a]; exact mulOk_one 97 (by omega) (by omega)), _, _, rfl, rfl, ?_, _, _, rfl, rfl, (by rw [s_b]; exact mulOk_one 98 (by omega) (by omega)), _, _, rfl, rfl, ?_, (List.replicate 30 true, List.replicate 29 false), ?_, by decide, fun Gm pm sm npm hpm => ?_⟩
    · rw [s_a, PR.mul_one 97 (by omega), s_dot, S_len, S_len]
      exact small (by simp)
    · rw [s_a, PR.mul_one 97 (by omega), s_dot, s_b, PR.mul_one 98 (by omega), S_cat, S_len, S_len]
      exact small (by simp)
    · rw [eT]
      rfl
    have em : movers (List.replicate 30 true, List.replicate 29 false) = [29, 31] := by decide +kernel
    rw [em] at hpm
    refine ⟨(by show 2 ≤ sizeLine; decide), fun e ne => ⟨dI (zs [29, 31]), dI (zs [29, 31]), dp_nats ((same_upd ne) _ _ hpm), dp_nats upd_same, shaped_ints _, shaped_ints _, ?_⟩⟩
    rw [eqv_nats, decide_eq_true rfl]
    exact q _ (q4.trans (sm.trans (same_upd ne)))
abbrev nmProm : List Str := ["_law_cases", "_law_standing_here", "_law_pads", "_law_due", "_law_one"]
theorem sc_prom : FnScope nmProm [] (defScope s__law_promises_right) := ⟨rfl, rfl, rfl, by decide +kernel, rfl, by decide +kernel, by decide +kernel⟩
theorem c_prom {A L N : Addr} (Y : Ans K mg A L N) (T : Bl mg) (D : Df K mg "_law_promises_right" s__law_promises_right []) (cm : Cal P w K mg base 2 "moves" spMovers) (cv : Cal P w K mg base 2 "moved" spBehind) (cg : Cal P w K mg base 2 "goal" spGoal) (cl : Cal P w K mg base 2 "moves_left" spLeft) (ce : Cal P w K mg base 2 "exchange" spExch)
    (cr : Cal P w K mg base 2 "mirrored" spMirr) (ci : Mkr P w K mg base 1 "Leads" L (spInitL K L)) (mL : Mtd P w K mg base 2 L "shows" (spShowsL K L)) (cwp : Cal P w K mg base 29 "_law_ways_promises" spOk0) : Cal P w K mg base 30 "_law_promises_right" spOk0 := by
  refine cal_of D sc_prom (fun vs H Q E h => ?_) (fun f cdv Ar outer s H vs Q E hr h => ?_)
  · obtain ⟨rfl, _⟩ := h
    rfl
  · obtain ⟨rfl, q⟩ := h
    have nd := sc_prom.nd
    refine ⟨_, (C8.pss_cut (ps_set (i := 0) nd rfl (.inl rfl) (pe_lst (pa_cons (pe_tup (pa_cons pe_str (pa_cons (pe_lst (pa_cons pe_int (pa_cons pe_int pa_nil))) pa_nil))) (pa_cons (pe_tup (pa_cons pe_str (pa_cons (pe_lst (pa_cons pe_int pa_nil)) pa_nil))) (pa_cons (pe_tup (pa_cons pe_str (pa_cons (pe_lst (pa_cons pe_int pa_nil)) pa_nil))) (pa_cons (pe_tup (pa_cons pe_str (pa_cons (pe_lst pa_nil) pa_nil))) (pa_cons (pe_tup (pa_cons pe_str (pa_cons (pe_lst pa_nil) pa_nil))) (pa_cons (pe_tup (pa_cons pe_str (pa_cons (pe_lst (pa_cons pe_int pa_nil)) pa_nil))) pa_nil))))))))
      (C8.pss_cut (ps_set (i := 0) nd rfl (.inl rfl) (pe_op op_cat (pv 0) (pe_lst (pa_cons (pe_tup (pa_cons pe_str (pa_cons (pe_lst (pa_cons pe_int pa_nil)) pa_nil))) (pa_cons (pe_tup (pa_cons pe_str (pa_cons (pe_lst (pa_cons pe_int pa_nil)) pa_nil))) (pa_cons (pe_tup (pa_cons pe_str (pa_cons (pe_lst pa_nil) pa_nil))) (pa_cons (pe_tup (pa_cons pe_str (pa_cons (pe_lst (pa_cons pe_int (pa_cons pe_int pa_nil))) pa_nil))) pa_nil)))))))
      (C8.pss_cut (ps_for PassesOwn.never rfl (pi_list (pv 0)) (pg_tup rfl (pgs_cons (pg_name (i := 1) nd rfl (.inl rfl)) (pgs_cons (pg_name (i := 2) nd rfl (.inl rfl)) pgs_nil)))
      (pss_one (ps_if (pt_cmpR (op_neD hr.units) (pe_c cm hr (by decide) (by rfl) (pa_cons (pv 1) pa_nil)) (pv 2) (nomark _))
      (pss_one (ps_ret pe_bl))
      pss_nil)))
      (pss_cons (ps_if (PW.pt (pw_or (pt_cmpR op_ne (pe_c cv hr (by decide) (by rfl) (pa_cons pe_str (pa_cons pe_int pa_nil))) pe_str (nomark _)) (pw_or (pt_cmpR op_ne (pe_c cv hr (by decide) (by rfl) (pa_cons pe_str (pa_cons pe_int pa_nil))) pe_str (nomark _)) (pw_or1 (pt_cmpR op_ne (pe_c cv hr (by decide) (by rfl) (pa_cons pe_str (pa_cons pe_int pa_nil))) pe_str (nomark _))))))
      (pss_one (ps_ret pe_bl))
      pss_nil)
      (pss_cons (ps_if (pt_cmpR (op_neD hr.units) (pe_lc (own := [("_law_one", 4)]) (g := gName 4) (tt := tYes) (by rfl) nd (pi_tup (pe_tup (pa_cons pe_str (pa_cons pe_str (pa_cons pe_str (pa_cons pe_str pa_nil)))))) (blkOk_by (own := [("_law_one", 4)]) (N := nmProm) (sc := defScope s__law_promises_right) (by decide +kernel)) (fun _ _ _ _ _ => pg_name (i := 4) nd rfl (Or.inl rfl)) (fun _ _ _ _ _ => pts_nil) (fun _ _ _ _ _ => (pe_c cg hr (by decide) (by rfl) (pa_cons (pv 4) pa_nil)))) (pe_lst (pa_cons pe_str (pa_cons pe_str (pa_cons pe_str (pa_cons pe_str pa_nil))))) (nomark _))
      (pss_one (ps_ret pe_bl))
      pss_nil)
      (pss_cons (ps_if (pt_cmpR (op_neD hr.units) (pe_lc (own := [("_law_one", 4)]) (g := gName 4) (tt := tYes) (by rfl) nd (pi_tup (pe_tup (pa_cons pe_str (pa_cons pe_str (pa_cons pe_str (pa_cons pe_str (pa_cons pe_str (pa_cons pe_str pa_nil)))))))) (blkOk_by (own := [("_law_one", 4)]) (N := nmProm) (sc := defScope s__law_promises_right) (by decide +kernel)) (fun _ _ _ _ _ => pg_name (i := 4) nd rfl (Or.inl rfl)) (fun _ _ _ _ _ => pts_nil) (fun _ _ _ _ _ => (pe_c cl hr (by decide) (by rfl) (pa_cons (pv 4) pa_nil)))) (pe_lst (pa_cons pe_int (pa_cons pe_int (pa_cons pe_int (pa_cons pe_int (pa_cons pe_int (pa_cons pe_int pa_nil))))))) (nomark _))
      (pss_one (ps_ret pe_bl))
      pss_nil)
      (pss_cons (ps_if (pt_cmpR (op_neD hr.units) (pe_lst (pa_cons (pe_c ce hr (by decide) (by rfl) (pa_cons pe_int (pa_cons pe_int pa_nil))) (pa_cons (pe_c ce hr (by decide) (by rfl) (pa_cons pe_int (pa_cons pe_int pa_nil))) (pa_cons (pe_c ce hr (by decide) (by rfl) (pa_cons pe_int (pa_cons pe_int pa_nil))) (pa_cons (pe_c ce hr (by decide) (by rfl) (pa_cons pe_int (pa_cons pe_int pa_nil))) pa_nil))))) (pe_lst (pa_cons pe_int (pa_cons pe_int (pa_cons pe_int (pa_cons pe_int pa_nil))))) (nomark _))
      (pss_one (ps_ret pe_bl))
      pss_nil)
      (pss_cons (ps_if (PW.pt (pw_or (pt_cmpR op_ne (pe_c ce hr (by decide) (by rfl) (pa_cons (pe_op op_pow pe_int pe_int) (pa_cons (pe_op op_pow pe_int pe_int) pa_nil))) (pe_op op_add (pe_op op_pow pe_int pe_int) (pe_op op_mul pe_int (pe_op op_pow pe_int pe_int))) (nomark _)) (pw_or1 (pt_cmpR op_ne (pe_c cr hr (by decide) (by rfl) (pa_cons pe_str pa_nil)) pe_str (nomark _)))))
      (pss_one (ps_ret pe_bl))
      pss_nil)
      (pss_cons (ps_if (pt_cmpR op_ne (pe_c cr hr (by decide) (by rfl) (pa_cons (pe_c cr hr (by decide) (by rfl) (pa_cons pe_str pa_nil)) pa_nil)) pe_str (nomark _))
      (pss_one (ps_ret pe_bl))
      pss_nil)
      (C8.pss_cut (ps_set (i := 0) nd rfl (.inl rfl) (pe_lst (pa_cons (pe_tup (pa_cons (pe_lst (pa_cons pe_int (pa_cons pe_int (pa_cons pe_int pa_nil)))) (pa_cons pe_str (pa_cons pe_bl pa_nil)))) (pa_cons (pe_tup (pa_cons (pe_lst (pa_cons pe_int (pa_cons pe_int (pa_cons pe_int pa_nil)))) (pa_cons pe_str (pa_cons pe_bl pa_nil)))) (pa_cons (pe_tup (pa_cons (pe_lst (pa_cons pe_int (pa_cons pe_int pa_nil))) (pa_cons pe_str (pa_cons pe_bl pa_nil)))) pa_nil)))))
      (C8.pss_cut (ps_set (i := 0) nd rfl (.inl rfl) (pe_op op_cat (pv 0) (pe_lst (pa_cons (pe_tup (pa_cons (pe_lst (pa_cons pe_int (pa_cons pe_int (pa_cons pe_int (pa_cons pe_int pa_nil))))) (pa_cons pe_str (pa_cons pe_bl pa_nil)))) (pa_cons (pe_tup (pa_cons (pe_lst pa_nil) (pa_cons pe_str (pa_cons pe_bl pa_nil)))) (pa_cons (pe_tup (pa_cons (pe_lst pa_nil) (pa_cons pe_str (pa_cons pe_bl pa_nil)))) pa_nil))))))
      (C8.pss_cut (ps_set (i := 0) nd rfl (.inl rfl) (pe_op op_cat (pv 0) (pe_lst (pa_cons (pe_tup (pa_cons (pe_lst (pa_cons pe_int (pa_cons pe_int pa_nil))) (pa_cons pe_str (pa_cons pe_bl pa_nil)))) (pa_cons (pe_tup (pa_cons (pe_lst (pa_cons pe_int pa_nil)) (pa_cons pe_str (pa_cons pe_bl pa_nil)))) (pa_cons (pe_tup (pa_cons (pe_lst (pa_cons pe_int pa_nil)) (pa_cons pe_str (pa_cons pe_bl pa_nil)))) pa_nil))))))
      (pss_cons (ps_for PassesOwn.never rfl (pi_list (pv 0)) (pg_tup rfl (pgs_cons (pg_name (i := 2) nd rfl (.inl rfl)) (pgs_cons (pg_name (i := 1) nd rfl (.inl rfl)) (pgs_cons (pg_name (i := 3) nd rfl (.inl rfl)) pgs_nil))))
      (pss_one (ps_if (pt_cmpR op_ne (pe_m (pe_mkr ci hr (by decide) (by rfl) (pa_cons (pv 2) pa_nil)) Y.iL.cl mL hr (by decide) (pa_cons (pv 1) pa_nil)) (pv 3) (nomark _))
      (pss_one (ps_ret pe_bl))
      pss_nil)))
      (pss_one (ps_ret (pe_c0 cwp hr (by decide) (by rfl))))))))))))))))), ?_⟩
    have : True := trivial
    refine ⟨fun σ' H' => ∃ (cl : Addr) (ts : List Addr), σ' = [some (.ref cl), none, none, none, none] ∧ Same H H' ∧ H' cl = some (.lst (ts.map V.ref)) ∧ (∀ t ∈ ts, Cs H' t) ∧ ts.length ≤ 6, ?_, ?_⟩
    · skip
      refine ⟨(by show 2 ≤ sizeLine; decide), fun q1 nq1 => ⟨(by show 2 ≤ sizeLine; decide), fun t1 nt1 => ?_⟩⟩
      generalize k1 : upd (upd H q1 _) t1 _ = J1
      obtain ⟨v1, c1⟩ := Cs.mk ([true], [false]) k1 nq1 nt1 (by decide +kernel) (by decide +kernel) (by decide)
      refine ⟨(by show 1 ≤ sizeLine; decide), fun q2 nq2 => ⟨(by show 2 ≤ sizeLine; decide), fun t2 nt2 => ?_⟩⟩
      generalize k2 : upd (upd J1 q2 _) t2 _ = J2
      obtain ⟨v2, c2⟩ := Cs.mk ([false, true], []) k2 nq2 nt2 (by decide +kernel) (by decide +kernel) (by decide)
      refine ⟨(by show 1 ≤ sizeLine; decide), fun q3 nq3 => ⟨(by show 2 ≤ sizeLine; decide), fun t3 nt3 => ?_⟩⟩
      generalize k3 : upd (upd J2 q3 _) t3 _ = J3
      obtain ⟨v3, c3⟩ := Cs.mk ([true, true], []) k3 nq3 nt3 (by decide +kernel) (by decide +kernel) (by decide)
      refine ⟨Nat.zero_le _, fun q4 nq4 => ⟨(by show 2 ≤ sizeLine; decide), fun t4 nt4 => ?_⟩⟩
      generalize k4 : upd (upd J3 q4 _) t4 _ = J4
      obtain ⟨v4, c4⟩ := Cs.mk ([false], [true]) k4 nq4 nt4 (by decide +kernel) (by decide +kernel) (by decide)
      refine ⟨Nat.zero_le _, fun q5 nq5 => ⟨(by show 2 ≤ sizeLine; decide), fun t5 nt5 => ?_⟩⟩
      generalize k5 : upd (upd J4 q5 _) t5 _ = J5
      obtain ⟨v5, c5⟩ := Cs.mk ([], []) k5 nq5 nt5 (by decide +kernel) (by decide +kernel) (by decide)
      refine ⟨(by show 1 ≤ sizeLine; decide), fun q6 nq6 => ⟨(by show 2 ≤ sizeLine; decide), fun t6 nt6 => ?_⟩⟩
      generalize k6 : upd (upd J5 q6 _) t6 _ = J6
      obtain ⟨v6, c6⟩ := Cs.mk ([], [false, false]) k6 nq6 nt6 (by decide +kernel) (by decide +kernel) (by decide)
      refine ⟨(by show 6 ≤ sizeLine; decide), fun l nl => ?_⟩
      generalize kl : upd J6 l _ = J7
      have v7 : Same J6 J7 := by rw [← kl]; exact same_upd nl
      have hl : J7 l = some (.lst ([t1, t2, t3, t4, t5, t6].map V.ref)) := by rw [← kl]; exact upd_same
      have u6 := v7
      have u5 := v6.trans u6
      have u4 := v5.trans u5
      have u3 := v4.trans u4
      have u2 := v3.trans u3
      have u1 := v2.trans u2
      have u0 := v1.trans u1
      have ca : ∀ t ∈ [t1, t2, t3, t4, t5, t6], Cs J7 t := fun t ht => by
        simp only [List.mem_cons, List.not_mem_nil, or_false] at ht
        rcases ht with rfl | rfl | rfl | rfl | rfl | rfl
        · exact c1.same u1
        · exact c2.same u2
        · exact c3.same u3
        · exact c4.same u4
        · exact c5.same u5
        · exact c6.same u6
      exact ⟨l, [t1, t2, t3, t4, t5, t6], rfl, u0, hl, ca, Nat.le_refl _⟩
    rintro _ Hc1 ⟨cl1, ts1, rfl, sc1, hcl1, hts1, hln1⟩
    refine ⟨fun σ' H' => ∃ (cl : Addr) (ts : List Addr), σ' = [some (.ref cl), none, none, none, none] ∧ Same H H' ∧ H' cl = some (.lst (ts.map V.ref)) ∧ (∀ t ∈ ts, Cs H' t) ∧ ts.length ≤ 10, ?_, ?_⟩
    · refine ⟨.ref cl1, rfl, ?_⟩
      refine ⟨(by show 1 ≤ sizeLine; decide), fun q1 nq1 => ⟨(by show 2 ≤ sizeLine; decide), fun t1 nt1 => ?_⟩⟩
      generalize k1 : upd (upd Hc1 q1 _) t1 _ = J1
      obtain ⟨v1, c1⟩ := Cs.mk ([true], [true]) k1 nq1 nt1 (by decide +kernel) (by decide +kernel) (by decide)
      refine ⟨(by show 1 ≤ sizeLine; decide), fun q2 nq2 => ⟨(by show 2 ≤ sizeLine; decide), fun t2 nt2 => ?_⟩⟩
      generalize k2 : upd (upd J1 q2 _) t2 _ = J2
      obtain ⟨v2, c2⟩ := Cs.mk ([], [true, false]) k2 nq2 nt2 (by decide +kernel) (by decide +kernel) (by decide)
      refine ⟨Nat.zero_le _, fun q3 nq3 => ⟨(by show 2 ≤ sizeLine; decide), fun t3 nt3 => ?_⟩⟩
      generalize k3 : upd (upd J2 q3 _) t3 _ = J3
      obtain ⟨v3, c3⟩ := Cs.mk ([false, false], []) k3 nq3 nt3 (by decide +kernel) (by decide +kernel) (by decide)
      refine ⟨(by show 2 ≤ sizeLine; decide), fun q4 nq4 => ⟨(by show 2 ≤ sizeLine; decide), fun t4 nt4 => ?_⟩⟩
      generalize k4 : upd (upd J3 q4 _) t4 _ = J4
      obtain ⟨v4, c4⟩ := Cs.mk ([true], [false, false]) k4 nq4 nt4 (by decide +kernel) (by decide +kernel) (by decide)
      refine ⟨(by show 4 ≤ sizeLine; decide), fun l nl => ?_⟩
      generalize kl : upd J4 l _ = J5
      have v5 : Same J4 J5 := by rw [← kl]; exact same_upd nl
      have hl : J5 l = some (.lst ([t1, t2, t3, t4].map V.ref)) := by rw [← kl]; exact upd_same
      have u4 := v5
      have u3 := v4.trans u4
      have u2 := v3.trans u3
      have u1 := v2.trans u2
      have u0 := v1.trans u1
      have ca : ∀ t ∈ [t1, t2, t3, t4], Cs J5 t := fun t ht => by
        simp only [List.mem_cons, List.not_mem_nil, or_false] at ht
        rcases ht with rfl | rfl | rfl | rfl
        · exact c1.same u1
        · exact c2.same u2
        · exact c3.same u3
        · exact c4.same u4
      refine ⟨cl1, l, _, _, rfl, rfl, u0 _ _ hcl1, hl, small (by rw [List.length_map]; show ts1.length + 4 ≤ 1000; omega), fun r nr => ?_⟩
      have sr := same_upd (o := HO.lst (ts1.map V.ref ++ [t1, t2, t3, t4].map V.ref)) nr
      refine ⟨r, ts1 ++ [t1, t2, t3, t4], rfl, sc1.trans (u0.trans sr), by rw [upd_same, List.map_append], fun t ht => ?_, by rw [List.length_append]; show ts1.length + 4 ≤ 10; omega⟩
      rcases List.mem_append.mp ht with m | m
      · exact (hts1 t m).same (u0.trans sr)
      · exact (ca t m).same sr
    rintro _ Hc2 ⟨cl2, ts2, rfl, sc2, hcl2, hts2, hln2⟩
    refine ⟨fun σ' H' => ∃ y1 y2, σ' = [some (.ref cl2), y1, y2, none, none] ∧ Same H H', ?_, ?_⟩
    · refine ⟨.ref cl2, rfl, cl2, rfl, ⟨_, SqL.of hcl2⟩, for_list (K := K) (a := cl2) (xs := ts2.map V.ref) (fun i σ H' => ∃ y1 y2, σ = [some (.ref cl2), y1, y2, none, none] ∧ Same Hc2 H')
        ⟨_, _, rfl, Same.refl _⟩ (fun i σ H' _ ⟨_, _, _, sx⟩ => SqL.of (sx _ _ hcl2)) ?_ ?_⟩
      · rintro i x σ H3 hx ⟨y1, y2, rfl, s3⟩
        obtain ⟨t, ht, rfl⟩ := List.mem_map.mp (List.mem_of_getElem? hx)
        obtain ⟨z, qa, h1, h2, h3⟩ := (hts2 t ht).same s3
        refine ⟨t, [tx z, .ref qa], rfl, SqT.of h1, rfl, tx z, [.ref qa], rfl, .ref qa, [], rfl, rfl, ?_⟩
        refine ⟨tx z, rfl, z, rfl, h3, fun H4 pm s4 npm hpm => ⟨.ref qa, rfl, dI (zs (movers z)), dI (zs (movers z)), dp_nats hpm, dp_nats (s4 _ _ h2), shaped_ints _, shaped_ints _, _, rfl, ifF (by rw [eqv_nats, decide_eq_true rfl]; rfl) ?_⟩⟩
        exact ⟨_, _, rfl, s3.trans s4⟩
      · rintro σ H3 ⟨y1, y2, rfl, s3⟩
        exact ⟨y1, y2, rfl, sc2.trans s3⟩
    rintro _ G0 ⟨y1, y2, rfl, r1⟩
    refine ⟨([true], [false]), 0, ([], [true, false]), by decide +kernel, by decide, by decide, fun G1 sm1 => ⟨rfl, false, by decide +kernel, ifF rfl ?_⟩⟩
    refine ⟨([false, true], []), 0, ([], [false, true]), by decide +kernel, by decide, by decide, fun G2 sm2 => ⟨rfl, false, by decide +kernel, ifF rfl ?_⟩⟩
    refine ⟨([], [true, false]), 2, ([true, false], []), by decide +kernel, by decide, by decide, fun G3 sm3 => ⟨rfl, false, by decide +kernel, ifF rfl ?_⟩⟩
    have r4 : Same H G3 := r1.trans (sm1.trans (sm2.trans sm3))
    refine ⟨(by show 4 ≤ sizeLine; decide), fun tg ntg => ?_⟩
    generalize ktg : upd G3 tg _ = Gtg
    have stg : Same G3 Gtg := by rw [← ktg]; exact same_upd ntg
    have htg : Gtg tg = some (.tup (([([true], [false]), ([false, true, true], []), ([], []), ([false, false], [])] : List Zp).map tx)) := by rw [← ktg, upd_same]; exact congrArg (fun l => some (HO.tup l)) (by decide +kernel)
    refine ⟨tg, rfl, ⟨_, SqT.of htg⟩, fun Dg nDg => ?_⟩
    refine lc_it (walk_tup (K := K) (a := tg) (xs := ([([true], [false]), ([false, true, true], []), ([], []), ([false, false], [])] : List Zp).map tx)) (fun i H' => Same Gtg H' ∧ H' Dg = some (.lst ((([([true], [false]), ([false, true, true], []), ([], []), ([false, false], [])] : List Zp).take i).map fun y => tx (goal y)))) ⟨same_upd nDg, upd_same⟩ (fun i H' _ ⟨sa, _⟩ => SqT.of (sa _ _ htg)) ?_ ?_
    · rintro i x _ H6 hi ⟨s6, h6⟩ ⟨rfl, hx⟩
      obtain ⟨y, hy, rfl⟩ := tx_at hx
      have hy9 : pads y ≤ 60 := (show ∀ y ∈ ([([true], [false]), ([false, true, true], []), ([], []), ([false, false], [])] : List Zp), pads y ≤ 60 by decide) y (List.mem_of_getElem? hy)
      refine ⟨rfl, tx y, rfl, y, rfl, hy9, fun H7 s7 => ⟨_, s7 _ _ h6, ?_, same_upd2 (s6.trans s7) nDg, ?_⟩⟩
      · rw [List.length_map, List.length_take]
        exact L2.small1000 (by show min i 4 ≤ 1000; omega)
      · rw [upd_same, List.take_succ, hy, List.map_append]
        rfl
    rintro Gug ⟨sug, hug⟩
    have hvg : Gug Dg = some (.lst (([([false], [true]), ([false], [true, true]), ([], []), ([false, false], [])] : List Zp).map tx)) := hug.trans (congrArg (fun l => some (HO.lst l)) (by decide +kernel))
    refine ⟨(by show 4 ≤ sizeLine; decide), fun eg neg => ?_⟩
    generalize keg : upd Gug eg _ = G4
    have seg : Same Gug G4 := by rw [← keg]; exact same_upd neg
    have heg : G4 eg = some (.lst (([([false], [true]), ([false], [true, true]), ([], []), ([false, false], [])] : List Zp).map tx)) := by rw [← keg, upd_same]; exact congrArg (fun l => some (HO.lst l)) (by decide +kernel)
    refine ⟨dT [([false], [true]), ([false], [true, true]), ([], []), ([false, false], [])], dT [([false], [true]), ([false], [true, true]), ([], []), ([false, false], [])], dp_T (seg _ _ hvg), dp_T heg, shaped_T _, shaped_T _, _, rfl, ifF (by rw [eqv_T, decide_eq_true rfl]; rfl) ?_⟩
    have r5 : Same H G4 := r4.trans (stg.trans (sug.trans seg))
    refine ⟨(by show 6 ≤ sizeLine; decide), fun tl ntl => ?_⟩
    generalize ktl : upd G4 tl _ = Gtl
    have stl : Same G4 Gtl := by rw [← ktl]; exact same_upd ntl
    have htl : Gtl tl = some (.tup (([([true], [false]), ([false], [true]), ([false, true], []), ([], []), ([false, false, true, true], []), ([true], [])] : List Zp).map tx)) := by rw [← ktl, upd_same]; exact congrArg (fun l => some (HO.tup l)) (by decide +kernel)
    refine ⟨tl, rfl, ⟨_, SqT.of htl⟩, fun Dl nDl => ?_⟩
    refine lc_it (walk_tup (K := K) (a := tl) (xs := ([([true], [false]), ([false], [true]), ([false, true], []), ([], []), ([false, false, true, true], []), ([true], [])] : List Zp).map tx)) (fun i H' => Same Gtl H' ∧ H' Dl = some (.lst ((([([true], [false]), ([false], [true]), ([false, true], []), ([], []), ([false, false, true, true], []), ([true], [])] : List Zp).take i).map fun y => nV (mleft y)))) ⟨same_upd nDl, upd_same⟩ (fun i H' _ ⟨sa, _⟩ => SqT.of (sa _ _ htl)) ?_ ?_
    · rintro i x _ H6 hi ⟨s6, h6⟩ ⟨rfl, hx⟩
      obtain ⟨y, hy, rfl⟩ := tx_at hx
      have hy9 : pads y ≤ 60 := (show ∀ y ∈ ([([true], [false]), ([false], [true]), ([false, true], []), ([], []), ([false, false, true, true], []), ([true], [])] : List Zp), pads y ≤ 60 by decide) y (List.mem_of_getElem? hy)
      refine ⟨rfl, tx y, rfl, y, rfl, hy9, fun H7 s7 => ⟨_, s7 _ _ h6, ?_, same_upd2 (s6.trans s7) nDl, ?_⟩⟩
      · rw [List.length_map, List.length_take]
        exact L2.small1000 (by show min i 6 ≤ 1000; omega)
      · rw [upd_same, List.take_succ, hy, List.map_append]
        rfl
    rintro Gul ⟨sul, hul⟩
    have hvl : Gul Dl = some (.lst (([3, 0, 2, 0, 6, 1] : List Nat).map nV)) := hul.trans (congrArg (fun l => some (HO.lst l)) (by decide +kernel))
    refine ⟨(by show 6 ≤ sizeLine; decide), fun el nel => ?_⟩
    generalize kel : upd Gul el _ = G5
    have sel : Same Gul G5 := by rw [← kel]; exact same_upd nel
    have hel : G5 el = some (.lst (([3, 0, 2, 0, 6, 1] : List Nat).map nV)) := by rw [← kel]; exact upd_same
    refine ⟨dI (zs [3, 0, 2, 0, 6, 1]), dI (zs [3, 0, 2, 0, 6, 1]), dp_nats (sel _ _ hvl), dp_nats hel, shaped_ints _, shaped_ints _, _, rfl, ifF (by rw [eqv_nats, decide_eq_true rfl]; rfl) ?_⟩
    have r6 : Same H G5 := r5.trans (stl.trans (sul.trans sel))
    have hsm : ∀ {x y : Int}, 0 ≤ x → x < 2 ^ 30 → IntMulOk x y := fun h1 h2 => .of_left (intBits_le_64 (by omega) (by omega))
    refine ⟨1, 1, rfl, by decide, by decide, hsm (by decide) (by decide), 0, 5, rfl, by decide, by decide, hsm (by decide) (by decide), 2, 3, rfl, by decide, by decide, hsm (by decide) (by decide), 0, 0, rfl, by decide, by decide, hsm (by decide) (by decide), (by show 4 ≤ sizeLine; decide), fun ea nea => ⟨(by show 4 ≤ sizeLine; decide), fun eb neb => ?_⟩⟩
    have ja := same_upd (o := HO.lst ([3, 5, 11, 0].map V.int)) nea
    have jb := same_upd (o := HO.lst ([3, 5, 11, 0].map V.int)) neb
    refine ⟨dI [3, 5, 11, 0], dI [3, 5, 11, 0], dp_ints (SqL.of (jb _ _ upd_same)), dp_ints (SqL.of upd_same), shaped_ints _, shaped_ints _, _, rfl, ifF (by rw [eqv_ints, decide_eq_true rfl]; rfl) ?_⟩
    generalize kx : upd (upd G5 ea _) eb _ = G6
    have r7 : Same H G6 := by rw [← kx]; exact r6.trans ((same_upd nea).trans (same_upd neb))
    have hbig : IntMulOk (10 ^ (20 : Int).toNat) (10 ^ (20 : Int).toNat) := IntMulOk.of_le (show Builtin.Int.intBits (10 ^ (20 : Int).toNat) ≤ 70 by decide +kernel) (show Builtin.Int.intBits (10 ^ (20 : Int).toNat) ≤ 70 by decide +kernel) (by decide)
    refine ⟨10, 20, rfl, rfl, ⟨by decide, by decide, by decide⟩, 10, 20, rfl, rfl, ⟨by decide, by decide, by decide⟩, 10 ^ (20 : Int).toNat, 10 ^ (20 : Int).toNat, rfl, by decide +kernel, by decide +kernel, hbig, 10, 40, rfl, rfl, ⟨by decide, by decide, by decide⟩, 10, 20, rfl, rfl, ⟨by decide, by decide, by decide⟩, _, _, rfl, rfl, .inl ⟨by decide, by decide⟩, _, _, rfl, rfl, rfl, false, by decide +kernel, ifF rfl ?_⟩
    refine ⟨([false, true, true], []), by decide +kernel, by decide, fun Ga sa => ⟨rfl, false, by decide +kernel, ifF rfl ?_⟩⟩
    refine ⟨([false, true], [false, true]), by decide +kernel, by decide, fun Gb sb => ⟨mirror ([false, true], [false, true]), rfl, by decide, fun Gc sc => ⟨rfl, false, by decide +kernel, ifF rfl ?_⟩⟩⟩
    have rc : Same H Gc := r7.trans (sa.trans (sb.trans sc))
    refine ⟨fun σ' H' => ∃ (cl : Addr) (ts : List Addr), σ' = [some (.ref cl), y1, y2, none, none] ∧ Same H H' ∧ H' cl = some (.lst (ts.map V.ref)) ∧ (∀ t ∈ ts, C3 H' t) ∧ ts.length ≤ 3, ?_, ?_⟩
    · skip
      refine ⟨(by show 3 ≤ sizeLine; decide), fun q1 nq1 => ⟨(by show 3 ≤ sizeLine; decide), fun t1 nt1 => ?_⟩⟩
      generalize k1 : upd (upd Gc q1 _) t1 _ = J1
      obtain ⟨v1, c1⟩ := C3.mk ([true], [false]) [0, 2, 1] k1 nq1 nt1 (by decide +kernel) (by decide +kernel) (by decide +kernel) (by decide)
      refine ⟨(by show 3 ≤ sizeLine; decide), fun q2 nq2 => ⟨(by show 3 ≤ sizeLine; decide), fun t2 nt2 => ?_⟩⟩
      generalize k2 : upd (upd J1 q2 _) t2 _ = J2
      obtain ⟨v2, c2⟩ := C3.mk ([true], [false]) [2, 0, 1] k2 nq2 nt2 (by decide +kernel) (by decide +kernel) (by decide +kernel) (by decide)
      refine ⟨(by show 2 ≤ sizeLine; decide), fun q3 nq3 => ⟨(by show 3 ≤ sizeLine; decide), fun t3 nt3 => ?_⟩⟩
      generalize k3 : upd (upd J2 q3 _) t3 _ = J3
      obtain ⟨v3, c3⟩ := C3.mk ([true], [false]) [0, 2] k3 nq3 nt3 (by decide +kernel) (by decide +kernel) (by decide +kernel) (by decide)
      refine ⟨(by show 3 ≤ sizeLine; decide), fun l nl => ?_⟩
      generalize kl : upd J3 l _ = J4
      have v4 : Same J3 J4 := by rw [← kl]; exact same_upd nl
      have hl : J4 l = some (.lst ([t1, t2, t3].map V.ref)) := by rw [← kl]; exact upd_same
      have u3 := v4
      have u2 := v3.trans u3
      have u1 := v2.trans u2
      have u0 := v1.trans u1
      have ca : ∀ t ∈ [t1, t2, t3], C3 J4 t := fun t ht => by
        simp only [List.mem_cons, List.not_mem_nil, or_false] at ht
        rcases ht with rfl | rfl | rfl
        · exact c1.same u1
        · exact c2.same u2
        · exact c3.same u3
      exact ⟨l, [t1, t2, t3], rfl, rc.trans u0, hl, ca, Nat.le_refl _⟩
    rintro _ Hc1 ⟨cl1, ts1, rfl, sc1, hcl1, hts1, hln1⟩
    refine ⟨fun σ' H' => ∃ (cl : Addr) (ts : List Addr), σ' = [some (.ref cl), y1, y2, none, none] ∧ Same H H' ∧ H' cl = some (.lst (ts.map V.ref)) ∧ (∀ t ∈ ts, C3 H' t) ∧ ts.length ≤ 6, ?_, ?_⟩
    · refine ⟨.ref cl1, rfl, ?_⟩
      refine ⟨(by show 4 ≤ sizeLine; decide), fun q1 nq1 => ⟨(by show 3 ≤ sizeLine; decide), fun t1 nt1 => ?_⟩⟩
      generalize k1 : upd (upd Hc1 q1 _) t1 _ = J1
      obtain ⟨v1, c1⟩ := C3.mk ([true], [false]) [0, 2, 1, 0] k1 nq1 nt1 (by decide +kernel) (by decide +kernel) (by decide +kernel) (by decide)
      refine ⟨Nat.zero_le _, fun q2 nq2 => ⟨(by show 3 ≤ sizeLine; decide), fun t2 nt2 => ?_⟩⟩
      generalize k2 : upd (upd J1 q2 _) t2 _ = J2
      obtain ⟨v2, c2⟩ := C3.mk ([false], [true]) [] k2 nq2 nt2 (by decide +kernel) (by decide +kernel) (by decide +kernel) (by decide)
      refine ⟨Nat.zero_le _, fun q3 nq3 => ⟨(by show 3 ≤ sizeLine; decide), fun t3 nt3 => ?_⟩⟩
      generalize k3 : upd (upd J2 q3 _) t3 _ = J3
      obtain ⟨v3, c3⟩ := C3.mk ([true], [false]) [] k3 nq3 nt3 (by decide +kernel) (by decide +kernel) (by decide +kernel) (by decide)
      refine ⟨(by show 3 ≤ sizeLine; decide), fun l nl => ?_⟩
      generalize kl : upd J3 l _ = J4
      have v4 : Same J3 J4 := by rw [← kl]; exact same_upd nl
      have hl : J4 l = some (.lst ([t1, t2, t3].map V.ref)) := by rw [← kl]; exact upd_same
      have u3 := v4
      have u2 := v3.trans u3
      have u1 := v2.trans u2
      have u0 := v1.trans u1
      have ca : ∀ t ∈ [t1, t2, t3], C3 J4 t := fun t ht => by
        simp only [List.mem_cons, List.not_mem_nil, or_false] at ht
        rcases ht with rfl | rfl | rfl
        · exact c1.same u1
        · exact c2.same u2
        · exact c3.same u3
      refine ⟨cl1, l, _, _, rfl, rfl, u0 _ _ hcl1, hl, small (by rw [List.length_map]; show ts1.length + 3 ≤ 1000; omega), fun r nr => ?_⟩
      have sr := same_upd (o := HO.lst (ts1.map V.ref ++ [t1, t2, t3].map V.ref)) nr
      refine ⟨r, ts1 ++ [t1, t2, t3], rfl, sc1.trans (u0.trans sr), by rw [upd_same, List.map_append], fun t ht => ?_, by rw [List.length_append]; show ts1.length + 3 ≤ 6; omega⟩
      rcases List.mem_append.mp ht with m | m
      · exact (hts1 t m).same (u0.trans sr)
      · exact (ca t m).same sr
    rintro _ Hc2 ⟨cl2, ts2, rfl, sc2, hcl2, hts2, hln2⟩
    refine ⟨fun σ' H' => ∃ (cl : Addr) (ts : List Addr), σ' = [some (.ref cl), y1, y2, none, none] ∧ Same H H' ∧ H' cl = some (.lst (ts.map V.ref)) ∧ (∀ t ∈ ts, C3 H' t) ∧ ts.length ≤ 9, ?_, ?_⟩
    · refine ⟨.ref cl2, rfl, ?_⟩
      refine ⟨(by show 2 ≤ sizeLine; decide), fun q1 nq1 => ⟨(by show 3 ≤ sizeLine; decide), fun t1 nt1 => ?_⟩⟩
      generalize k1 : upd (upd Hc2 q1 _) t1 _ = J1
      obtain ⟨v1, c1⟩ := C3.mk ([true], [false]) [1, 0] k1 nq1 nt1 (by decide +kernel) (by decide +kernel) (by decide +kernel) (by decide)
      refine ⟨(by show 1 ≤ sizeLine; decide), fun q2 nq2 => ⟨(by show 3 ≤ sizeLine; decide), fun t2 nt2 => ?_⟩⟩
      generalize k2 : upd (upd J1 q2 _) t2 _ = J2
      obtain ⟨v2, c2⟩ := C3.mk ([true], []) [0] k2 nq2 nt2 (by decide +kernel) (by decide +kernel) (by decide +kernel) (by decide)
      refine ⟨(by show 1 ≤ sizeLine; decide), fun q3 nq3 => ⟨(by show 3 ≤ sizeLine; decide), fun t3 nt3 => ?_⟩⟩
      generalize k3 : upd (upd J2 q3 _) t3 _ = J3
      obtain ⟨v3, c3⟩ := C3.mk ([true], []) [9] k3 nq3 nt3 (by decide +kernel) (by decide +kernel) (by decide +kernel) (by decide)
      refine ⟨(by show 3 ≤ sizeLine; decide), fun l nl => ?_⟩
      generalize kl : upd J3 l _ = J4
      have v4 : Same J3 J4 := by rw [← kl]; exact same_upd nl
      have hl : J4 l = some (.lst ([t1, t2, t3].map V.ref)) := by rw [← kl]; exact upd_same
      have u3 := v4
      have u2 := v3.trans u3
      have u1 := v2.trans u2
      have u0 := v1.trans u1
      have ca : ∀ t ∈ [t1, t2, t3], C3 J4 t := fun t ht => by
        simp only [List.mem_cons, List.not_mem_nil, or_false] at ht
        rcases ht with rfl | rfl | rfl
        · exact c1.same u1
        · exact c2.same u2
        · exact c3.same u3
      refine ⟨cl2, l, _, _, rfl, rfl, u0 _ _ hcl2, hl, small (by rw [List.length_map]; show ts2.length + 3 ≤ 1000; omega), fun r nr => ?_⟩
      have sr := same_upd (o := HO.lst (ts2.map V.ref ++ [t1, t2, t3].map V.ref)) nr
      refine ⟨r, ts2 ++ [t1, t2, t3], rfl, sc2.trans (u0.trans sr), by rw [upd_same, List.map_append], fun t ht => ?_, by rw [List.length_append]; show ts2.length + 3 ≤ 9; omega⟩
      rcases List.mem_append.mp ht with m | m
      · exact (hts2 t m).same (u0.trans sr)
      · exact (ca t m).same sr
    rintro _ Hc3 ⟨cl3, ts3, rfl, sc3, hcl3, hts3, hln3⟩
    refine ⟨.ref cl3, rfl, cl3, rfl, ⟨_, SqL.of hcl3⟩, for_list (K := K) (a := cl3) (xs := ts3.map V.ref) (fun i σ H' => ∃ y1 y2 y3, σ = [some (.ref cl3), y1, y2, y3, none] ∧ Same Hc3 H')
      ⟨_, _, _, rfl, Same.refl _⟩ (fun i σ H' _ ⟨_, _, _, _, sx⟩ => SqL.of (sx _ _ hcl3)) ?_ ?_⟩
    · rintro i x σ H3 hx ⟨y1, y2, y3, rfl, s3⟩
      obtain ⟨t, ht, rfl⟩ := List.mem_map.mp (List.mem_of_getElem? hx)
      obtain ⟨qa, ms, z, h1, h2, h3⟩ := (hts3 t ht).same s3
      refine ⟨t, [.ref qa, tx z, .bl (leadsB z ms)], rfl, SqT.of h1, rfl, .ref qa, [tx z, .bl (leadsB z ms)], rfl, tx z, [.bl (leadsB z ms)], rfl, .bl (leadsB z ms), [], rfl, rfl, ?_⟩
      refine ⟨.ref qa, rfl, fun xo dx nx ndx nex => ?_⟩
      have sA := (same_upd (o := HO.own xo) ndx).trans (same_upd (o := HO.ins L dx []) (by rw [upd_ne nex.symm]; exact nx))
      refine ⟨xo, dx, qa, ms.map V.int, rfl, upd_same, SqL.of (sA _ _ h2), fun qf nqf => ⟨rfl, ?_⟩⟩
      have nxq : xo ≠ qf := ne_of_none upd_same nqf
      have sB := same_upd2 (o := HO.ins L dx (fP qf)) (same_upd2 (o := HO.lst (ms.map V.int)) sA (sA.free nqf)) nx
      refine ⟨xo, dx, _, rfl, upd_same, no_shows qf, tx z, rfl, xo, dx, qf, ms, z, rfl, h3, upd_same, SqL.of (by rw [upd_ne nxq.symm]; exact upd_same), fun H4 s4 => ⟨.bl (leadsB z ms), rfl, rfl, _, rfl, ifF (ne_self _) ?_⟩⟩
      exact ⟨_, _, _, rfl, s3.trans (sB.trans s4)⟩
    · rintro σ H3 ⟨y1, y2, y3, rfl, s3⟩
      exact ⟨rfl, fun H4 s4 => q H4 (sc3.trans (s3.trans s4))⟩
end
end PP

/-! ### the law k08 -/
namespace PP
open PySem PySem.Spec PyProof.Rows L2 SX PR PL
section
variable {P : Program} {w : World} {K : PySem.W.Frag} {mg : Str → Option Value} {base : Heap}
abbrev nmLaw : List Str := ["_law_script", "_law_whole", "_law_by"]
theorem sc_law : FnScope nmLaw ["_law_script"] (defScope s_law) := ⟨rfl, rfl, rfl, by decide +kernel, rfl, by decide +kernel, by decide +kernel⟩
theorem ok_law {f : Addr} {fd : FuncData} (F : L2.Fun K "law" "law" s_law f fd) (T : Bl mg) (cs : Cal P w K mg base 2 "_law_standing" (spStand K)) (cp : Cal P w K mg base 30 "_law_promises_right" spOk0) (ct : Cal P w K mg base 29 "_law_told_right" spTold) (cpl : Cal P w K mg base 4 "_law_plain" (spPlain 2)) (ce : Cal P w K mg base 2 "exchange" spExch) :
    FnOk P w K mg base L2.CX0 31 f fd ["_law_script"] (spLaw K) := by
  refine F.ok sc_law (fun vs H Q E h => ?_) (fun cdv Ar outer s H vs Q E hr h => ?_)
  · obtain ⟨a, ns, rfl, _⟩ := h
    rfl
  · obtain ⟨a, ns, rfl, hS, hlen, hbits, q⟩ := h
    have nd := sc_law.nd
    refine ⟨_, (pss_cons (ps_if (pt_not (pt_val (pe_c0 cp hr (by decide) (by rfl))))
      (pss_one (ps_ret pe_bl))
      pss_nil)
      (C8.pss_cut (ps_set (i := 1) nd rfl (.inl rfl) (pe_callB call_abs (by rfl) T.abs (by decide +kernel) (pa_cons (pe_callB (cr_sum rfl) (by rfl) T.sum (by decide +kernel) (pa_cons (pe_slice sl_list (pv 0) po_none (po_some pe_int)) pa_nil)) pa_nil)))
      (pss_cons (ps_if (pt_not (pt_val (pe_callB (cr_all rfl) (by rfl) T.all (by decide +kernel) (pa_cons (pe_lc (own := [("_law_by", 2)]) (g := gName 2) (tt := tYes) (by rfl) nd (pi_list (pe_lst (pa_cons pe_int (pa_cons pe_int (pa_cons pe_int pa_nil))))) (blkOk_by (own := [("_law_by", 2)]) (N := nmLaw) (sc := defScope s_law) (by decide +kernel)) (fun _ _ _ _ _ => pg_name (i := 2) nd rfl (Or.inl rfl)) (fun _ _ _ _ _ => pts_nil) (fun _ _ _ _ _ => (pe_c ct hr (by decide) (by rfl) (pa_cons (pe_c cs hr (by decide) (by rfl) (pa_cons (pv 0) (pa_cons (pv 2) (pa_cons pe_int pa_nil)))) pa_nil)))) pa_nil))))
      (pss_one (ps_ret pe_bl))
      pss_nil)
      (pss_one (ps_ret (pe_c cpl hr (by decide) (by rfl) (pa_cons (pe_lst (pa_cons (pe_c ce hr (by decide) (by rfl) (pa_cons (pv 1) (pa_cons pe_int pa_nil))) (pa_cons (pe_c ce hr (by decide) (by rfl) (pa_cons pe_int (pa_cons pe_int pa_nil))) (pa_cons (pe_c ce hr (by decide) (by rfl) (pa_cons pe_int (pa_cons pe_int pa_nil))) (pa_cons (pe_c ce hr (by decide) (by rfl) (pa_cons pe_int (pa_cons (pv 1) pa_nil))) (pa_cons (pe_c ce hr (by decide) (by rfl) (pa_cons pe_int (pa_cons pe_int pa_nil))) pa_nil)))))) pa_nil))))))), ?_⟩
    refine ⟨rfl, fun H0 s0 => ⟨_, rfl, ifF rfl ?_⟩⟩
    have hS0 := s0.seq hS
    refine ⟨fun σ' H' => ∃ W : Int, 0 ≤ W ∧ σ' = [some (.ref a), some (.int W), none] ∧ Same H0 H', ?_, ?_⟩
    · refine ⟨.ref a, rfl, 63, rfl, a, _, rfl, hS0, fun c nc => ?_⟩
      refine ⟨c, ns.take 63, rfl, SqL.of (by rw [upd_same, show (63 : Int) = ((63 : Nat) : Int) by rfl, cutV_to, List.map_take]), _, rfl, _, ?_, rfl, same_upd nc⟩
      show (0 : Int) ≤ (if (ns.take 63).sum < 0 then -(ns.take 63).sum else (ns.take 63).sum)
      split <;> omega
    rintro _ H1 ⟨W, hW, rfl, s1⟩
    have hS1 := s1.seq hS0
    refine ⟨(by show 3 ≤ sizeLine; decide), fun l nl => ?_⟩
    generalize k2 : upd H1 l _ = H2
    have s12 : Same H1 H2 := by rw [← k2]; exact same_upd nl
    have hl2 : H2 l = some (.lst ([0, 1, 2].map nV)) := by rw [← k2]; exact upd_same
    have hS2 := s12.seq hS1
    refine ⟨l, rfl, ⟨_, SqL.of hl2⟩, fun Dl nD => ?_⟩
    refine lc_it (walk_list (K := K) (a := l) (xs := [0, 1, 2].map nV)) (fun i H' => Same H2 H' ∧ H' Dl = some (.lst (List.replicate i (V.bl true)))) ⟨same_upd nD, upd_same⟩ (fun i H' _ ⟨sa, _⟩ => SqL.of (sa _ _ hl2)) ?_ ?_
    · rintro i x _ H3 hi ⟨s3, h3⟩ ⟨rfl, hx⟩
      obtain ⟨k, hk, rfl⟩ := List.mem_map.mp (List.mem_of_getElem? hx)
      have hk2 : k ≤ 2 := by
        simp only [List.mem_cons, List.not_mem_nil, or_false] at hk
        omega
      have hi3 : i < 3 := hi
      refine ⟨rfl, .ref a, rfl, nV k, rfl, a, ns, (k : Int), 7, rfl, s3.seq hS2, hlen, hbits, by omega, by omega, by decide, by decide, fun H4 z s4 hz => ⟨z, rfl, by omega, fun H5 s5 => ⟨_, (s4.trans s5) _ _ h3, ?_, same_upd2 (s3.trans (s4.trans s5)) nD, ?_⟩⟩⟩
      · rw [List.length_replicate]
        exact L2.small1000 (by omega)
      · rw [upd_same, List.replicate_succ']
    · rintro H3 ⟨s3, h3⟩
      refine ⟨Dl, List.replicate ([0, 1, 2].map nV).length true, rfl, SqL.of (by rw [h3, List.map_replicate]), _, rfl, ifF (by simp) ?_⟩
      have hsm : ∀ {x y : Int}, 0 ≤ x → x < 2 ^ 30 → IntMulOk x y := fun h1 h2 => .of_left (intBits_le_64 (by omega) (by omega))
      have hsr : ∀ {x y : Int}, 0 ≤ y → y < 2 ^ 30 → IntMulOk x y := fun h1 h2 => .of_right (intBits_le_64 (by omega) (by omega))
      refine ⟨.int W, rfl, W, 3, rfl, hW, by decide, hsr (by decide) (by decide), 0, 0, rfl, by decide, by decide, hsm (by decide) (by decide), 1, 0, rfl, by decide, by decide, hsm (by decide) (by decide), .int W, rfl, 0, W, rfl, by decide, hW, hsm (by decide) (by decide), 1, 1, rfl, by decide, by decide, hsm (by decide) (by decide), (by show 5 ≤ sizeLine; decide), fun e ne => ?_⟩
      refine ⟨.ref e, rfl, .lst upd_same (by show 5 ≤ 5000; decide) (fun x hx => ?_), fun H4 s4 => q H4⟩
      simp only [List.mem_cons, List.not_mem_nil, or_false] at hx
      rcases hx with rfl | rfl | rfl | rfl | rfl <;> exact .int _
end
end PP

/-! ### what the top has left; the head -/
namespace PP
open PySem PySem.Spec PyProof.Rows L2 SX PR PL
theorem all_mk {l : PySem.W.OpenLaw} {w : World} {K : PySem.W.Frag} {h : Heap} {mg : Str → Option Value} {fa : Addr} (X : K.In h) (G : h.Ns mainGlobals mg) (hfa : mg "law" = some (.ref fa))
    {f0 : Addr} {od0 an0 : Option Addr} {sl0 : Array (Option Value)} {oc0 kV0 dc0 pm0 cd0 ct0 : Value}
    {f1 : Addr} {od1 an1 : Option Addr} {sl1 : Array (Option Value)} {oc1 kV1 dc1 pm1 cd1 ct1 : Value}
    {f2 : Addr} {od2 an2 : Option Addr} {sl2 : Array (Option Value)} {oc2 kV2 dc2 pm2 cd2 ct2 : Value}
    {f3 : Addr} {od3 an3 : Option Addr} {sl3 : Array (Option Value)} {oc3 kV3 dc3 pm3 cd3 ct3 : Value}
    {f4 : Addr} {od4 an4 : Option Addr} {sl4 : Array (Option Value)} {oc4 kV4 dc4 pm4 cd4 ct4 : Value}
    {f5 : Addr} {od5 an5 : Option Addr} {sl5 : Array (Option Value)} {oc5 kV5 dc5 pm5 cd5 ct5 : Value}
    {f6 : Addr} {od6 an6 : Option Addr} {sl6 : Array (Option Value)} {oc6 kV6 dc6 pm6 cd6 ct6 : Value}
    {f7 : Addr} {od7 an7 : Option Addr} {sl7 : Array (Option Value)} {oc7 kV7 dc7 pm7 cd7 ct7 : Value}
    {f8 : Addr} {od8 an8 : Option Addr} {sl8 : Array (Option Value)} {oc8 kV8 dc8 pm8 cd8 ct8 : Value}
    {f9 : Addr} {od9 an9 : Option Addr} {sl9 : Array (Option Value)} {oc9 kV9 dc9 pm9 cd9 ct9 : Value}
    {f10 : Addr} {od10 an10 : Option Addr} {sl10 : Array (Option Value)} {oc10 kV10 dc10 pm10 cd10 ct10 : Value}
    {f11 : Addr} {od11 an11 : Option Addr} {sl11 : Array (Option Value)} {oc11 kV11 dc11 pm11 cd11 ct11 : Value}
    {f12 : Addr} {od12 an12 : Option Addr} {sl12 : Array (Option Value)} {oc12 kV12 dc12 pm12 cd12 ct12 : Value}
    {f13 : Addr} {od13 an13 : Option Addr} {sl13 : Array (Option Value)} {oc13 kV13 dc13 pm13 cd13 ct13 : Value}
    {f14 : Addr} {od14 an14 : Option Addr} {sl14 : Array (Option Value)} {oc14 kV14 dc14 pm14 cd14 ct14 : Value}
    {f15 : Addr} {od15 an15 : Option Addr} {sl15 : Array (Option Value)} {oc15 kV15 dc15 pm15 cd15 ct15 : Value}
    {f16 : Addr} {od16 an16 : Option Addr} {sl16 : Array (Option Value)} {oc16 kV16 dc16 pm16 cd16 ct16 : Value}
    {f17 : Addr} {od17 an17 : Option Addr} {sl17 : Array (Option Value)} {oc17 kV17 dc17 pm17 cd17 ct17 : Value}
    {f18 : Addr} {od18 an18 : Option Addr} {sl18 : Array (Option Value)} {oc18 kV18 dc18 pm18 cd18 ct18 : Value}
    {f19 : Addr} {od19 an19 : Option Addr} {sl19 : Array (Option Value)} {oc19 kV19 dc19 pm19 cd19 ct19 : Value}
    {f20 : Addr} {od20 an20 : Option Addr} {sl20 : Array (Option Value)} {oc20 kV20 dc20 pm20 cd20 ct20 : Value}
    {f21 : Addr} {od21 an21 : Option Addr} {sl21 : Array (Option Value)} {oc21 kV21 dc21 pm21 cd21 ct21 : Value}
    {f22 : Addr} {od22 an22 : Option Addr} {sl22 : Array (Option Value)} {oc22 kV22 dc22 pm22 cd22 ct22 : Value}
    {f23 : Addr} {od23 an23 : Option Addr} {sl23 : Array (Option Value)} {oc23 kV23 dc23 pm23 cd23 ct23 : Value}
    {f24 : Addr} {od24 an24 : Option Addr} {sl24 : Array (Option Value)} {oc24 kV24 dc24 pm24 cd24 ct24 : Value}
    {f25 : Addr} {od25 an25 : Option Addr} {sl25 : Array (Option Value)} {oc25 kV25 dc25 pm25 cd25 ct25 : Value}
    {f26 : Addr} {od26 an26 : Option Addr} {sl26 : Array (Option Value)} {oc26 kV26 dc26 pm26 cd26 ct26 : Value}
    {f27 : Addr} {od27 an27 : Option Addr} {sl27 : Array (Option Value)} {oc27 kV27 dc27 pm27 cd27 ct27 : Value}
    {f28 : Addr} {od28 an28 : Option Addr} {sl28 : Array (Option Value)} {oc28 kV28 dc28 pm28 cd28 ct28 : Value}
    {f29 : Addr} {od29 an29 : Option Addr} {sl29 : Array (Option Value)} {oc29 kV29 dc29 pm29 cd29 ct29 : Value}
    {t_MOST : Tok}
    {t_SMALL : Tok}
    {CAnswer : Addr}
    {CLeads : Addr}
    {f_Leads_init : Addr} {od_Leads_init an_Leads_init : Option Addr} {sl_Leads_init : Array (Option Value)} {oc_Leads_init kV_Leads_init dc_Leads_init pm_Leads_init cd_Leads_init ct_Leads_init : Value}
    {f_Leads_shows : Addr} {od_Leads_shows an_Leads_shows : Option Addr} {sl_Leads_shows : Array (Option Value)} {oc_Leads_shows kV_Leads_shows dc_Leads_shows pm_Leads_shows cd_Leads_shows ct_Leads_shows : Value}
    {CNever : Addr}
    {f_Never_shows : Addr} {od_Never_shows an_Never_shows : Option Addr} {sl_Never_shows : Array (Option Value)} {oc_Never_shows kV_Never_shows dc_Never_shows pm_Never_shows cd_Never_shows ct_Never_shows : Value}
    (a0 : PySem.W.nsIn K mainGlobals "is_whole" = some (some (.ref f0))) (l0 : K.lookup f0 = some ⟨oc0, od0, .func (PySem.W.fnOf "is_whole" "is_whole" (defArgs s_is_whole) (defBody s_is_whole) (defScope s_is_whole) .none kV0 dc0 pm0 an0 cd0 ct0), sl0⟩) (c0 : PySem.W.codeIn K cd0 "is_whole" = true) (k0 : PySem.W.keepIn K (.ref f0) = true)
    (a1 : PySem.W.nsIn K mainGlobals "asked_standing" = some (some (.ref f1))) (l1 : K.lookup f1 = some ⟨oc1, od1, .func (PySem.W.fnOf "asked_standing" "asked_standing" (defArgs s_asked_standing) (defBody s_asked_standing) (defScope s_asked_standing) .none kV1 dc1 pm1 an1 cd1 ct1), sl1⟩) (c1 : PySem.W.codeIn K cd1 "asked_standing" = true) (k1 : PySem.W.keepIn K (.ref f1) = true)
    (a2 : PySem.W.nsIn K mainGlobals "asked_small" = some (some (.ref f2))) (l2 : K.lookup f2 = some ⟨oc2, od2, .func (PySem.W.fnOf "asked_small" "asked_small" (defArgs s_asked_small) (defBody s_asked_small) (defScope s_asked_small) .none kV2 dc2 pm2 an2 cd2 ct2), sl2⟩) (c2 : PySem.W.codeIn K cd2 "asked_small" = true) (k2 : PySem.W.keepIn K (.ref f2) = true)
    (a3 : PySem.W.nsIn K mainGlobals "movers" = some (some (.ref f3))) (l3 : K.lookup f3 = some ⟨oc3, od3, .func (PySem.W.fnOf "movers" "movers" (defArgs s_movers) (defBody s_movers) (defScope s_movers) .none kV3 dc3 pm3 an3 cd3 ct3), sl3⟩) (c3 : PySem.W.codeIn K cd3 "movers" = true) (k3 : PySem.W.keepIn K (.ref f3) = true)
    (a4 : PySem.W.nsIn K mainGlobals "moves" = some (some (.ref f4))) (l4 : K.lookup f4 = some ⟨oc4, od4, .func (PySem.W.fnOf "moves" "moves" (defArgs s_moves) (defBody s_moves) (defScope s_moves) .none kV4 dc4 pm4 an4 cd4 ct4), sl4⟩) (c4 : PySem.W.codeIn K cd4 "moves" = true) (k4 : PySem.W.keepIn K (.ref f4) = true)
    (a5 : PySem.W.nsIn K mainGlobals "behind" = some (some (.ref f5))) (l5 : K.lookup f5 = some ⟨oc5, od5, .func (PySem.W.fnOf "behind" "behind" (defArgs s_behind) (defBody s_behind) (defScope s_behind) .none kV5 dc5 pm5 an5 cd5 ct5), sl5⟩) (c5 : PySem.W.codeIn K cd5 "behind" = true) (k5 : PySem.W.keepIn K (.ref f5) = true)
    (a6 : PySem.W.nsIn K mainGlobals "moved" = some (some (.ref f6))) (l6 : K.lookup f6 = some ⟨oc6, od6, .func (PySem.W.fnOf "moved" "moved" (defArgs s_moved) (defBody s_moved) (defScope s_moved) .none kV6 dc6 pm6 an6 cd6 ct6), sl6⟩) (c6 : PySem.W.codeIn K cd6 "moved" = true) (k6 : PySem.W.keepIn K (.ref f6) = true)
    (a7 : PySem.W.nsIn K mainGlobals "goal_of" = some (some (.ref f7))) (l7 : K.lookup f7 = some ⟨oc7, od7, .func (PySem.W.fnOf "goal_of" "goal_of" (defArgs s_goal_of) (defBody s_goal_of) (defScope s_goal_of) .none kV7 dc7 pm7 an7 cd7 ct7), sl7⟩) (c7 : PySem.W.codeIn K cd7 "goal_of" = true) (k7 : PySem.W.keepIn K (.ref f7) = true)
    (a8 : PySem.W.nsIn K mainGlobals "goal" = some (some (.ref f8))) (l8 : K.lookup f8 = some ⟨oc8, od8, .func (PySem.W.fnOf "goal" "goal" (defArgs s_goal) (defBody s_goal) (defScope s_goal) .none kV8 dc8 pm8 an8 cd8 ct8), sl8⟩) (c8 : PySem.W.codeIn K cd8 "goal" = true) (k8 : PySem.W.keepIn K (.ref f8) = true)
    (a9 : PySem.W.nsIn K mainGlobals "moves_left" = some (some (.ref f9))) (l9 : K.lookup f9 = some ⟨oc9, od9, .func (PySem.W.fnOf "moves_left" "moves_left" (defArgs s_moves_left) (defBody s_moves_left) (defScope s_moves_left) .none kV9 dc9 pm9 an9 cd9 ct9), sl9⟩) (c9 : PySem.W.codeIn K cd9 "moves_left" = true) (k9 : PySem.W.keepIn K (.ref f9) = true)
    (a10 : PySem.W.nsIn K mainGlobals "exchange" = some (some (.ref f10))) (l10 : K.lookup f10 = some ⟨oc10, od10, .func (PySem.W.fnOf "exchange" "exchange" (defArgs s_exchange) (defBody s_exchange) (defScope s_exchange) .none kV10 dc10 pm10 an10 cd10 ct10), sl10⟩) (c10 : PySem.W.codeIn K cd10 "exchange" = true) (k10 : PySem.W.keepIn K (.ref f10) = true)
    (a11 : PySem.W.nsIn K mainGlobals "mirrored" = some (some (.ref f11))) (l11 : K.lookup f11 = some ⟨oc11, od11, .func (PySem.W.fnOf "mirrored" "mirrored" (defArgs s_mirrored) (defBody s_mirrored) (defScope s_mirrored) .none kV11 dc11 pm11 an11 cd11 ct11), sl11⟩) (c11 : PySem.W.codeIn K cd11 "mirrored" = true) (k11 : PySem.W.keepIn K (.ref f11) = true)
    (a12 : PySem.W.nsIn K mainGlobals "ways_of" = some (some (.ref f12))) (l12 : K.lookup f12 = some ⟨oc12, od12, .func (PySem.W.fnOf "ways_of" "ways_of" (defArgs s_ways_of) (defBody s_ways_of) (defScope s_ways_of) .none kV12 dc12 pm12 an12 cd12 ct12), sl12⟩) (c12 : PySem.W.codeIn K cd12 "ways_of" = true) (k12 : PySem.W.keepIn K (.ref f12) = true)
    (a13 : PySem.W.nsIn K mainGlobals "ways" = some (some (.ref f13))) (l13 : K.lookup f13 = some ⟨oc13, od13, .func (PySem.W.fnOf "ways" "ways" (defArgs s_ways) (defBody s_ways) (defScope s_ways) .none kV13 dc13 pm13 an13 cd13 ct13), sl13⟩) (c13 : PySem.W.codeIn K cd13 "ways" = true) (k13 : PySem.W.keepIn K (.ref f13) = true)
    (a14 : PySem.W.nsIn K mainGlobals "way_of" = some (some (.ref f14))) (l14 : K.lookup f14 = some ⟨oc14, od14, .func (PySem.W.fnOf "way_of" "way_of" (defArgs s_way_of) (defBody s_way_of) (defScope s_way_of) .none kV14 dc14 pm14 an14 cd14 ct14), sl14⟩) (c14 : PySem.W.codeIn K cd14 "way_of" = true) (k14 : PySem.W.keepIn K (.ref f14) = true)
    (a15 : PySem.W.nsIn K mainGlobals "way_by" = some (some (.ref f15))) (l15 : K.lookup f15 = some ⟨oc15, od15, .func (PySem.W.fnOf "way_by" "way_by" (defArgs s_way_by) (defBody s_way_by) (defScope s_way_by) .none kV15 dc15 pm15 an15 cd15 ct15), sl15⟩) (c15 : PySem.W.codeIn K cd15 "way_by" = true) (k15 : PySem.W.keepIn K (.ref f15) = true)
    (a16 : PySem.W.nsIn K mainGlobals "led" = some (some (.ref f16))) (l16 : K.lookup f16 = some ⟨oc16, od16, .func (PySem.W.fnOf "led" "led" (defArgs s_led) (defBody s_led) (defScope s_led) .none kV16 dc16 pm16 an16 cd16 ct16), sl16⟩) (c16 : PySem.W.codeIn K cd16 "led" = true) (k16 : PySem.W.keepIn K (.ref f16) = true)
    (a17 : PySem.W.nsIn K mainGlobals "come_by_all" = some (some (.ref f17))) (l17 : K.lookup f17 = some ⟨oc17, od17, .func (PySem.W.fnOf "come_by_all" "come_by_all" (defArgs s_come_by_all) (defBody s_come_by_all) (defScope s_come_by_all) .none kV17 dc17 pm17 an17 cd17 ct17), sl17⟩) (c17 : PySem.W.codeIn K cd17 "come_by_all" = true) (k17 : PySem.W.keepIn K (.ref f17) = true)
    (a18 : PySem.W.nsIn K mainGlobals "come_by" = some (some (.ref f18))) (l18 : K.lookup f18 = some ⟨oc18, od18, .func (PySem.W.fnOf "come_by" "come_by" (defArgs s_come_by) (defBody s_come_by) (defScope s_come_by) .none kV18 dc18 pm18 an18 cd18 ct18), sl18⟩) (c18 : PySem.W.codeIn K cd18 "come_by" = true) (k18 : PySem.W.keepIn K (.ref f18) = true)
    (a19 : PySem.W.nsIn K mainGlobals "stuck" = some (some (.ref f19))) (l19 : K.lookup f19 = some ⟨oc19, od19, .func (PySem.W.fnOf "stuck" "stuck" (defArgs s_stuck) (defBody s_stuck) (defScope s_stuck) .none kV19 dc19 pm19 an19 cd19 ct19), sl19⟩) (c19 : PySem.W.codeIn K cd19 "stuck" = true) (k19 : PySem.W.keepIn K (.ref f19) = true)
    (a20 : PySem.W.nsIn K mainGlobals "_law_number" = some (some (.ref f20))) (l20 : K.lookup f20 = some ⟨oc20, od20, .func (PySem.W.fnOf "_law_number" "_law_number" (defArgs s__law_number) (defBody s__law_number) (defScope s__law_number) .none kV20 dc20 pm20 an20 cd20 ct20), sl20⟩) (c20 : PySem.W.codeIn K cd20 "_law_number" = true) (k20 : PySem.W.keepIn K (.ref f20) = true)
    (a21 : PySem.W.nsIn K mainGlobals "_law_moves" = some (some (.ref f21))) (l21 : K.lookup f21 = some ⟨oc21, od21, .func (PySem.W.fnOf "_law_moves" "_law_moves" (defArgs s__law_moves) (defBody s__law_moves) (defScope s__law_moves) .none kV21 dc21 pm21 an21 cd21 ct21), sl21⟩) (c21 : PySem.W.codeIn K cd21 "_law_moves" = true) (k21 : PySem.W.keepIn K (.ref f21) = true)
    (a22 : PySem.W.nsIn K mainGlobals "_law_behind" = some (some (.ref f22))) (l22 : K.lookup f22 = some ⟨oc22, od22, .func (PySem.W.fnOf "_law_behind" "_law_behind" (defArgs s__law_behind) (defBody s__law_behind) (defScope s__law_behind) .none kV22 dc22 pm22 an22 cd22 ct22), sl22⟩) (c22 : PySem.W.codeIn K cd22 "_law_behind" = true) (k22 : PySem.W.keepIn K (.ref f22) = true)
    (a23 : PySem.W.nsIn K mainGlobals "_law_standing" = some (some (.ref f23))) (l23 : K.lookup f23 = some ⟨oc23, od23, .func (PySem.W.fnOf "_law_standing" "_law_standing" (defArgs s__law_standing) (defBody s__law_standing) (defScope s__law_standing) .none kV23 dc23 pm23 an23 cd23 ct23), sl23⟩) (c23 : PySem.W.codeIn K cd23 "_law_standing" = true) (k23 : PySem.W.keepIn K (.ref f23) = true)
    (a24 : PySem.W.nsIn K mainGlobals "_law_plain" = some (some (.ref f24))) (l24 : K.lookup f24 = some ⟨oc24, od24, .func (PySem.W.fnOf "_law_plain" "_law_plain" (defArgs s__law_plain) (defBody s__law_plain) (defScope s__law_plain) .none kV24 dc24 pm24 an24 cd24 ct24), sl24⟩) (c24 : PySem.W.codeIn K cd24 "_law_plain" = true) (k24 : PySem.W.keepIn K (.ref f24) = true)
    (a25 : PySem.W.nsIn K mainGlobals "_law_truths" = some (some (.ref f25))) (l25 : K.lookup f25 = some ⟨oc25, od25, .func (PySem.W.fnOf "_law_truths" "_law_truths" (defArgs s__law_truths) (defBody s__law_truths) (defScope s__law_truths) .none kV25 dc25 pm25 an25 cd25 ct25), sl25⟩) (c25 : PySem.W.codeIn K cd25 "_law_truths" = true) (k25 : PySem.W.keepIn K (.ref f25) = true)
    (a26 : PySem.W.nsIn K mainGlobals "_law_told_right" = some (some (.ref f26))) (l26 : K.lookup f26 = some ⟨oc26, od26, .func (PySem.W.fnOf "_law_told_right" "_law_told_right" (defArgs s__law_told_right) (defBody s__law_told_right) (defScope s__law_told_right) .none kV26 dc26 pm26 an26 cd26 ct26), sl26⟩) (c26 : PySem.W.codeIn K cd26 "_law_told_right" = true) (k26 : PySem.W.keepIn K (.ref f26) = true)
    (a27 : PySem.W.nsIn K mainGlobals "_law_promises_right" = some (some (.ref f27))) (l27 : K.lookup f27 = some ⟨oc27, od27, .func (PySem.W.fnOf "_law_promises_right" "_law_promises_right" (defArgs s__law_promises_right) (defBody s__law_promises_right) (defScope s__law_promises_right) .none kV27 dc27 pm27 an27 cd27 ct27), sl27⟩) (c27 : PySem.W.codeIn K cd27 "_law_promises_right" = true) (k27 : PySem.W.keepIn K (.ref f27) = true)
    (a28 : PySem.W.nsIn K mainGlobals "_law_ways_promises" = some (some (.ref f28))) (l28 : K.lookup f28 = some ⟨oc28, od28, .func (PySem.W.fnOf "_law_ways_promises" "_law_ways_promises" (defArgs s__law_ways_promises) (defBody s__law_ways_promises) (defScope s__law_ways_promises) .none kV28 dc28 pm28 an28 cd28 ct28), sl28⟩) (c28 : PySem.W.codeIn K cd28 "_law_ways_promises" = true) (k28 : PySem.W.keepIn K (.ref f28) = true)
    (a29 : PySem.W.nsIn K mainGlobals "law" = some (some (.ref f29))) (l29 : K.lookup f29 = some ⟨oc29, od29, .func (PySem.W.fnOf "law" "law" (defArgs s_law) (defBody s_law) (defScope s_law) .none kV29 dc29 pm29 an29 cd29 ct29), sl29⟩) (c29 : PySem.W.codeIn K cd29 "law" = true) (k29 : PySem.W.keepIn K (.ref f29) = true)
    (m_MOST : PySem.W.nsIn K mainGlobals "MOST" = some (some (.int 60 t_MOST)))
    (m_SMALL : PySem.W.nsIn K mainGlobals "SMALL" = some (some (.int 9 t_SMALL)))
    (z_isinstance : PySem.W.nsIn K mainGlobals "isinstance" = some none)
    (z_int : PySem.W.nsIn K mainGlobals "int" = some none)
    (z_bool : PySem.W.nsIn K mainGlobals "bool" = some none)
    (z_str : PySem.W.nsIn K mainGlobals "str" = some none)
    (z_len : PySem.W.nsIn K mainGlobals "len" = some none)
    (z_all : PySem.W.nsIn K mainGlobals "all" = some none)
    (z_any : PySem.W.nsIn K mainGlobals "any" = some none)
    (z_list : PySem.W.nsIn K mainGlobals "list" = some none)
    (z_range : PySem.W.nsIn K mainGlobals "range" = some none)
    (z_enumerate : PySem.W.nsIn K mainGlobals "enumerate" = some none)
    (z_sum : PySem.W.nsIn K mainGlobals "sum" = some none)
    (z_abs : PySem.W.nsIn K mainGlobals "abs" = some none)
    (z_sorted : PySem.W.nsIn K mainGlobals "sorted" = some none)
    (z_tuple : PySem.W.nsIn K mainGlobals "tuple" = some none)
    (z_ValueError : PySem.W.nsIn K mainGlobals "ValueError" = some none)
    (g_Answer : PySem.W.nsIn K mainGlobals "Answer" = some (some (.ref CAnswer)))
    (t_Answer : PySem.W.typeIn K (.ref CAnswer) = some (.type "type"))
    (q6Answer : PySem.W.mroIn K CAnswer (.type "object") = some true)
    (q7Answer : PySem.W.subIn K (.ref CAnswer) (.ref CAnswer) = some true)
    (g_Leads : PySem.W.nsIn K mainGlobals "Leads" = some (some (.ref CLeads)))
    (t_Leads : PySem.W.typeIn K (.ref CLeads) = some (.type "type"))
    (q6Leads : PySem.W.mroIn K CLeads (.type "object") = some true)
    (q7Leads : PySem.W.subIn K (.ref CLeads) (.ref CLeads) = some true)
    (q1Leads : PySem.W.plainGet K CLeads Str.empty = true)
    (q2Leads : PySem.W.hasDictIn K CLeads = true)
    (q3Leads : PySem.W.plainOver K CLeads = true)
    (q4Leads : PySem.W.findIn K (.ref CLeads) "__setattr__" = some (some (.builtin "object.__setattr__")))
    (q5Leads : PySem.W.findIn K (.ref CLeads) "__class__" = some (some (.builtin "object.__class__")))
    (q8Leads : PySem.W.makesIn K CLeads = true)
    (q9Leads : PySem.W.keepIn K (.ref CLeads) = true)
    (qALeads : PySem.W.subIn K (.ref CLeads) (.ref CAnswer) = some true)
    (a_Leads_init : PySem.W.findIn K (.ref CLeads) "__init__" = some (some (.ref f_Leads_init)))
    (i_Leads_init : PySem.W.isFn K (.ref f_Leads_init) = true)
    (l_Leads_init : K.lookup f_Leads_init = some ⟨oc_Leads_init, od_Leads_init, .func (PySem.W.fnOf "__init__" "Leads.__init__" (defArgs s_Leads_init) (defBody s_Leads_init) (defScope s_Leads_init) .none kV_Leads_init dc_Leads_init pm_Leads_init an_Leads_init cd_Leads_init ct_Leads_init), sl_Leads_init⟩)
    (c_Leads_init : PySem.W.codeIn K cd_Leads_init "Leads.__init__" = true)
    (k_Leads_init : PySem.W.keepIn K (.ref f_Leads_init) = true)
    (a_Leads_shows : PySem.W.findIn K (.ref CLeads) "shows" = some (some (.ref f_Leads_shows)))
    (i_Leads_shows : PySem.W.isFn K (.ref f_Leads_shows) = true)
    (l_Leads_shows : K.lookup f_Leads_shows = some ⟨oc_Leads_shows, od_Leads_shows, .func (PySem.W.fnOf "shows" "Leads.shows" (defArgs s_Leads_shows) (defBody s_Leads_shows) (defScope s_Leads_shows) .none kV_Leads_shows dc_Leads_shows pm_Leads_shows an_Leads_shows cd_Leads_shows ct_Leads_shows), sl_Leads_shows⟩)
    (c_Leads_shows : PySem.W.codeIn K cd_Leads_shows "Leads.shows" = true)
    (k_Leads_shows : PySem.W.keepIn K (.ref f_Leads_shows) = true)
    (g_Never : PySem.W.nsIn K mainGlobals "Never" = some (some (.ref CNever)))
    (t_Never : PySem.W.typeIn K (.ref CNever) = some (.type "type"))
    (q6Never : PySem.W.mroIn K CNever (.type "object") = some true)
    (q7Never : PySem.W.subIn K (.ref CNever) (.ref CNever) = some true)
    (q1Never : PySem.W.plainGet K CNever Str.empty = true)
    (q2Never : PySem.W.hasDictIn K CNever = true)
    (q3Never : PySem.W.plainOver K CNever = true)
    (q4Never : PySem.W.findIn K (.ref CNever) "__setattr__" = some (some (.builtin "object.__setattr__")))
    (q5Never : PySem.W.findIn K (.ref CNever) "__class__" = some (some (.builtin "object.__class__")))
    (q8Never : PySem.W.makesIn K CNever = true)
    (q9Never : PySem.W.keepIn K (.ref CNever) = true)
    (qANever : PySem.W.subIn K (.ref CNever) (.ref CAnswer) = some true)
    (a_Never_shows : PySem.W.findIn K (.ref CNever) "shows" = some (some (.ref f_Never_shows)))
    (i_Never_shows : PySem.W.isFn K (.ref f_Never_shows) = true)
    (l_Never_shows : K.lookup f_Never_shows = some ⟨oc_Never_shows, od_Never_shows, .func (PySem.W.fnOf "shows" "Never.shows" (defArgs s_Never_shows) (defBody s_Never_shows) (defScope s_Never_shows) .none kV_Never_shows dc_Never_shows pm_Never_shows an_Never_shows cd_Never_shows ct_Never_shows), sl_Never_shows⟩)
    (c_Never_shows : PySem.W.codeIn K cd_Never_shows "Never.shows" = true)
    (k_Never_shows : PySem.W.keepIn K (.ref f_Never_shows) = true)
    (qn : PySem.W.specialIn K (.builtin "object.__class__") "__get__" = some (some (.builtin "getset_descriptor.__get__")))
    (qk : PySem.W.takesIn K (.builtin "object.__class__") = some true)
    (qP : PySem.W.findIn K (.ref CLeads) "pads" = some none)
    (qI : PySem.W.findIn K (.ref CNever) "__init__" = some (some (.builtin "object.__init__")))
    (qLN : PySem.W.subIn K (.ref CLeads) (.ref CNever) = some false)
    (qNL : PySem.W.subIn K (.ref CNever) (.ref CLeads) = some false)
    : ∃ fd : FuncData, (∀ (s : Shared) (v : Value), BindsTo s fd ⟨[v], []⟩ [("_law_script", v)]) ∧ ∀ base : Heap, K.In base → base.Ns mainGlobals mg → FnOk l.prog w K mg base L2.CX0 31 fa fd ["_law_script"] (spLaw K) := by
  have e := hfa.symm.trans (PySem.W.mg_of X G a29)
  cases e
  have F_is_whole := L2.fun_mk (st := s_is_whole) l0 c0 k0
  have D_is_whole : Df K mg "is_whole" s_is_whole ["thing"] := ⟨f0, _, F_is_whole, F_is_whole.binds (ps := ["thing"]) (fun _ _ _ _ _ _ us hl => match us, hl with | [_], _ => rfl), PySem.W.mg_of X G a0⟩
  have F_asked_standing := L2.fun_mk (st := s_asked_standing) l1 c1 k1
  have D_asked_standing : Df K mg "asked_standing" s_asked_standing ["standing"] := ⟨f1, _, F_asked_standing, F_asked_standing.binds (ps := ["standing"]) (fun _ _ _ _ _ _ us hl => match us, hl with | [_], _ => rfl), PySem.W.mg_of X G a1⟩
  have F_asked_small := L2.fun_mk (st := s_asked_small) l2 c2 k2
  have D_asked_small : Df K mg "asked_small" s_asked_small ["standing"] := ⟨f2, _, F_asked_small, F_asked_small.binds (ps := ["standing"]) (fun _ _ _ _ _ _ us hl => match us, hl with | [_], _ => rfl), PySem.W.mg_of X G a2⟩
  have F_movers := L2.fun_mk (st := s_movers) l3 c3 k3
  have D_movers : Df K mg "movers" s_movers ["standing"] := ⟨f3, _, F_movers, F_movers.binds (ps := ["standing"]) (fun _ _ _ _ _ _ us hl => match us, hl with | [_], _ => rfl), PySem.W.mg_of X G a3⟩
  have F_moves := L2.fun_mk (st := s_moves) l4 c4 k4
  have D_moves : Df K mg "moves" s_moves ["standing"] := ⟨f4, _, F_moves, F_moves.binds (ps := ["standing"]) (fun _ _ _ _ _ _ us hl => match us, hl with | [_], _ => rfl), PySem.W.mg_of X G a4⟩
  have F_behind := L2.fun_mk (st := s_behind) l5 c5 k5
  have D_behind : Df K mg "behind" s_behind ["standing", "pad"] := ⟨f5, _, F_behind, F_behind.binds (ps := ["standing", "pad"]) (fun _ _ _ _ _ _ us hl => match us, hl with | [_, _], _ => rfl), PySem.W.mg_of X G a5⟩
  have F_moved := L2.fun_mk (st := s_moved) l6 c6 k6
  have D_moved : Df K mg "moved" s_moved ["standing", "pad"] := ⟨f6, _, F_moved, F_moved.binds (ps := ["standing", "pad"]) (fun _ _ _ _ _ _ us hl => match us, hl with | [_, _], _ => rfl), PySem.W.mg_of X G a6⟩
  have F_goal_of := L2.fun_mk (st := s_goal_of) l7 c7 k7
  have D_goal_of : Df K mg "goal_of" s_goal_of ["standing"] := ⟨f7, _, F_goal_of, F_goal_of.binds (ps := ["standing"]) (fun _ _ _ _ _ _ us hl => match us, hl with | [_], _ => rfl), PySem.W.mg_of X G a7⟩
  have F_goal := L2.fun_mk (st := s_goal) l8 c8 k8
  have D_goal : Df K mg "goal" s_goal ["standing"] := ⟨f8, _, F_goal, F_goal.binds (ps := ["standing"]) (fun _ _ _ _ _ _ us hl => match us, hl with | [_], _ => rfl), PySem.W.mg_of X G a8⟩
  have F_moves_left := L2.fun_mk (st := s_moves_left) l9 c9 k9
  have D_moves_left : Df K mg "moves_left" s_moves_left ["standing"] := ⟨f9, _, F_moves_left, F_moves_left.binds (ps := ["standing"]) (fun _ _ _ _ _ _ us hl => match us, hl with | [_], _ => rfl), PySem.W.mg_of X G a9⟩
  have F_exchange := L2.fun_mk (st := s_exchange) l10 c10 k10
  have D_exchange : Df K mg "exchange" s_exchange ["one", "other"] := ⟨f10, _, F_exchange, F_exchange.binds (ps := ["one", "other"]) (fun _ _ _ _ _ _ us hl => match us, hl with | [_, _], _ => rfl), PySem.W.mg_of X G a10⟩
  have F_mirrored := L2.fun_mk (st := s_mirrored) l11 c11 k11
  have D_mirrored : Df K mg "mirrored" s_mirrored ["standing"] := ⟨f11, _, F_mirrored, F_mirrored.binds (ps := ["standing"]) (fun _ _ _ _ _ _ us hl => match us, hl with | [_], _ => rfl), PySem.W.mg_of X G a11⟩
  have F_ways_of := L2.fun_mk (st := s_ways_of) l12 c12 k12
  have D_ways_of : Df K mg "ways_of" s_ways_of ["standing", "known"] := ⟨f12, _, F_ways_of, F_ways_of.binds (ps := ["standing", "known"]) (fun _ _ _ _ _ _ us hl => match us, hl with | [_, _], _ => rfl), PySem.W.mg_of X G a12⟩
  have F_ways := L2.fun_mk (st := s_ways) l13 c13 k13
  have D_ways : Df K mg "ways" s_ways ["standing"] := ⟨f13, _, F_ways, F_ways.binds (ps := ["standing"]) (fun _ _ _ _ _ _ us hl => match us, hl with | [_], _ => rfl), PySem.W.mg_of X G a13⟩
  have F_way_of := L2.fun_mk (st := s_way_of) l14 c14 k14
  have D_way_of : Df K mg "way_of" s_way_of ["standing", "number"] := ⟨f14, _, F_way_of, F_way_of.binds (ps := ["standing", "number"]) (fun _ _ _ _ _ _ us hl => match us, hl with | [_, _], _ => rfl), PySem.W.mg_of X G a14⟩
  have F_way_by := L2.fun_mk (st := s_way_by) l15 c15 k15
  have D_way_by : Df K mg "way_by" s_way_by ["standing", "number"] := ⟨f15, _, F_way_by, F_way_by.binds (ps := ["standing", "number"]) (fun _ _ _ _ _ _ us hl => match us, hl with | [_, _], _ => rfl), PySem.W.mg_of X G a15⟩
  have F_led := L2.fun_mk (st := s_led) l16 c16 k16
  have D_led : Df K mg "led" s_led ["standing"] := ⟨f16, _, F_led, F_led.binds (ps := ["standing"]) (fun _ _ _ _ _ _ us hl => match us, hl with | [_], _ => rfl), PySem.W.mg_of X G a16⟩
  have F_come_by_all := L2.fun_mk (st := s_come_by_all) l17 c17 k17
  have D_come_by_all : Df K mg "come_by_all" s_come_by_all ["standing"] := ⟨f17, _, F_come_by_all, F_come_by_all.binds (ps := ["standing"]) (fun _ _ _ _ _ _ us hl => match us, hl with | [_], _ => rfl), PySem.W.mg_of X G a17⟩
  have F_come_by := L2.fun_mk (st := s_come_by) l18 c18 k18
  have D_come_by : Df K mg "come_by" s_come_by ["standing"] := ⟨f18, _, F_come_by, F_come_by.binds (ps := ["standing"]) (fun _ _ _ _ _ _ us hl => match us, hl with | [_], _ => rfl), PySem.W.mg_of X G a18⟩
  have F_stuck := L2.fun_mk (st := s_stuck) l19 c19 k19
  have D_stuck : Df K mg "stuck" s_stuck ["standing"] := ⟨f19, _, F_stuck, F_stuck.binds (ps := ["standing"]) (fun _ _ _ _ _ _ us hl => match us, hl with | [_], _ => rfl), PySem.W.mg_of X G a19⟩
  have F__law_number := L2.fun_mk (st := s__law_number) l20 c20 k20
  have D__law_number : Df K mg "_law_number" s__law_number ["_law_cell", "_law_at", "_law_whole"] := ⟨f20, _, F__law_number, F__law_number.binds (ps := ["_law_cell", "_law_at", "_law_whole"]) (fun _ _ _ _ _ _ us hl => match us, hl with | [_, _, _], _ => rfl), PySem.W.mg_of X G a20⟩
  have F__law_moves := L2.fun_mk (st := s__law_moves) l21 c21 k21
  have D__law_moves : Df K mg "_law_moves" s__law_moves ["_law_standing_here"] := ⟨f21, _, F__law_moves, F__law_moves.binds (ps := ["_law_standing_here"]) (fun _ _ _ _ _ _ us hl => match us, hl with | [_], _ => rfl), PySem.W.mg_of X G a21⟩
  have F__law_behind := L2.fun_mk (st := s__law_behind) l22 c22 k22
  have D__law_behind : Df K mg "_law_behind" s__law_behind ["_law_standing_here", "_law_pad"] := ⟨f22, _, F__law_behind, F__law_behind.binds (ps := ["_law_standing_here", "_law_pad"]) (fun _ _ _ _ _ _ us hl => match us, hl with | [_, _], _ => rfl), PySem.W.mg_of X G a22⟩
  have F__law_standing := L2.fun_mk (st := s__law_standing) l23 c23 k23
  have D__law_standing : Df K mg "_law_standing" s__law_standing ["_law_script", "_law_by", "_law_most"] := ⟨f23, _, F__law_standing, F__law_standing.binds (ps := ["_law_script", "_law_by", "_law_most"]) (fun _ _ _ _ _ _ us hl => match us, hl with | [_, _, _], _ => rfl), PySem.W.mg_of X G a23⟩
  have F__law_plain := L2.fun_mk (st := s__law_plain) l24 c24 k24
  have D__law_plain : Df K mg "_law_plain" s__law_plain ["_law_thing"] := ⟨f24, _, F__law_plain, F__law_plain.binds (ps := ["_law_thing"]) (fun _ _ _ _ _ _ us hl => match us, hl with | [_], _ => rfl), PySem.W.mg_of X G a24⟩
  have F__law_truths := L2.fun_mk (st := s__law_truths) l25 c25 k25
  have D__law_truths : Df K mg "_law_truths" s__law_truths ["_law_things"] := ⟨f25, _, F__law_truths, F__law_truths.binds (ps := ["_law_things"]) (fun _ _ _ _ _ _ us hl => match us, hl with | [_], _ => rfl), PySem.W.mg_of X G a25⟩
  have F__law_told_right := L2.fun_mk (st := s__law_told_right) l26 c26 k26
  have D__law_told_right : Df K mg "_law_told_right" s__law_told_right ["_law_standing_here"] := ⟨f26, _, F__law_told_right, F__law_told_right.binds (ps := ["_law_standing_here"]) (fun _ _ _ _ _ _ us hl => match us, hl with | [_], _ => rfl), PySem.W.mg_of X G a26⟩
  have F__law_promises_right := L2.fun_mk (st := s__law_promises_right) l27 c27 k27
  have D__law_promises_right : Df K mg "_law_promises_right" s__law_promises_right [] := ⟨f27, _, F__law_promises_right, F__law_promises_right.binds (ps := []) (fun _ _ _ _ _ _ us hl => match us, hl with | [], _ => rfl), PySem.W.mg_of X G a27⟩
  have F__law_ways_promises := L2.fun_mk (st := s__law_ways_promises) l28 c28 k28
  have D__law_ways_promises : Df K mg "_law_ways_promises" s__law_ways_promises [] := ⟨f28, _, F__law_ways_promises, F__law_ways_promises.binds (ps := []) (fun _ _ _ _ _ _ us hl => match us, hl with | [], _ => rfl), PySem.W.mg_of X G a28⟩
  have F_law := L2.fun_mk (st := s_law) l29 c29 k29
  have h_MOST : ∃ t, mg "MOST" = some (.int 60 t) := ⟨_, PySem.W.mg_of X G m_MOST⟩
  have h_SMALL : ∃ t, mg "SMALL" = some (.int 9 t) := ⟨_, PySem.W.mg_of X G m_SMALL⟩
  have F_Leads_init := L2.fun_mk (st := s_Leads_init) l_Leads_init c_Leads_init k_Leads_init
  have D_Leads_init : Di K mg "Leads" CLeads "Leads.__init__" s_Leads_init ["self", "pads"] := ⟨f_Leads_init, _, F_Leads_init, F_Leads_init.binds (ps := ["self", "pads"]) (fun _ _ _ _ _ _ us hl => match us, hl with | [_, _], _ => rfl), ⟨q8Leads, a_Leads_init, i_Leads_init, q9Leads⟩, PySem.W.mg_of X G g_Leads⟩
  have F_Leads_shows := L2.fun_mk (st := s_Leads_shows) l_Leads_shows c_Leads_shows k_Leads_shows
  have D_Leads_shows : Dm K CLeads "shows" "Leads.shows" s_Leads_shows ["self", "standing"] := ⟨f_Leads_shows, _, F_Leads_shows, F_Leads_shows.binds (ps := ["self", "standing"]) (fun _ _ _ _ _ _ us hl => match us, hl with | [_, _], _ => rfl), ⟨a_Leads_shows, i_Leads_shows, k_Leads_shows⟩⟩
  have F_Never_shows := L2.fun_mk (st := s_Never_shows) l_Never_shows c_Never_shows k_Never_shows
  have D_Never_shows : Dm K CNever "shows" "Never.shows" s_Never_shows ["self", "standing"] := ⟨f_Never_shows, _, F_Never_shows, F_Never_shows.binds (ps := ["self", "standing"]) (fun _ _ _ _ _ _ us hl => match us, hl with | [_, _], _ => rfl), ⟨a_Never_shows, i_Never_shows, k_Never_shows⟩⟩
  have Y : Ans K mg CAnswer CLeads CNever := ⟨⟨⟨q1Leads, q2Leads, q3Leads, q4Leads⟩, q5Leads, qn, qk, q6Leads, kit_self⟩, ⟨⟨q1Never, q2Never, q3Never, q4Never⟩, q5Never, qn, qk, q6Never, kit_self⟩, PySem.W.mg_of X G g_Answer, PySem.W.mg_of X G g_Leads, PySem.W.mg_of X G g_Never, qP, ⟨q8Never, qI, q9Never⟩, kit_own t_Answer q6Answer qALeads q7Answer, kit_own t_Answer q6Answer qANever q7Answer, kit_own t_Never q6Never qLN q7Never, kit_own t_Leads q6Leads qNL q7Leads⟩
  have T : Bl mg := ⟨PySem.W.mg_none_of X G z_isinstance, PySem.W.mg_none_of X G z_int, PySem.W.mg_none_of X G z_bool, PySem.W.mg_none_of X G z_str, PySem.W.mg_none_of X G z_len, PySem.W.mg_none_of X G z_all, PySem.W.mg_none_of X G z_any, PySem.W.mg_none_of X G z_list, PySem.W.mg_none_of X G z_range, PySem.W.mg_none_of X G z_enumerate, PySem.W.mg_none_of X G z_sum, PySem.W.mg_none_of X G z_abs, PySem.W.mg_none_of X G z_sorted, PySem.W.mg_none_of X G z_tuple, PySem.W.mg_none_of X G z_ValueError⟩
  refine ⟨PySem.W.fnOf "law" "law" (defArgs s_law) (defBody s_law) (defScope s_law) .none kV29 dc29 pm29 an29 cd29 ct29, fun s v => .of_eq rfl, fun base _ _ => ?_⟩
  have ca := c_asked (P := l.prog) (w := w) (base := base) D_asked_standing T h_MOST
  have cm := c_movers (P := l.prog) (w := w) (base := base) D_movers
  have cb := c_behind (P := l.prog) (w := w) (base := base) D_behind T
  have cw := c_whole (P := l.prog) (w := w) (base := base) D_is_whole T
  have cg := c_goal_of (P := l.prog) (w := w) (base := base) D_goal_of
  have clm := c_lmoves (P := l.prog) (w := w) (base := base) D__law_moves T
  have clb := c_lbehind (P := l.prog) (w := w) (base := base) D__law_behind T
  have cs := c_small D_asked_small T h_SMALL ca
  have cwo := c_ways D_ways_of cg cm cb 24
  have cy := c_wayof D_way_of cg cm cb cwo
  have ci := c_initL (P := l.prog) (w := w) (base := base) Y T D_Leads_init
  have cled := c_led Y D_led cs cwo cy ci
  have call := c_comeall D_come_by_all T cm cb
  have cmv := c_moves D_moves ca cm
  have cvd := c_moved D_moved ca cw cm cb
  have cgl := c_goal D_goal ca cg
  have cmi := c_mirr D_mirrored ca
  have clf := c_left D_moves_left T ca
  have cwy := c_waysA D_ways cs cwo
  have cby := c_wayby D_way_by cs cw cwo cy
  have cco := c_come D_come_by T cs call
  have cst := c_stuck D_stuck T cs call cm cg
  have cex := c_exch D_exchange cw
  have mL := c_showsL Y D_Leads_shows cg cm cb
  have mN := c_showsN D_Never_shows cwo
  have cpl := c_plain (P := l.prog) (w := w) (base := base) D__law_plain T 2
  have ct := c_told Y T D__law_told_right cled cmv cgl cmi clf cwy cco cst cby cvd cpl (c_truths D__law_truths T) ci mL mN
  have cwp := c_wprom Y T D__law_ways_promises cled cmv cwy cco cst cby mN
  have cpr := c_prom Y T D__law_promises_right cmv cvd cgl clf cex cmi ci mL cwp
  exact ok_law F_law T (c_stand D__law_standing T (c_num D__law_number) clm clb) cpr ct cpl cex
end PP
open PySem PySem.W PyProof.Rows in
set_option maxRecDepth 100000 in
set_option maxHeartbeats 0 in
theorem PySem.Challenge.cw_padleap_k08_whole_numbers_holds : PySem.Challenge.rw_padleap_k08_whole_numbers.Holds := by
  w_on; o_law; k_head; (case hw => w_witness2)
  k_fill
  refine L2.walk_ofB (l := PySem.Challenge.rw_padleap_k08_whole_numbers) (n := 63) (k := 31) (x := "_law_script") (CX := fun _ => L2.CX0) (sp := fun w => PP.spLaw _) rfl (by decide) rfl ⟨rfl, by decide, by decide⟩ (fun w h Y => PySem.W.kIn_of Y) ?F (fun _ _ a ns hl hb _ hS => ⟨a, ns, rfl, hS, hl, hb, fun _ => rfl⟩) (fun _ _ _ _ _ h => h)
  case F =>
    intro w mg fa h KX G hmg
    refine' PP.all_mk KX G hmg ?a0 ?l0 ?c0 ?k0 ?a1 ?l1 ?c1 ?k1 ?a2 ?l2 ?c2 ?k2 ?a3 ?l3 ?c3 ?k3 ?a4 ?l4 ?c4 ?k4 ?a5 ?l5 ?c5 ?k5 ?a6 ?l6 ?c6 ?k6 ?a7 ?l7 ?c7 ?k7 ?a8 ?l8 ?c8 ?k8 ?a9 ?l9 ?c9 ?k9 ?a10 ?l10 ?c10 ?k10 ?a11 ?l11 ?c11 ?k11 ?a12 ?l12 ?c12 ?k12 ?a13 ?l13 ?c13 ?k13 ?a14 ?l14 ?c14 ?k14 ?a15 ?l15 ?c15 ?k15 ?a16 ?l16 ?c16 ?k16 ?a17 ?l17 ?c17 ?k17 ?a18 ?l18 ?c18 ?k18 ?a19 ?l19 ?c19 ?k19 ?a20 ?l20 ?c20 ?k20 ?a21 ?l21 ?c21 ?k21 ?a22 ?l22 ?c22 ?k22 ?a23 ?l23 ?c23 ?k23 ?a24 ?l24 ?c24 ?k24 ?a25 ?l25 ?c25 ?k25 ?a26 ?l26 ?c26 ?k26 ?a27 ?l27 ?c27 ?k27 ?a28 ?l28 ?c28 ?k28 ?a29 ?l29 ?c29 ?k29 ?m_MOST ?m_SMALL ?z_isinstance ?z_int ?z_bool ?z_str ?z_len ?z_all ?z_any ?z_list ?z_range ?z_enumerate ?z_sum ?z_abs ?z_sorted ?z_tuple ?z_ValueError ?g_Answer ?t_Answer ?q6Answer ?q7Answer ?g_Leads ?t_Leads ?q6Leads ?q7Leads ?q1Leads ?q2Leads ?q3Leads ?q4Leads ?q5Leads ?q8Leads ?q9Leads ?qALeads ?a_Leads_init ?i_Leads_init ?l_Leads_init ?c_Leads_init ?k_Leads_init ?a_Leads_shows ?i_Leads_shows ?l_Leads_shows ?c_Leads_shows ?k_Leads_shows ?g_Never ?t_Never ?q6Never ?q7Never ?q1Never ?q2Never ?q3Never ?q4Never ?q5Never ?q8Never ?q9Never ?qANever ?a_Never_shows ?i_Never_shows ?l_Never_shows ?c_Never_shows ?k_Never_shows ?qn ?qk ?qP ?qI ?qLN ?qNL
    (case a0 => k_is)
    (case l0 => k_is)
    (case c0 => k_is)
    (case k0 => k_is)
    (case a1 => k_is)
    (case l1 => k_is)
    (case c1 => k_is)
    (case k1 => k_is)
    (case a2 => k_is)
    (case l2 => k_is)
    (case c2 => k_is)
    (case k2 => k_is)
    (case a3 => k_is)
    (case l3 => k_is)
    (case c3 => k_is)
    (case k3 => k_is)
    (case a4 => k_is)
    (case l4 => k_is)
    (case c4 => k_is)
    (case k4 => k_is)
    (case a5 => k_is)
    (case l5 => k_is)
    (case c5 => k_is)
    (case k5 => k_is)
    (case a6 => k_is)
    (case l6 => k_is)
    (case c6 => k_is)
    (case k6 => k_is)
    (case a7 => k_is)
    (case l7 => k_is)
    (case c7 => k_is)
    (case k7 => k_is)
    (case a8 => k_is)
    (case l8 => k_is)
    (case c8 => k_is)
    (case k8 => k_is)
    (case a9 => k_is)
    (case l9 => k_is)
    (case c9 => k_is)
    (case k9 => k_is)
    (case a10 => k_is)
    (case l10 => k_is)
    (case c10 => k_is)
    (case k10 => k_is)
    (case a11 => k_is)
    (case l11 => k_is)
    (case c11 => k_is)
    (case k11 => k_is)
    (case a12 => k_is)
    (case l12 => k_is)
    (case c12 => k_is)
    (case k12 => k_is)
    (case a13 => k_is)
    (case l13 => k_is)
    (case c13 => k_is)
    (case k13 => k_is)
    (case a14 => k_is)
    (case l14 => k_is)
    (case c14 => k_is)
    (case k14 => k_is)
    (case a15 => k_is)
    (case l15 => k_is)
    (case c15 => k_is)
    (case k15 => k_is)
    (case a16 => k_is)
    (case l16 => k_is)
    (case c16 => k_is)
    (case k16 => k_is)
    (case a17 => k_is)
    (case l17 => k_is)
    (case c17 => k_is)
    (case k17 => k_is)
    (case a18 => k_is)
    (case l18 => k_is)
    (case c18 => k_is)
    (case k18 => k_is)
    (case a19 => k_is)
    (case l19 => k_is)
    (case c19 => k_is)
    (case k19 => k_is)
    (case a20 => k_is)
    (case l20 => k_is)
    (case c20 => k_is)
    (case k20 => k_is)
    (case a21 => k_is)
    (case l21 => k_is)
    (case c21 => k_is)
    (case k21 => k_is)
    (case a22 => k_is)
    (case l22 => k_is)
    (case c22 => k_is)
    (case k22 => k_is)
    (case a23 => k_is)
    (case l23 => k_is)
    (case c23 => k_is)
    (case k23 => k_is)
    (case a24 => k_is)
    (case l24 => k_is)
    (case c24 => k_is)
    (case k24 => k_is)
    (case a25 => k_is)
    (case l25 => k_is)
    (case c25 => k_is)
    (case k25 => k_is)
    (case a26 => k_is)
    (case l26 => k_is)
    (case c26 => k_is)
    (case k26 => k_is)
    (case a27 => k_is)
    (case l27 => k_is)
    (case c27 => k_is)
    (case k27 => k_is)
    (case a28 => k_is)
    (case l28 => k_is)
    (case c28 => k_is)
    (case k28 => k_is)
    (case a29 => k_is)
    (case l29 => k_is)
    (case c29 => k_is)
    (case k29 => k_is)
    (case m_MOST => k_is)
    (case m_SMALL => k_is)
    (case z_isinstance => k_is)
    (case z_int => k_is)
    (case z_bool => k_is)
    (case z_str => k_is)
    (case z_len => k_is)
    (case z_all => k_is)
    (case z_any => k_is)
    (case z_list => k_is)
    (case z_range => k_is)
    (case z_enumerate => k_is)
    (case z_sum => k_is)
    (case z_abs => k_is)
    (case z_sorted => k_is)
    (case z_tuple => k_is)
    (case z_ValueError => k_is)
    (case g_Answer => k_is)
    (case t_Answer => k_is)
    (case q6Answer => k_is)
    (case q7Answer => k_is)
    (case g_Leads => k_is)
    (case t_Leads => k_is)
    (case q6Leads => k_is)
    (case q7Leads => k_is)
    (case q1Leads => k_is)
    (case q2Leads => k_is)
    (case q3Leads => k_is)
    (case q4Leads => k_is)
    (case q5Leads => k_is)
    (case q8Leads => k_is)
    (case q9Leads => k_is)
    (case qALeads => k_is)
    (case a_Leads_init => k_is)
    (case i_Leads_init => k_is)
    (case l_Leads_init => k_is)
    (case c_Leads_init => k_is)
    (case k_Leads_init => k_is)
    (case a_Leads_shows => k_is)
    (case i_Leads_shows => k_is)
    (case l_Leads_shows => k_is)
    (case c_Leads_shows => k_is)
    (case k_Leads_shows => k_is)
    (case g_Never => k_is)
    (case t_Never => k_is)
    (case q6Never => k_is)
    (case q7Never => k_is)
    (case q1Never => k_is)
    (case q2Never => k_is)
    (case q3Never => k_is)
    (case q4Never => k_is)
    (case q5Never => k_is)
    (case q8Never => k_is)
    (case q9Never => k_is)
    (case qANever => k_is)
    (case a_Never_shows => k_is)
    (case i_Never_shows => k_is)
    (case l_Never_shows => k_is)
    (case c_Never_shows => k_is)
    (case k_Never_shows => k_is)
    (case qn => k_is)
    (case qk => k_is)
    (case qP => k_is)
    (case qI => k_is)
    (case qLN => k_is)
    (case qNL => k_is)
#print axioms PySem.Challenge.cw_padleap_k08_whole_numbers_holds
