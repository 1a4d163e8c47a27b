import PyProof.Rows.All
import Wide.All
import OpenK.AllK
import Wide.FinOn
import PyProof.EqAt
import PyProof.EqKinds
import PyProof.TupleCall
import PyProof.Draws
import PyProof.EnumMake
import PyProof.ListStr
import PyProof.Rows.StrRev
import PyProof.Rows.StrCountLaw
import KE.KRevSl
import KE.IntBitsLaws
import HandS.ForMost
import HandS.Codes
import HandS.Walk
import HandS.Style
import HandS.Replace
import HandS.More
import HandS.IsInst
import HandS.Deep
import PyProof.Rows.SortShellAny
import HandS.Hot
import HandS.ExcCtx
import HandS.ExcIs
import HandS.Nested
import HandS.CallLocal
import HandS.CallRecv
import HandS.EndTab
import KE.KIntText
import KE.DataCmp
import HandS.EndBits
import PySem.Challenge.RW_padleap_k09_whole_known
set_option Elab.async false
set_option linter.all false
set_option maxRecDepth 100000
set_option maxHeartbeats 4000000
/-! Padleap in plain Lean: standings as two lists of leapers, the nearest to the free pad first (true: a, false: b). -/
namespace PL
abbrev Zp := List Bool × List Bool

/-- the code of a leaper's sign -/
def sg (k : Bool) : Nat := if k = true then 97 else 98
theorem sg_inj {x y : Bool} (h : sg x = sg y) : x = y := by cases x <;> cases y <;> simp_all [sg]
theorem sg_ne (x : Bool) : sg x ≠ 46 := by cases x <;> decide
/-- the standing's text, by codes -/
def cps (z : Zp) : List Nat := (z.1.reverse).map sg ++ 46 :: z.2.map sg
def fr (z : Zp) : Nat := z.1.length
def pads (z : Zp) : Nat := z.1.length + z.2.length + 1
theorem cps_len (z : Zp) : (cps z).length = pads z := by
  simp [cps, pads]; omega

/-! ### moves -/
def nextL : Zp → List (Nat × Zp)
  | (true :: L, R) => [(L.length, (L, true :: R))]
  | (false :: true :: L, R) => [(L.length, (L, false :: true :: R))]
  | _ => []
def nextR : Zp → List (Nat × Zp)
  | (L, false :: R) => [(L.length + 1, (false :: L, R))]
  | (L, true :: false :: R) => [(L.length + 2, (true :: false :: L, R))]
  | _ => []
def next (z : Zp) : List (Nat × Zp) := nextL z ++ nextR z
def movers (z : Zp) : List Nat := (next z).map (·.1)

/-- each shape that a move may have -/
theorem next_cases {z : Zp} {p : Nat} {y : Zp} (h : (p, y) ∈ next z) :
    (∃ L R, z = (true :: L, R) ∧ p = L.length ∧ y = (L, true :: R)) ∨
    (∃ L R, z = (false :: true :: L, R) ∧ p = L.length ∧ y = (L, false :: true :: R)) ∨
    (∃ L R, z = (L, false :: R) ∧ p = L.length + 1 ∧ y = (false :: L, R)) ∨
    (∃ L R, z = (L, true :: false :: R) ∧ p = L.length + 2 ∧ y = (true :: false :: L, R)) := by
  rcases List.mem_append.mp h with h | h
  · unfold nextL at h
    split at h
    · rename_i L R _
      obtain ⟨h1, h2⟩ := Prod.mk.inj (List.mem_singleton.mp h)
      exact .inl ⟨L, R, rfl, h1, h2⟩
    · rename_i L R _
      obtain ⟨h1, h2⟩ := Prod.mk.inj (List.mem_singleton.mp h)
      exact .inr (.inl ⟨L, R, rfl, h1, h2⟩)
    · cases h
  · unfold nextR at h
    split at h
    · rename_i L R _
      obtain ⟨h1, h2⟩ := Prod.mk.inj (List.mem_singleton.mp h)
      exact .inr (.inr (.inl ⟨L, R, rfl, h1, h2⟩))
    · rename_i L R _
      obtain ⟨h1, h2⟩ := Prod.mk.inj (List.mem_singleton.mp h)
      exact .inr (.inr (.inr ⟨L, R, rfl, h1, h2⟩))
    · cases h

/-! ### counts, the goal, moves left -/
def na (z : Zp) : Nat := z.1.count true + z.2.count true
def nb (z : Zp) : Nat := z.1.count false + z.2.count false
def goal (z : Zp) : Zp := (List.replicate (nb z) false, List.replicate (na z) true)
/-- pairs of an a and a b anywhere to the right of it -/
def inv : List Bool → Nat
  | [] => 0
  | true :: r => r.count false + inv r
  | false :: r => inv r
theorem inv_append : ∀ x y : List Bool, inv (x ++ y) = inv x + inv y + x.count true * y.count false
  | [], y => by simp [inv]
  | true :: x, y => by
    have ih := inv_append x y
    simp only [List.cons_append, inv, List.count_append, ih, List.count_cons_self]
    rw [Nat.add_mul]
    omega
  | false :: x, y => by
    have ih := inv_append x y
    have e : (false :: x).count true = x.count true := by simp
    simp only [List.cons_append, inv, ih, e]
def mleft (z : Zp) : Nat := inv (z.1.reverse ++ z.2) + z.1.count true + z.2.count false
theorem next_mleft {z y : Zp} {p : Nat} (h : (p, y) ∈ next z) : mleft z = mleft y + 1 := by
  rcases next_cases h with ⟨L, R, rfl, _, rfl⟩ | ⟨L, R, rfl, _, rfl⟩ | ⟨L, R, rfl, _, rfl⟩ | ⟨L, R, rfl, _, rfl⟩
  · simp [mleft]; omega
  · simp [mleft, inv_append, inv]; 
    have := Nat.add_mul
    simp [Nat.add_mul, Nat.mul_add]
    omega
  · simp [mleft]; omega
  · simp [mleft, inv_append, inv, Nat.add_mul, Nat.mul_add]
    omega
theorem next_na {z y : Zp} {p : Nat} (h : (p, y) ∈ next z) : na y = na z := by
  rcases next_cases h with ⟨L, R, rfl, _, rfl⟩ | ⟨L, R, rfl, _, rfl⟩ | ⟨L, R, rfl, _, rfl⟩ | ⟨L, R, rfl, _, rfl⟩ <;> simp [na] <;> omega
theorem next_nb {z y : Zp} {p : Nat} (h : (p, y) ∈ next z) : nb y = nb z := by
  rcases next_cases h with ⟨L, R, rfl, _, rfl⟩ | ⟨L, R, rfl, _, rfl⟩ | ⟨L, R, rfl, _, rfl⟩ | ⟨L, R, rfl, _, rfl⟩ <;> simp [nb] <;> omega
theorem next_goal {z y : Zp} {p : Nat} (h : (p, y) ∈ next z) : goal y = goal z := by
  unfold goal
  rw [next_na h, next_nb h]
theorem next_pads {z y : Zp} {p : Nat} (h : (p, y) ∈ next z) : pads y = pads z := by
  rcases next_cases h with ⟨L, R, rfl, _, rfl⟩ | ⟨L, R, rfl, _, rfl⟩ | ⟨L, R, rfl, _, rfl⟩ | ⟨L, R, rfl, _, rfl⟩ <;> simp [pads] <;> omega
theorem na_nb (z : Zp) : na z + nb z + 1 = pads z := by
  have h : ∀ l : List Bool, l.count true + l.count false = l.length := by
    intro l
    induction l with
    | nil => rfl
    | cons x l ih => cases x <;> simp <;> omega
  have h1 := h z.1
  have h2 := h z.2
  unfold na nb pads
  omega
theorem goal_goal (z : Zp) : goal (goal z) = goal z := by
  have h1 : na (goal z) = na z := by simp [na, goal, List.count_replicate]
  have h2 : nb (goal z) = nb z := by simp [nb, goal, List.count_replicate]
  rw [show goal (goal z) = (List.replicate (nb (goal z)) false, List.replicate (na (goal z)) true) from rfl, h1, h2]
  rfl
theorem goal_next (z : Zp) : next (goal z) = [] := by
  have h1 : nextL (goal z) = [] := by
    unfold goal
    cases nb z with
    | zero => rfl
    | succ n => cases n <;> rfl
  have h2 : nextR (goal z) = [] := by
    unfold goal
    generalize List.replicate (nb z) false = L
    cases na z with
    | zero => cases L <;> rfl
    | succ n => cases n <;> (cases L <;> rfl)
  rw [next, h1, h2]
  rfl
theorem inv_goal (m n : Nat) : inv (List.replicate m false ++ List.replicate n true) = 0 := by
  have h1 : ∀ n, inv (List.replicate n true) = 0 := by
    intro n
    induction n with
    | zero => rfl
    | succ n ih => simp [List.replicate_succ, inv, ih, List.count_replicate]
  have h2 : ∀ m, inv (List.replicate m false) = 0 := by
    intro m
    induction m with
    | zero => rfl
    | succ n ih => simp [List.replicate_succ, inv, ih]
  rw [inv_append, h1, h2]
  simp [List.count_replicate]
theorem mleft_goal (z : Zp) : mleft (goal z) = 0 := by
  have e := inv_goal (nb z) (na z)
  simp [mleft, goal, List.count_replicate, e]
theorem next_none {z : Zp} (h : mleft z = 0) : next z = [] := by
  cases e : next z with
  | nil => rfl
  | cons q r =>
    have := next_mleft (z := z) (p := q.1) (y := q.2) (by rw [e]; exact List.mem_cons_self)
    omega

/-! ### all ways, in the order of lists -/
def waysF : Nat → Zp → List (List Nat)
  | 0, z => if z = goal z then [[]] else []
  | k + 1, z => (if z = goal z then [[]] else []) ++ (next z).flatMap fun q => (waysF k q.2).map (q.1 :: ·)
def wl (z : Zp) : List (List Nat) := waysF (mleft z) z
def ways (z : Zp) : Nat := (wl z).length
theorem wl_eq (z : Zp) : wl z = (if z = goal z then [[]] else []) ++ (next z).flatMap fun q => (wl q.2).map (q.1 :: ·) := by
  unfold wl
  cases e : mleft z with
  | zero => rw [next_none e]; simp [waysF]
  | succ k =>
    show _ ++ (next z).flatMap (fun q => (waysF k q.2).map (q.1 :: ·)) = _
    congr 1
    have h : ∀ l : List (Nat × Zp), (∀ q ∈ l, mleft q.2 = k) → l.flatMap (fun q => (waysF k q.2).map (q.1 :: ·)) = l.flatMap (fun q => (waysF (mleft q.2) q.2).map (q.1 :: ·)) := by
      intro l hl
      induction l with
      | nil => rfl
      | cons q r ih =>
        rw [List.flatMap_cons, List.flatMap_cons, ih (fun x hx => hl x (List.mem_cons_of_mem _ hx)), hl q List.mem_cons_self]
    refine h _ fun q hq => ?_
    have := next_mleft (z := z) (p := q.1) (y := q.2) hq
    omega
theorem ways_eq (z : Zp) : ways z = (if z = goal z then 1 else 0) + ((next z).map fun q => ways q.2).sum := by
  unfold ways
  rw [wl_eq, List.length_append]
  congr 1
  · split <;> rfl
  · rw [List.length_flatMap]
    congr 1
    refine List.map_congr_left fun q _ => ?_
    rw [List.length_map]
theorem wl_goal {z : Zp} (h : z = goal z) : wl z = [[]] := by
  have e : next z = [] := by rw [h]; exact goal_next z
  rw [wl_eq, if_pos h, e]
  rfl
theorem ways_goal {z : Zp} (h : z = goal z) : ways z = 1 := by
  unfold ways
  rw [wl_goal h]
  rfl
/-- at most two moves, so at most 2 ^ mleft ways -/
theorem next_two (z : Zp) : (next z).length ≤ 2 := by
  have h1 : (nextL z).length ≤ 1 := by unfold nextL; split <;> simp
  have h2 : (nextR z).length ≤ 1 := by unfold nextR; split <;> simp
  rw [next, List.length_append]
  omega
theorem ways_le : ∀ (k : Nat) (z : Zp), mleft z ≤ k → ways z ≤ 2 ^ k
  | 0, z, h => by
    rw [ways_eq, next_none (by omega)]
    simp
    split <;> omega
  | k + 1, z, h => by
    rw [ways_eq]
    by_cases hg : z = goal z
    · have e : next z = [] := by rw [hg]; exact goal_next z
      rw [if_pos hg, e]
      have := Nat.pow_pos (n := k + 1) (show 0 < 2 by decide)
      simp
      omega
    · rw [if_neg hg]
      have hs : ∀ l : List (Nat × Zp), (∀ q ∈ l, ways q.2 ≤ 2 ^ k) → (l.map fun q => ways q.2).sum ≤ l.length * 2 ^ k := by
        intro l hl
        induction l with
        | nil => simp
        | cons q r ih =>
          have i1 := ih (fun x hx => hl x (List.mem_cons_of_mem _ hx))
          have i2 := hl q List.mem_cons_self
          rw [List.map_cons, List.sum_cons, List.length_cons, Nat.add_mul]
          omega
      have h1 := hs (next z) fun q hq => ways_le k q.2 (by
        have := next_mleft (z := z) (p := q.1) (y := q.2) hq
        omega)
      have h2 := Nat.mul_le_mul_right (2 ^ k) (next_two z)
      rw [Nat.pow_succ]
      omega
theorem inv_le : ∀ l : List Bool, inv l ≤ l.count true * l.count false
  | [] => by simp [inv]
  | true :: r => by
    have := inv_le r
    simp [inv, Nat.add_mul]
    omega
  | false :: r => by
    have := inv_le r
    simp [inv, Nat.mul_add]
    omega
/-- at most 9 pads: at most 24 moves -/
theorem mleft_le9 {z : Zp} (h : pads z ≤ 9) : mleft z ≤ 24 := by
  have h1 := inv_le (z.1.reverse ++ z.2)
  rw [List.count_append, List.count_append, List.count_reverse, List.count_reverse] at h1
  have h2 := na_nb z
  have e1 : z.1.count true + z.2.count true = na z := rfl
  have e2 : z.1.count false + z.2.count false = nb z := rfl
  rw [e1, e2] at h1
  have h3 : na z * nb z ≤ 16 := by
    have : na z ≤ 8 := by omega
    generalize na z = a at *
    generalize nb z = b at *
    have hb : b ≤ 8 - a := by omega
    have : a * b ≤ a * (8 - a) := Nat.mul_le_mul_left _ hb
    have : ∀ a, a ≤ 8 → a * (8 - a) ≤ 16 := by decide
    have := this a (by omega)
    omega
  have : z.1.count true ≤ na z := by unfold na; omega
  have : z.2.count false ≤ nb z := by unfold nb; omega
  unfold mleft
  omega
end PL

/-! Padleap in plain Lean: the moves as they are read off the text. -/
namespace PL
/-! ### two rising lists with the same members are one -/
theorem rise_ext : ∀ {l m : List Nat}, l.Pairwise (· < ·) → m.Pairwise (· < ·) → (∀ x, x ∈ l ↔ x ∈ m) → l = m
  | [], [], _, _, _ => rfl
  | [], y :: m, _, _, h => by have := (h y).mpr List.mem_cons_self; cases this
  | x :: l, [], _, _, h => by have := (h x).mp List.mem_cons_self; cases this
  | x :: l, y :: m, hl, hm, h => by
    obtain ⟨hl1, hl2⟩ := List.pairwise_cons.mp hl
    obtain ⟨hm1, hm2⟩ := List.pairwise_cons.mp hm
    have e : x = y := by
      rcases List.mem_cons.mp ((h x).mp List.mem_cons_self) with e | e
      · exact e
      · rcases List.mem_cons.mp ((h y).mpr List.mem_cons_self) with e' | e'
        · exact e'.symm
        · have := hm1 _ e
          have := hl1 _ e'
          omega
    subst e
    congr 1
    refine rise_ext hl2 hm2 fun z => ⟨fun hz => ?_, fun hz => ?_⟩
    · rcases List.mem_cons.mp ((h z).mp (List.mem_cons_of_mem _ hz)) with e | e
      · subst e; have := hl1 _ hz; omega
      · exact e
    · rcases List.mem_cons.mp ((h z).mpr (List.mem_cons_of_mem _ hz)) with e | e
      · subst e; have := hm1 _ hz; omega
      · exact e
theorem movers_rise (z : Zp) : (movers z).Pairwise (· < ·) := by
  obtain ⟨L, R⟩ := z
  have h1 : ∀ q ∈ nextL (L, R), q.1 < L.length := by
    intro q hq
    unfold nextL at hq
    split at hq
    · rename_i hz; obtain ⟨rfl, rfl⟩ := Prod.mk.inj hz; rw [List.mem_singleton.mp hq]; simp
    · rename_i hz; obtain ⟨rfl, rfl⟩ := Prod.mk.inj hz; rw [List.mem_singleton.mp hq]; simp; omega
    · cases hq
  have h2 : ∀ q ∈ nextR (L, R), L.length < q.1 := by
    intro q hq
    unfold nextR at hq
    split at hq
    · rename_i hz; obtain ⟨rfl, rfl⟩ := Prod.mk.inj hz; rw [List.mem_singleton.mp hq]; simp
    · rename_i hz; obtain ⟨rfl, rfl⟩ := Prod.mk.inj hz; rw [List.mem_singleton.mp hq]; simp
    · cases hq
  have h3 : (nextL (L, R)).length ≤ 1 := by unfold nextL; split <;> simp
  have h4 : (nextR (L, R)).length ≤ 1 := by unfold nextR; split <;> simp
  unfold movers next
  rw [List.map_append]
  cases e1 : nextL (L, R) with
  | nil =>
    cases e2 : nextR (L, R) with
    | nil => simp
    | cons q r =>
      cases r with
      | nil => simp
      | cons _ _ => rw [e2] at h4; simp at h4
  | cons q r =>
    cases r with
    | cons _ _ => rw [e1] at h3; simp at h3
    | nil =>
      cases e2 : nextR (L, R) with
      | nil => simp
      | cons q' r =>
        cases r with
        | cons _ _ => rw [e2] at h4; simp at h4
        | nil =>
          have a1 := h1 q (by rw [e1]; simp)
          have a2 := h2 q' (by rw [e2]; simp)
          simp
          omega

/-! ### signs of the text -/
theorem cps_free (z : Zp) : (cps z)[fr z]? = some 46 := by
  simp [cps, fr]
theorem map_sg_no (l : List Bool) : 46 ∉ l.map sg := fun h => by
  obtain ⟨x, _, e⟩ := List.mem_map.mp h
  exact sg_ne x e
theorem cps_before (z : Zp) {k : Nat} (h : k < fr z) : (cps z)[k]? ≠ some 46 := by
  intro e
  unfold cps fr at *
  rw [List.getElem?_append_left (by simp; exact h)] at e
  exact map_sg_no _ (List.mem_of_getElem? e)
theorem cps_dot {z : Zp} {k : Nat} (h : (cps z)[k]? = some 46) : k = fr z := by
  rcases Nat.lt_trichotomy k (fr z) with h1 | h1 | h1
  · exact absurd h (cps_before z h1)
  · exact h1
  · unfold cps fr at *
    rw [List.getElem?_append_right (by simp; omega)] at h
    simp only [List.length_map, List.length_reverse] at h
    obtain ⟨j, hj⟩ : ∃ j, k - z.1.length = j + 1 := ⟨k - z.1.length - 1, by omega⟩
    rw [hj, List.getElem?_cons_succ] at h
    exact absurd (List.mem_of_getElem? h) (map_sg_no _)
theorem cps_inj {y z : Zp} (h : cps y = cps z) : y = z := by
  have h1 : fr y = fr z := cps_dot (by rw [← h]; exact cps_free y)
  obtain ⟨L, R⟩ := y
  obtain ⟨L', R'⟩ := z
  unfold cps fr at *
  simp only at h1 h
  obtain ⟨e1, e2⟩ := List.append_inj h (by simp [h1])
  have inj : ∀ {a b : List Bool}, a.map sg = b.map sg → a = b := by
    intro a
    induction a with
    | nil => intro b h; cases b with | nil => rfl | cons _ _ => simp at h
    | cons x a ih =>
      intro b h
      cases b with
      | nil => simp at h
      | cons y b =>
        simp only [List.map_cons, List.cons.injEq] at h
        rw [sg_inj h.1, ih h.2]
  have e3 := List.reverse_inj.mp (inj e1)
  have e4 := inj (List.cons.inj e2).2
  rw [e3, e4]

theorem at_left (x : Bool) (L R : List Bool) : (cps (x :: L, R))[L.length]? = some (sg x) := by
  simp [cps]
theorem cut_left2 (x y : Bool) (L R : List Bool) : ((cps (x :: y :: L, R)).drop L.length).take 2 = [sg y, sg x] := by
  simp [cps]
theorem cut_right (L R : List Bool) (k : Nat) : ((cps (L, R)).drop (L.length + 1)).take k = (R.take k).map sg := by
  unfold cps
  simp only
  rw [List.drop_append, List.drop_of_length_le (by simp)]
  simp [List.map_take]

/-! ### the program's own reading -/
def c1 (z : Zp) : Bool := decide (1 < fr z) && decide (((cps z).drop (fr z - 2)).take 2 = [97, 98])
def c2 (z : Zp) : Bool := decide (0 < fr z) && decide ((cps z)[fr z - 1]? = some 97)
def c3 (z : Zp) : Bool := decide (((cps z).drop (fr z + 1)).take 1 = [98])
def c4 (z : Zp) : Bool := decide (((cps z).drop (fr z + 1)).take 2 = [97, 98])
theorem movers_read (z : Zp) : movers z = (if c1 z = true then [fr z - 2] else []) ++ (if c2 z = true then [fr z - 1] else []) ++ (if c3 z = true then [fr z + 1] else []) ++ (if c4 z = true then [fr z + 2] else []) := by
  obtain ⟨L, R⟩ := z
  have hl : (nextL (L, R)).map (·.1) = (if c1 (L, R) = true then [fr (L, R) - 2] else []) ++ (if c2 (L, R) = true then [fr (L, R) - 1] else []) := by
    cases L with
    | nil => simp [nextL, c1, c2, fr]
    | cons x L =>
      have e2 : c2 (x :: L, R) = x := by
        unfold c2
        have : fr (x :: L, R) - 1 = L.length := by simp [fr]
        rw [this, at_left]
        cases x <;> simp [sg, fr]
      rw [e2]
      cases L with
      | nil => cases x <;> simp [nextL, c1, fr]
      | cons y L =>
        have e1 : c1 (x :: y :: L, R) = (y && !x) := by
          unfold c1
          have : fr (x :: y :: L, R) - 2 = L.length := by simp [fr]
          rw [this, cut_left2]
          cases x <;> cases y <;> simp [sg, fr]
        rw [e1]
        cases x <;> cases y <;> simp [nextL, fr]
  have hr : (nextR (L, R)).map (·.1) = (if c3 (L, R) = true then [fr (L, R) + 1] else []) ++ (if c4 (L, R) = true then [fr (L, R) + 2] else []) := by
    have e3 : c3 (L, R) = decide ((R.take 1).map sg = [98]) := by
      unfold c3; rw [show fr (L, R) = L.length from rfl, cut_right]
    have e4 : c4 (L, R) = decide ((R.take 2).map sg = [97, 98]) := by
      unfold c4; rw [show fr (L, R) = L.length from rfl, cut_right]
    rw [e3, e4]
    cases R with
    | nil => simp [nextR]
    | cons x R =>
      cases R with
      | nil => cases x <;> simp [nextR, fr, sg]
      | cons y R => cases x <;> cases y <;> simp [nextR, fr, sg]
  unfold movers next
  rw [List.map_append, hl, hr]
  simp only [List.append_assoc]

/-! ### the law's own reading: each pad looked at -/
def ahead (c : List Nat) (i : Nat) : List Nat := if c[i]? = some 97 then (c.drop (i + 1)).take 2 else ((c.take i).reverse).take 2
def canGo (c : List Nat) (i : Nat) : Bool := decide (c[i]? ≠ some 46) && (decide ((ahead c i).take 1 = [46]) || (decide ((ahead c i).drop 1 = [46]) && (decide ((ahead c i)[0]? ≠ c[i]?) && decide ((ahead c i)[0]? ≠ some 46))))

theorem go_at {c A B : List Nat} {x : Nat} (h : c = A ++ x :: B) : c[A.length]? = some x ∧ c.drop (A.length + 1) = B ∧ c.take A.length = A := by
  subst h
  refine ⟨by simp, ?_, by simp⟩
  rw [List.drop_append, List.drop_of_length_le (by simp)]
  simp
theorem canGo_a {c A B : List Nat} (h : c = A ++ 97 :: B) : canGo c A.length = (decide ((B.take 2).take 1 = [46]) || (decide ((B.take 2).drop 1 = [46]) && (decide (B[0]? ≠ some 97) && decide (B[0]? ≠ some 46)))) := by
  obtain ⟨h1, h2, h3⟩ := go_at h
  unfold canGo ahead
  rw [h1, if_pos rfl, h2]
  have e : (B.take 2)[0]? = B[0]? := by simp
  rw [e]
  simp
theorem canGo_b {c A B : List Nat} (h : c = A ++ 98 :: B) : canGo c A.length = (decide ((A.reverse.take 2).take 1 = [46]) || (decide ((A.reverse.take 2).drop 1 = [46]) && (decide (A.reverse[0]? ≠ some 98) && decide (A.reverse[0]? ≠ some 46)))) := by
  obtain ⟨h1, h2, h3⟩ := go_at h
  unfold canGo ahead
  rw [h1, if_neg (by decide), h3]
  have e : (A.reverse.take 2)[0]? = A.reverse[0]? := by simp
  rw [e]
  simp
theorem sg_take_no (l : List Bool) (n : Nat) : ((l.map sg).take 2).take 1 ≠ [46] ∧ ((l.map sg).take 2).drop 1 ≠ [46] := by
  match l with
  | [] => simp
  | [x] => cases x <;> simp [sg]
  | x :: y :: r => cases x <;> cases y <;> simp [sg]

theorem sg_take_far (l : List Bool) (X : List Nat) (h : 2 ≤ l.length) : ((l.map sg ++ X).take 2).take 1 ≠ [46] ∧ ((l.map sg ++ X).take 2).drop 1 ≠ [46] := by
  match l, h with
  | x :: y :: r, _ => cases x <;> cases y <;> simp [sg]
theorem mem_movers {L R : List Bool} {i : Nat} : i ∈ movers (L, R) ↔ (i + 1 = L.length ∧ L[0]? = some true) ∨ (i + 2 = L.length ∧ L[0]? = some false ∧ L[1]? = some true) ∨ (i = L.length + 1 ∧ R[0]? = some false) ∨ (i = L.length + 2 ∧ R[0]? = some true ∧ R[1]? = some false) := by
  constructor
  · intro hm
    obtain ⟨⟨p, y⟩, hq, e⟩ := List.mem_map.mp hm
    simp only at e
    subst e
    rcases next_cases hq with ⟨L', R', e, hp, _⟩ | ⟨L', R', e, hp, _⟩ | ⟨L', R', e, hp, _⟩ | ⟨L', R', e, hp, _⟩ <;> (obtain ⟨rfl, rfl⟩ := Prod.mk.inj e; simp [hp])
  · intro h
    unfold movers next
    rw [List.map_append]
    rcases h with ⟨h1, h2⟩ | ⟨h1, h2, h3⟩ | ⟨h1, h2⟩ | ⟨h1, h2, h3⟩
    · refine List.mem_append.mpr (.inl ?_)
      match L, h1, h2 with
      | true :: L, h1, _ => simp at h1; simp [nextL, h1]
    · refine List.mem_append.mpr (.inl ?_)
      match L, h1, h2, h3 with
      | false :: true :: L, h1, _, _ => simp at h1; simp [nextL, h1]
    · refine List.mem_append.mpr (.inr ?_)
      match R, h2 with
      | false :: R, _ => simp [nextR, h1]
    · refine List.mem_append.mpr (.inr ?_)
      match R, h2, h3 with
      | true :: false :: R, _, _ => simp [nextR, h1]
theorem mem_left {L R : List Bool} {i : Nat} (h : i < L.length) : i ∈ movers (L, R) ↔ (i + 1 = L.length ∧ L[0]? = some true) ∨ (i + 2 = L.length ∧ L[0]? = some false ∧ L[1]? = some true) := by
  rw [mem_movers]
  constructor
  · rintro (h | h | h | h)
    · exact .inl h
    · exact .inr h
    · exact absurd h.1 (by omega)
    · exact absurd h.1 (by omega)
  · rintro (h | h)
    · exact .inl h
    · exact .inr (.inl h)
theorem mem_right {L R : List Bool} {j : Nat} : L.length + 1 + j ∈ movers (L, R) ↔ (j = 0 ∧ R[0]? = some false) ∨ (j = 1 ∧ R[0]? = some true ∧ R[1]? = some false) := by
  rw [mem_movers]
  constructor
  · rintro (h | h | h | h)
    · exact absurd h.1 (by omega)
    · exact absurd h.1 (by omega)
    · exact .inl ⟨by omega, h.2⟩
    · exact .inr ⟨by omega, h.2⟩
  · rintro (h | h)
    · exact .inr (.inr (.inl ⟨by omega, h.2⟩))
    · exact .inr (.inr (.inr ⟨by omega, h.2⟩))
theorem canGo_iff (z : Zp) {i : Nat} (hi : i < pads z) : canGo (cps z) i = true ↔ i ∈ movers z := by
  obtain ⟨L, R⟩ := z
  rcases Nat.lt_trichotomy i L.length with h | h | h
  · -- left of the free pad
    obtain ⟨A, x, B, eL, hA⟩ : ∃ A x B, L = B ++ x :: A ∧ A.length = i := by
      refine ⟨L.drop (L.length - i), L[L.length - 1 - i]'(by omega), L.take (L.length - 1 - i), ?_, by simp; omega⟩
      have e : L.length - i = (L.length - 1 - i) + 1 := by omega
      rw [e]
      conv => lhs; rw [← List.take_append_drop (L.length - 1 - i) L]
      congr 1
      exact List.drop_eq_getElem_cons (by omega)
    subst eL hA
    have ec : cps (B ++ x :: A, R) = (A.reverse.map sg) ++ sg x :: ((B.reverse.map sg) ++ 46 :: R.map sg) := by simp [cps]
    have hlen : A.length = (A.reverse.map sg).length := by simp
    rw [mem_left h]
    cases x with
    | false =>
      have : canGo (cps (B ++ false :: A, R)) A.length = false := by
        have q := canGo_b (c := cps (B ++ false :: A, R)) ec
        rw [← hlen] at q
        obtain ⟨t1, t2⟩ := sg_take_no A 2
        rw [q, show (List.map sg A.reverse).reverse = A.map sg by simp, decide_eq_false t1, decide_eq_false t2]
        rfl
      rw [this]
      match B with
      | [] => simp
      | [y] => simp
      | _ :: _ :: _ => simp; omega
    | true =>
      have q := canGo_a (c := cps (B ++ true :: A, R)) (B := (B.reverse.map sg) ++ 46 :: R.map sg) ec
      rw [← hlen] at q
      rw [q]
      match B with
      | [] => simp
      | [y] => cases y <;> simp [sg]
      | y1 :: y2 :: B' =>
        obtain ⟨t1, t2⟩ := sg_take_far (y1 :: y2 :: B').reverse (46 :: R.map sg) (by simp)
        rw [decide_eq_false t1, decide_eq_false t2]
        simp
        omega
  · subst h
    have e : canGo (cps (L, R)) L.length = false := by
      have := cps_free (L, R)
      unfold canGo
      rw [show (cps (L, R))[L.length]? = some 46 from this]
      simp
    rw [e, mem_movers]
    simp
  · obtain ⟨A, x, B, eR, hA⟩ : ∃ A x B, R = A ++ x :: B ∧ L.length + 1 + A.length = i := by
      have hp : i < L.length + R.length + 1 := hi
      refine ⟨R.take (i - L.length - 1), R[i - L.length - 1]'(by omega), R.drop (i - L.length - 1 + 1), ?_, by simp; omega⟩
      conv => lhs; rw [← List.take_append_drop (i - L.length - 1) R]
      congr 1
      exact List.drop_eq_getElem_cons (by omega)
    subst eR
    have ec : cps (L, A ++ x :: B) = (L.reverse.map sg ++ 46 :: A.map sg) ++ sg x :: B.map sg := by simp [cps]
    subst hA
    have hlen : L.length + 1 + A.length = (L.reverse.map sg ++ 46 :: A.map sg).length := by simp; omega
    rw [mem_right]
    cases x with
    | true =>
      have : canGo (cps (L, A ++ true :: B)) (L.length + 1 + A.length) = false := by
        have q := canGo_a (c := cps (L, A ++ true :: B)) ec
        rw [← hlen] at q
        obtain ⟨t1, t2⟩ := sg_take_no B 2
        rw [q, decide_eq_false t1, decide_eq_false t2]
        rfl
      rw [this]
      match A with
      | [] => simp
      | [y] => simp
      | _ :: _ :: _ => simp
    | false =>
      have q := canGo_b (c := cps (L, A ++ false :: B)) ec
      rw [← hlen] at q
      rw [q, show (List.map sg L.reverse ++ 46 :: List.map sg A).reverse = (A.reverse.map sg) ++ 46 :: L.map sg by simp]
      match A with
      | [] => simp
      | [y] => cases y <;> simp [sg]
      | y1 :: y2 :: A' =>
        obtain ⟨t1, t2⟩ := sg_take_far (y1 :: y2 :: A').reverse (46 :: L.map sg) (by simp)
        rw [decide_eq_false t1, decide_eq_false t2]
        simp
theorem movers_lt {z : Zp} {i : Nat} (h : i ∈ movers z) : i < pads z := by
  obtain ⟨L, R⟩ := z
  have key : ∀ (X : List Bool) (k : Nat) (b : Bool), X[k]? = some b → k < X.length := fun X k b e => (List.getElem?_eq_some_iff.mp e).1
  rcases mem_movers.mp h with ⟨h1, h2⟩ | ⟨h1, h2, h3⟩ | ⟨h1, h2⟩ | ⟨h1, h2, h3⟩
  · show i < L.length + R.length + 1; omega
  · show i < L.length + R.length + 1; omega
  · have := key _ _ _ h2; show i < L.length + R.length + 1; omega
  · have := key _ _ _ h3; show i < L.length + R.length + 1; omega
theorem movers_law (z : Zp) : (List.range (pads z)).filter (canGo (cps z)) = movers z := by
  refine rise_ext ((List.pairwise_lt_range).filter _) (movers_rise z) fun x => ?_
  rw [List.mem_filter, List.mem_range]
  exact ⟨fun ⟨h1, h2⟩ => (canGo_iff z h1).mp h2, fun h => ⟨movers_lt h, (canGo_iff z (movers_lt h)).mpr h⟩⟩

/-! ### the standing behind a move -/
theorem next_ne {z y : Zp} {p : Nat} (h : (p, y) ∈ next z) : p ≠ fr z := by
  rcases next_cases h with ⟨L, R, rfl, rfl, rfl⟩ | ⟨L, R, rfl, rfl, rfl⟩ | ⟨L, R, rfl, rfl, rfl⟩ | ⟨L, R, rfl, rfl, rfl⟩ <;> (simp [fr]; try omega)
theorem next_lt {z y : Zp} {p : Nat} (h : (p, y) ∈ next z) : p < pads z := movers_lt (List.mem_map.mpr ⟨_, h, rfl⟩)
theorem behind_at {z y : Zp} {p : Nat} (h : (p, y) ∈ next z) : ∃ c, (cps z)[p]? = some c ∧ c ≠ 46 ∧ ((cps z).set (fr z) c).set p 46 = cps y := by
  rcases next_cases h with ⟨L, R, rfl, rfl, rfl⟩ | ⟨L, R, rfl, rfl, rfl⟩ | ⟨L, R, rfl, rfl, rfl⟩ | ⟨L, R, rfl, rfl, rfl⟩
  · exact ⟨97, by simp [cps, sg], by decide, by simp [cps, sg, fr, List.set_append]⟩
  · refine ⟨97, by simp [cps, sg], by decide, ?_⟩
    have e : L.length + 1 + 1 - L.length = 2 := by omega
    have h1 : ¬ L.length + 1 + 1 < L.length := by omega
    simp [cps, sg, fr, List.set_append, h1, e]
  · refine ⟨98, by simp [cps, sg], by decide, by simp [cps, sg, fr, List.set_append]⟩
  · refine ⟨98, by simp [cps, sg], by decide, by simp [cps, sg, fr, List.set_append]⟩
/-- .. sign by sign -/
theorem behind_law {z y : Zp} {p : Nat} (h : (p, y) ∈ next z) {c : Nat} (hc : (cps z)[p]? = some c) : (List.range (pads z)).map (fun i => if i = p then 46 else if i = fr z then c else (cps z).getD i 0) = cps y := by
  obtain ⟨c', hc', _, e⟩ := behind_at h
  rw [hc] at hc'
  cases hc'
  rw [← e]
  refine List.ext_getElem? fun i => ?_
  rw [List.getElem?_map]
  by_cases hi : i < pads z
  · rw [List.getElem?_range hi]
    have hl := cps_len z
    by_cases h1 : i = p
    · subst h1
      rw [List.getElem?_set_self (by simp; omega)]
      simp
    · rw [List.getElem?_set_ne (by omega)]
      by_cases h2 : i = fr z
      · subst h2
        rw [List.getElem?_set_self (by omega)]
        simp [h1]
      · rw [List.getElem?_set_ne (by omega)]
        simp [h1, h2]
        rw [List.getElem?_eq_getElem (by omega)]
        simp
  · rw [List.getElem?_eq_none (by simp; omega), List.getElem?_eq_none (by simp [cps_len]; omega)]
    rfl
end PL

/-! Rules of the layer that the program wants besides: text * int, text[::-1], enumerate(text), list(text), great products; texts by codes. -/
namespace PR
open PySem PySem.Spec PyProof.Rows L2 SX
section
variable {X : Cx}
/-- a * b, whatever the sizes that the model serves -/
theorem op_mulX : OpR X (binaryOp .Mult) (rI (fun i j => IntMulOk i j) fun i j => .int (i * j)) := opI fun _ _ _ _ _ _ _ hc q => mul_int q hc
/-- text * int -/
theorem op_mul_str : OpR X (binaryOp .Mult) (fun x y H Q => ∃ (z : Str) (n : Int), x = .str z ∧ y = .int n ∧ MulOk z n ∧ Q (.str (Txt.mul z n)) H) := by
  intro pins s σ H x y v u Q I rx ry h
  obtain ⟨z, n, rfl, rfl, hok, q⟩ := h
  obtain ⟨t, rfl⟩ := rx
  obtain ⟨t', rfl⟩ := ry
  exact SB.mul hok fun t2 k => ⟨.str _, H, I.tok _, ⟨_, rfl⟩, q⟩
/-- text[::-1] -/
def tRevS (te : TE) : TE := fun σ H Q => te σ H fun x H1 => ∃ l : List Nat, x = .str (S l) ∧ l.length ≤ sizeLine ∧ Q (.str (S l.reverse)) H1
theorem sliceMade_rev (l : List Nat) (t u : Tok) : sliceMade (S l) t none none (some (-1, u)) = .str (S l.reverse) := by
  have h := step_rev_list (S l) u
  unfold Txt.sliceBy at h
  unfold sliceMade
  have h1 : ¬ (((((some ((-1 : Int), u)).map (·.1)).getD 1 == 1) && ((slicePicked (S l) none none (some (-1, u))).length == (S l).length)) = true) := by
    have : ((((some ((-1 : Int), u)).map (·.1)).getD 1 == 1)) = false := rfl
    rw [this]; simp
  rw [if_neg h1] at h ⊢
  congr 1
  refine TL.ext_tl ?_
  refine h.trans ?_
  show _ = l.reverse
  refine List.ext_getElem? fun i => ?_
  rw [List.getElem?_map]
  by_cases hi : i < l.length
  · rw [List.getElem?_range (by simp [Str.length]; exact hi), List.getElem?_reverse hi]
    simp [Str.length]
    rw [List.getElem?_eq_getElem (by omega)]
    simp [Array.getD]
  · rw [List.getElem?_eq_none (by simp [Str.length]; omega), List.getElem?_eq_none (by simp; omega)]
    rfl
theorem pe_revS {e : Expr} {te : TE} {k : Nat} {p1 p2 p3 pos : Pos} (he : PE X e te) : PE X (.Subscript e (.Slice none none (some (.UnaryOp .USub (.Constant (.int 1) k p1) p2)) p3) pos) (tRevS te) := by
  refine ⟨fun pins s σ H Q I h => ?_⟩
  refine Subscript_ (thn (he.run pins s σ H _ I h) fun v s1 ⟨x, H1, I1, r1, q1⟩ => ?_)
  obtain ⟨l, ex, hl, q⟩ := q1
  subst ex
  obtain ⟨t, rfl⟩ := r1
  have hst : PO X (some (.UnaryOp .USub (.Constant (.int 1) k p1) p2)) (tPart (tUn (rU fun i => .int (-i)) (tC (.int 1)))) := po_some (pe_un un_neg pe_int)
  refine wpAny_Slice (thn (po_none.run pins s1 σ H1 (fun o H2 => o = none ∧ H2 = H1) I1 ⟨rfl, rfl⟩) fun vl s2 ⟨l1, H2, I2, pl, el, e2⟩ => ?_)
  subst el e2
  refine thn (po_none.run pins s2 σ H2 (fun o H3 => o = none ∧ H3 = H2) I2 ⟨rfl, rfl⟩) fun vu s3 ⟨u, H3, I3, pu, eu, e3⟩ => ?_
  subst eu e3
  refine thn (hst.run pins s3 σ H3 (fun o H4 => o = some (-1) ∧ H4 = H3) I3 ⟨1, rfl, -1, rfl, rfl, rfl⟩) fun vs s4 ⟨o, H4, I4, ps, eo, e4⟩ => ?_
  subst eo e4
  have I5 : Inv X pins σ H4 { s4 with heap := s4.heap.push { cls := .type "slice", data := .fields #[vl, vu, vs] } } := I4.kept (t' := s4.toks) fun b ob q => Heap.get?_push_of_some _ q
  obtain ⟨a1, rfl, ea1⟩ := IsPart.raw pl
  obtain ⟨a2, rfl, ea2⟩ := IsPart.raw pu
  obtain ⟨a3, rfl, ea3⟩ := IsPart.raw ps
  have e1 : a1 = none := by cases a1 with | none => rfl | some _ => cases ea1
  have e2 : a2 = none := by cases a2 with | none => rfl | some _ => cases ea2
  subst e1 e2
  cases a3 with
  | none => cases ea3
  | some w =>
    obtain ⟨w1, w2⟩ := w
    have e3 : w1 = -1 := Option.some.inj ea3
    subst e3
    show wpAny (model X.prog X.w) X.A (subscriptTail e (.Slice none none (some (.UnaryOp .USub (.Constant (.int 1) k p1) p2)) p3) (.str (S l) t) (.ref s4.heap.objs.size)) (EP X pins σ Q) X.xe _
    refine tail_any (ops := [.str (S l) t, .ref s4.heap.objs.size]) (typeIs_str _ _ _) PySem.F.slot_str_getitem.lookup ?_ (by with_unfolding_all rfl)
    refine wpAny_getItem_str_slice (l := none) (u := none) (st := some (-1, w2)) ⟨_, Heap.get?_push_size _ rfl, rfl, rfl⟩ (by rfl) ?_
    rw [sliceMade_rev]
    exact ⟨by rw [S_len, List.length_reverse]; exact hl, .str _, H4, I5.tok _, ⟨_, rfl⟩, q⟩
/-- an expression, then the rest from a word of one's own -/
def tCutE (t : TE) : TE := fun σ H Q => ∃ Mid : V → Hp → Prop, t σ H Mid ∧ ∀ v H', Mid v H' → Q v H'
theorem pe_cut {e : Expr} {t : TE} (h : PE X e t) : PE X e (tCutE t) := by
  refine ⟨fun pins s σ H Q I hw => ?_⟩
  obtain ⟨Mid, h1, h2⟩ := hw
  exact thn (h.run pins s σ H Mid I h1) fun v s1 ⟨x, H1, I1, r1, q1⟩ => ⟨x, H1, I1, r1, h2 _ _ q1⟩
def tCutT (t : TT) : TT := fun σ H Q => ∃ Mid : Bool → Hp → Prop, t σ H Mid ∧ ∀ v H', Mid v H' → Q v H'
theorem pt_cut {e : Expr} {t : TT} (h : PT X e t) : PT X e (tCutT t) := by
  refine ⟨fun pins s σ H Q I hw => ?_⟩
  obtain ⟨Mid, h1, h2⟩ := hw
  exact thn (h.run pins s σ H Mid I h1) fun v s1 ⟨H1, I1, q1⟩ => ⟨H1, I1, h2 _ _ q1⟩
/-- list(text) -/
theorem call_list_txt (hc : X.calm = true) : CallR X (.type "list") (fun xs H Q => ∃ l : List Nat, xs = [.str (S l)] ∧ l.length ≤ sizeLine ∧ ∀ p, H p = none → Q (.ref p) (upd H p (.lst (l.map fun c => V.str (S [c]))))) := by
  intro pins s σ H xs us Q I r h
  obtain ⟨l, rfl, hz, q⟩ := h
  obtain ⟨u, rfl, ru⟩ := vals1 r
  obtain ⟨t, rfl⟩ := ru
  refine PySem.call_list_str (I.ok.hd hc) (S l) t (fun h' tk acc c' hk e hi => ?_) (by simpa using hz)
  refine ⟨.ref s.heap.objs.size, upd H s.heap.objs.size (.lst (l.map fun c => V.str (S [c]))), I.laid hk (Nat.le_refl _) ⟨by rw [List.length_map]; exact hz, acc.toList, c', ?_, by rw [Array.toArray_toList]; exact e⟩, rfl, q _ (I.hok.fresh (Nat.le_refl _))⟩
  refine vals_of_idx _ _ (by rw [List.length_map, Array.length_toList]; simpa using hi.1) fun j u hj => ?_
  obtain ⟨c, t', hc, rfl⟩ := hi.2 j u (by rw [← Array.getElem?_toList]; exact hj)
  refine ⟨.str (S [c]), ?_, ⟨_, rfl⟩⟩
  rw [List.getElem?_map]
  have : l[j]? = some c := by simpa using hc
  rw [this]
  rfl
end

/-! ### enumerate(text) -/
def Ites (l : List Nat) : It :=
  ⟨fun i _ => i < l.length, fun i H v H' => ∃ T c, v = .ref T ∧ H T = none ∧ H' = upd H T (.tup [.int (i : Nat), .str (S [c])]) ∧ l[i]? = some c, fun i _ => i = l.length⟩
theorem turn_enumS {P : Program} {w : World} {K : PySem.W.Frag} {elts : List Expr} {kk : Nat} {tpos : Pos} (l : List Nat) (t : Tok) (ty : String) (hty : ty = "str_ascii_iterator" ∨ ty = "str_iterator") (e it : Addr) :
    Turn P w K (.Tuple elts kk tpos) (Ites l) [e, it] e (fun i h => (∃ old, IsEnum h e it ((i : Nat) : Int) old) ∧ h.IsStrIter it ty (S l) t i ∧ e ≠ it) where
  mem := by simp
  obj := fun i h st b hb => by
    obtain ⟨⟨old, he⟩, ⟨o, ho, hc, hd⟩, _⟩ := st
    have e' : b = e ∨ b = it := by simpa using hb
    rcases e' with z | z
    · rw [z]; exact ⟨_, he, fun v q => nomatch q⟩
    · rw [z]; exact ⟨o, ho, fun v q => by rw [hd] at q; cases q⟩
  keep := fun i h h' st k => let ⟨⟨old, he⟩, ⟨o, ho, r⟩, hne⟩ := st; ⟨⟨old, k e (by simp) _ he⟩, ⟨o, k it (by simp) o ho, r⟩, hne⟩
  item := by
    intro X hP hw hK hc i pins s σ H E I hf st hg
    subst hP hw hK
    obtain ⟨⟨old, he⟩, hit, hne⟩ := st
    have hel : e < s.heap.objs.size := Heap.lt_size he
    have hil : it < s.heap.objs.size := by obtain ⟨_, q, _⟩ := hit; exact Heap.lt_size q
    have D : Draws X.prog X.w X.A.in1 it [it] (S l).cps.size (fun i v => ∃ c u, (S l).cps[i]? = some c ∧ v = .str ⟨#[c]⟩ u) (fun i h => h.IsStrIter it ty (S l) t i) := by
      rcases hty with z | z
      · rw [z]; exact Draws.strAscii (A := X.A.in1) (I.ok.hd hc) it (S l) t
      · rw [z]; exact Draws.strWide (A := X.A.in1) (I.ok.hd hc) it (S l) t
    have hlt : i < (S l).cps.size := by
      have : i < l.length := hg
      simpa using this
    refine wpAny_pyNext_enum_itemD D he hit hlt hne (by simpa using hne) fun u h' tk hP ho hit' hT hsz hk => ?_
    obtain ⟨c, tu, hcx, rfl⟩ := hP
    have hlc : l[i]? = some c := by simpa using hcx
    refine ⟨_, rfl, wpAny_letOwnedTupleGo_enum (s := { s with heap := h', toks := tk + 1 }) ho fun h'' he' sb => ?_⟩
    have hT2 : h''.get? s.heap.objs.size = some { cls := .type "tuple", data := .seq #[.int i tk, .str ⟨#[c]⟩ tu] } := (sb.2 _ (Nat.ne_of_gt hel)).trans hT
    have new : ObjOk X.prog X.w (upd H s.heap.objs.size (.tup [.int (i : Nat), .str (S [c])])) h'' s.heap.objs.size (.tup [.int (i : Nat), .str (S [c])]) :=
      ⟨by show 2 ≤ sizeLine; decide, [.int i tk, .str ⟨#[c]⟩ tu], .cons ⟨_, rfl⟩ (.cons ⟨_, rfl⟩ .nil), ⟨_, hT2, rfl, _, rfl⟩⟩
    have I1 : Inv X pins σ (upd H s.heap.objs.size (.tup [.int (i : Nat), .str (S [c])])) { s with heap := h'', toks := tk + 1 } :=
      I.turnedNew (ch := [e, it]) (fun b ob hb q => (sb.2 b (fun z => hb (by simp [z]))).trans (hk b ob (fun z => hb (by simp [z])) (fun z => hb (by simp [z])) q)) hf (Nat.le_refl _) new
    obtain ⟨oi, hoi, roi⟩ := hit'
    refine ⟨.ref s.heap.objs.size, _, I1, rfl, ⟨_, c, rfl, I.hok.fresh (Nat.le_refl _), rfl, hlc⟩, ⟨⟨.str ⟨#[c]⟩ tu, ?_⟩, ⟨oi, (sb.2 it (Ne.symm hne)).trans hoi, roi⟩, hne⟩, fun b hb => ?_⟩
    · have e1 : ((i + 1 : Nat) : Int) = (i : Int) + 1 := by omega
      rw [e1]; exact he'
    · have hb' : b < s.heap.objs.size := by
        have e' : b = e ∨ b = it := by simpa using hb
        rcases e' with z | z
        · rw [z]; exact hel
        · rw [z]; exact hil
      rw [upd_ne (Nat.ne_of_lt hb')]
      exact (hf b hb).1
  done := by
    intro X hP hw hK hc i pins s σ H E I hf st hg
    subst hP hw hK
    obtain ⟨⟨old, he⟩, hit, hne⟩ := st
    obtain ⟨f0, f1, f2, f3, f4, f5⟩ := hf it (by simp)
    have D : Draws X.prog X.w X.A.in1 it [it] (S l).cps.size (fun i v => ∃ c u, (S l).cps[i]? = some c ∧ v = .str ⟨#[c]⟩ u) (fun i h => h.IsStrIter it ty (S l) t i) := by
      rcases hty with z | z
      · rw [z]; exact Draws.strAscii (A := X.A.in1) (I.ok.hd hc) it (S l) t
      · rw [z]; exact Draws.strWide (A := X.A.in1) (I.ok.hd hc) it (S l) t
    have hg' : i = (S l).cps.size := by
      have : i = l.length := hg
      simpa using this
    rw [hg'] at hit
    exact wpAny_pyNext_enum_endD D he hit fun h' eb => ⟨rfl, I.turned (t' := s.toks) (fun b o hb q => eb b o hb q) f0 f1 f3 f4 f5⟩
  self := fun A i s Q E st h => let ⟨⟨_, he⟩, _⟩ := st; wpAny_pyIter_enum he h
def iEnumS (ta : TA) : TI := fun σ H R => ta σ H fun vs H1 => ∃ l : List Nat, vs = [.str (S l)] ∧ R (Ites l) H1
theorem pi_enumS {X : Cx} {e : Expr} {ta : TA} {p pos tpos : Pos} {elts : List Expr} {kk : Nat} (hg : Gl X "enumerate") (hm : X.mg "enumerate" = none) (ha : PA X [e] ta) (hs : starEach [e] X.env = [(false, eval e X.env)] := by rfl) :
    PI X (.Tuple elts kk tpos) (.Call (.Name "enumerate" p) [e] [] pos) (iEnumS ta) := by
  refine ⟨fun pins s σ H R I h => ?_⟩
  refine Call_ (ld_blt I hg hm boot_enumerate (PyProof.Rows.callWith_type1 (thn (ha.run pos pins s σ H _ I h) fun us s1 ⟨vs, H1, I1, r1, q1⟩ => ?_) hs rfl))
  obtain ⟨l, ex, q⟩ := q1
  subst ex
  cases r1 with
  | cons r rr =>
    cases rr
    obtain ⟨t, rfl⟩ := r
    refine call_enumerate_str fun h' he hit hsz hk => wpAny_pyIter_enum he ?_
    have I2 : Inv X pins σ H1 { s1 with heap := h' } := I1.kept (t' := s1.toks) hk
    have hty : strIterType (S l) = "str_ascii_iterator" ∨ strIterType (S l) = "str_iterator" := by
      unfold strIterType
      split
      · exact .inl rfl
      · exact .inr rfl
    refine ⟨s1.heap.objs.size + 1, [s1.heap.objs.size + 1, s1.heap.objs.size], _, _, H1, rfl, I2, turn_enumS l t _ hty (s1.heap.objs.size + 1) s1.heap.objs.size, ⟨⟨.none, he⟩, hit, Nat.succ_ne_self _⟩, fun b hb => ?_, q⟩
    have e' : b = s1.heap.objs.size + 1 ∨ b = s1.heap.objs.size := by simpa using hb
    have hle : s1.heap.objs.size ≤ b := by
      rcases e' with z | z
      · rw [z]; exact Nat.le_add_right _ _
      · rw [z]; exact Nat.le_refl _
    exact I1.fpOk hle (I1.hok.fresh hle)
theorem walk_enumS {l : List Nat} : Walk (Ites l) l.length (fun _ => True) (fun i H v H' => ∃ T c, v = .ref T ∧ H T = none ∧ H' = upd H T (.tup [.int (i : Nat), .str (S [c])]) ∧ l[i]? = some c) :=
  ⟨fun _ _ hi _ => hi, fun _ _ => rfl, fun _ _ _ _ _ _ y => y⟩
theorem walk_strL {l : List Nat} : Walk (Its (S l)) l.length (fun _ => True) (fun i H v H' => H' = H ∧ ∃ c, l[i]? = some c ∧ v = .str (S [c])) :=
  ⟨fun i _ hi _ => by show i < (S l).cps.size; simpa using hi, fun _ _ => by show (S l).cps.size ≤ l.length; simp, fun i _ _ _ _ _ y => by
    obtain ⟨h1, c, h2, h3⟩ := y
    exact ⟨h1, c, by simpa using h2, h3⟩⟩

/-! ### texts by codes -/
theorem mulOk_one (c : Nat) {n : Int} (h0 : 0 ≤ n) (h1 : n ≤ 1000) : MulOk (S [c]) n := by
  have hl : (S [c]).length = 1 := rfl
  refine ⟨?_, fun h2 h3 => ?_, fun h2 h3 => ?_⟩
  · have a1 : ¬ n < -(2 ^ 63 : Int) := by omega
    have a2 : ¬ n ≥ 2 ^ 63 := by omega
    rw [decide_eq_false a1, decide_eq_false a2]
    rfl
  · rw [hl]
    have : (1 : Int) ≤ (2 ^ 63 - 1) / n := by
      rw [Int.le_ediv_iff_mul_le (by omega)]
      omega
    omega
  · rw [hl]
    have : 1 * n.toNat ≤ 1000 := by omega
    unfold Builtin.Str.tooLong
    exact decide_eq_false (by
      have : sizeLine = 16777216 := sizeLine_eq
      first | omega | (simp; omega))
theorem mul_one (c : Nat) {n : Int} (h0 : 0 ≤ n) : Txt.mul (S [c]) n = S (List.replicate n.toNat c) := by
  unfold Txt.mul
  by_cases h1 : n < 1
  · have : n.toNat = 0 := by omega
    rw [if_pos h1, this]
    rfl
  · rw [if_neg h1]
    by_cases h2 : (n == 1 || (S [c]).length == 0) = true
    · rw [if_pos h2]
      have : n = 1 := by
        have hl : (S [c]).length = 1 := rfl
        rw [hl] at h2
        simpa using h2
      subst this
      rfl
    · rw [if_neg h2]
      refine TL.ext_tl ?_
      show ((List.replicate n.toNat #[c]).foldl (· ++ ·) #[]).toList = List.replicate n.toNat c
      have key : ∀ (k : Nat) (acc : Array Nat), ((List.replicate k #[c]).foldl (· ++ ·) acc).toList = acc.toList ++ List.replicate k c := by
        intro k
        induction k with
        | zero => intro acc; simp
        | succ k ih =>
          intro acc
          rw [List.replicate_succ, List.foldl_cons, ih]
          simp [List.replicate_succ]
      rw [key]
      simp
/-- the first place of a sign -/
theorem occ_at (l : List Nat) (c i : Nat) (h : l[i]? = some c) (hb : ∀ k, k < i → l[k]? ≠ some c) : ∃ r, Builtin.Str.occurrences (S l) (S [c]) 0 (S l).length 1 = i :: r := by
  have iff1 : ∀ k, StrLaws.At (S l) (S [c]) (S l).length k ↔ l[k]? = some c := fun k => StrLaws.subAt_one (S l) c k
  rcases StrLaws.occ_head (S l) (S [c]) 1 (Nat.le_refl 1) with ⟨_, hn⟩ | ⟨j, r, e, hj, hk⟩
  · exact absurd ((iff1 i).mpr h) (hn i)
  · have e1 : j = i := by
      rcases Nat.lt_trichotomy j i with q | q | q
      · exact absurd ((iff1 j).mp hj) (hb j q)
      · exact q
      · exact absurd ((iff1 i).mpr h) (hk i q)
    exact ⟨r, by rw [e, e1]⟩
theorem cnt_count (c : Nat) : ∀ l : List Nat, cnt c l = (l.count c : Nat)
  | [] => by rw [cnt_nil]; rfl
  | n :: r => by
    rw [cnt_cons, cnt_count c r, List.count_cons]
    by_cases h : n = c
    · subst h; simp; omega
    · simp [h]
theorem count_S (l : List Nat) (c : Nat) : Txt.count (S l) (S [c]) = (l.count c : Nat) := by
  rw [← cnt_count]
  exact PyProof.Rows.count_is (S l) c
theorem joinL_one : ∀ l : List Nat, TL.joinL [] (l.map fun c => [c]) = l
  | [] => rfl
  | [c] => rfl
  | c :: d :: r => by
    have ih := joinL_one (d :: r)
    show [c] ++ [] ++ TL.joinL [] ((d :: r).map fun c => [c]) = c :: d :: r
    rw [ih]
    rfl
theorem join_one (l : List Nat) : Txt.join (S []) (l.map fun c => S [c]) = S l := by
  have e : l.map (fun c => S [c]) = (l.map fun c => [c]).map S := by rw [List.map_map]; rfl
  rw [e, join_S, joinL_one]
theorem join_size (l : List Nat) (h : l.length ≤ 1000) : ((l.map fun c => S [c]).map (·.length)).sum ≤ 1000 := by
  have : ((l.map fun c => S [c]).map (·.length)).sum = l.length := by
    induction l with
    | nil => rfl
    | cons c r ih =>
      rw [List.map_cons, List.map_cons, List.sum_cons, ih (by simp at h; omega)]
      show 1 + r.length = r.length + 1
      omega
  omega
theorem cutS_S (l : List Nat) (lo hi : Option Int) : cutS (S l) lo hi = S ((l.drop (HT.sIx l.length 0 lo)).take (HT.sIx l.length l.length hi - HT.sIx l.length 0 lo)) := by
  unfold cutS
  rw [S_len]
/-- l[i:j] for places in the list or beyond -/
theorem cutS_nn (l : List Nat) (i j : Nat) : cutS (S l) (some (i : Int)) (some (j : Int)) = S ((l.drop i).take (j - i)) := by
  rw [cutS_S, HT.sIx_nat, HT.sIx_nat]
  congr 1
  by_cases h : i ≤ l.length
  · rw [Nat.min_eq_left h]
    by_cases h2 : j ≤ l.length
    · rw [Nat.min_eq_left h2]
    · rw [Nat.min_eq_right (by omega), List.take_of_length_le (by simp), List.take_of_length_le (by simp; omega)]
  · rw [List.drop_of_length_le (by omega), List.drop_of_length_le (by omega)]
    simp
theorem cutS_to (l : List Nat) (j : Nat) : cutS (S l) none (some (j : Int)) = S (l.take j) := by
  rw [cutS_S, HT.sIx_nat, HT.sIx_none]
  congr 1
  rw [List.drop_zero, Nat.sub_zero]
  by_cases h2 : j ≤ l.length
  · rw [Nat.min_eq_left h2]
  · rw [Nat.min_eq_right (by omega), List.take_of_length_le (by simp), List.take_of_length_le (by omega)]
theorem cutS_from (l : List Nat) (i : Nat) : cutS (S l) (some (i : Int)) none = S (l.drop i) := by
  rw [cutS_S, HT.sIx_nat, HT.sIx_none]
  congr 1
  by_cases h : i ≤ l.length
  · rw [Nat.min_eq_left h, List.take_of_length_le (by simp)]
  · rw [List.drop_of_length_le (by omega), List.drop_of_length_le (by omega)]
    simp
end PR

/-! Padleap in plain Lean: how many moves are left, by both readings; the mirror. -/
namespace PL
/-! ### sums up to a place -/
def upto (g : Nat → Int) : Nat → Int
  | 0 => 0
  | i + 1 => upto g i + g i
theorem upto_congr {g h : Nat → Int} : ∀ {n : Nat}, (∀ i, i < n → g i = h i) → upto g n = upto h n
  | 0, _ => rfl
  | n + 1, e => by
    show upto g n + g n = upto h n + h n
    rw [upto_congr fun i hi => e i (by omega), e n (by omega)]
theorem upto_sub (g h : Nat → Int) : ∀ n, upto g n - upto h n = upto (fun i => g i - h i) n
  | 0 => rfl
  | n + 1 => by
    have := upto_sub g h n
    show upto g n + g n - (upto h n + h n) = upto (fun i => g i - h i) n + (g n - h n)
    omega
theorem upto_add (g h : Nat → Int) : ∀ n, upto g n + upto h n = upto (fun i => g i + h i) n
  | 0 => rfl
  | n + 1 => by
    have := upto_add g h n
    show upto g n + g n + (upto h n + h n) = upto (fun i => g i + h i) n + (g n + h n)
    omega
/-! ### the program's sums -/
def stp (c : List Nat) (j : Nat) : Int :=
  if c[j]? = some 97 then (c.length : Int) - (c.count 97 : Nat) + ((c.take j).count 97 : Nat) - j else if c[j]? = some 98 then (j : Int) - ((c.take j).count 98 : Nat) else 0
def lps (c : List Nat) (j : Nat) : Int := if c[j]? = some 97 then ((c.drop j).count 98 : Nat) else 0
/-- what a sign adds, by what stands ahead of it and behind it -/
def part (P : List Nat) (x : Nat) (S : List Nat) : Int :=
  if x = 97 then (S.count 46 : Nat) else if x = 98 then ((P.count 97 : Nat) : Int) + (P.count 46 : Nat) else 0
def whole : List Nat → List Nat → Int
  | _, [] => 0
  | P, x :: S => part P x S + whole (P ++ [x]) S
def Sgs (c : List Nat) : Prop := ∀ x ∈ c, x = 97 ∨ x = 98 ∨ x = 46
theorem sgs_len {c : List Nat} (h : Sgs c) : c.length = c.count 97 + c.count 98 + c.count 46 := by
  induction c with
  | nil => rfl
  | cons x r ih =>
    have := ih fun y hy => h y (List.mem_cons_of_mem _ hy)
    rcases h x List.mem_cons_self with rfl | rfl | rfl <;> simp <;> omega
theorem part_is {P S : List Nat} {x : Nat} (h : Sgs (P ++ x :: S)) : stp (P ++ x :: S) P.length - lps (P ++ x :: S) P.length = part P x S := by
  have hP : Sgs P := fun y hy => h y (List.mem_append.mpr (.inl hy))
  have hS : Sgs S := fun y hy => h y (List.mem_append.mpr (.inr (List.mem_cons_of_mem _ hy)))
  have lP := sgs_len hP
  have lS := sgs_len hS
  have e1 : (P ++ x :: S)[P.length]? = some x := by simp
  have e2 : (P ++ x :: S).take P.length = P := by simp
  have e3 : (P ++ x :: S).drop P.length = x :: S := by simp
  unfold stp lps part
  rw [e1, e2, e3]
  rcases h x (by simp) with rfl | rfl | rfl
  · simp; omega
  · simp; omega
  · simp
theorem whole_is : ∀ (S P : List Nat), Sgs (P ++ S) → upto (fun j => stp (P ++ S) j - lps (P ++ S) j) (P.length + S.length) - upto (fun j => stp (P ++ S) j - lps (P ++ S) j) P.length = whole P S
  | [], P, _ => by simp [whole]
  | x :: S, P, h => by
    have e : P ++ x :: S = (P ++ [x]) ++ S := by simp
    have ih := whole_is S (P ++ [x]) (by rw [← e]; exact h)
    rw [← e] at ih
    have hl : (P ++ [x]).length = P.length + 1 := by simp
    rw [hl] at ih
    have hp := part_is h
    have e2 : P.length + (x :: S).length = P.length + 1 + S.length := by simp; omega
    show _ = part P x S + whole (P ++ [x]) S
    rw [e2, ← ih, ← hp]
    show _ = _ + (_ - (upto (fun j => stp (P ++ x :: S) j - lps (P ++ x :: S) j) P.length + (stp (P ++ x :: S) P.length - lps (P ++ x :: S) P.length)))
    omega
theorem sgs_map (l : List Bool) : Sgs (l.map sg) := fun x hx => by
  obtain ⟨b, _, e⟩ := List.mem_map.mp hx
  cases b <;> simp [sg] at e <;> omega
theorem sgs_cps (z : Zp) : Sgs (cps z) := fun x hx => by
  unfold cps at hx
  rcases List.mem_append.mp hx with h | h
  · exact sgs_map _ x h
  · rcases List.mem_cons.mp h with h | h
    · exact .inr (.inr h)
    · exact sgs_map _ x h
theorem cnt_sg_a (l : List Bool) : (l.map sg).count 97 = l.count true := by
  induction l with
  | nil => rfl
  | cons x r ih => cases x <;> simp [sg, ih]
theorem cnt_sg_b (l : List Bool) : (l.map sg).count 98 = l.count false := by
  induction l with
  | nil => rfl
  | cons x r ih => cases x <;> simp [sg, ih]
theorem cnt_sg_o (l : List Bool) : (l.map sg).count 46 = 0 := List.count_eq_zero_of_not_mem (map_sg_no l)
theorem whole_left : ∀ (A : List Bool) (P X : List Nat), P.count 46 = 0 → X.count 46 = 1 → whole P (A.map sg ++ X) = (A.count true : Nat) + (inv A : Nat) + ((P.count 97 * A.count false : Nat) : Int) + whole (P ++ A.map sg) X
  | [], P, X, _, _ => by simp [inv]
  | x :: A, P, X, hP, hX => by
    have ih := whole_left A (P ++ [sg x]) X (by cases x <;> simp [sg, hP]) hX
    show part P (sg x) (A.map sg ++ X) + whole (P ++ [sg x]) (A.map sg ++ X) = _
    rw [ih]
    have e : P ++ [sg x] ++ A.map sg = P ++ (x :: A).map sg := by simp
    rw [e]
    cases x with
    | true =>
      simp [part, sg, inv, List.count_append, hX, cnt_sg_o, Nat.add_mul]
      omega
    | false =>
      simp [part, sg, inv, List.count_append, hP, Nat.mul_add]
      omega
theorem whole_right : ∀ (B : List Bool) (P : List Nat), P.count 46 = 1 → whole P (B.map sg) = (inv B : Nat) + ((P.count 97 * B.count false : Nat) : Int) + (B.count false : Nat)
  | [], P, _ => by simp [whole, inv]
  | x :: B, P, hP => by
    have ih := whole_right B (P ++ [sg x]) (by cases x <;> simp [sg, hP])
    show part P (sg x) (B.map sg) + whole (P ++ [sg x]) (B.map sg) = _
    rw [ih]
    cases x with
    | true =>
      simp [part, sg, inv, List.count_append, cnt_sg_o, Nat.add_mul]
      omega
    | false =>
      simp [part, sg, inv, List.count_append, hP, Nat.mul_add]
      omega
/-- THE PROGRAM'S COUNT: as many as are left -/
theorem left_prog (z : Zp) : upto (stp (cps z)) (pads z) - upto (lps (cps z)) (pads z) = (mleft z : Nat) := by
  rw [upto_sub]
  have h := whole_is (cps z) [] (by simpa using sgs_cps z)
  simp only [List.nil_append, List.length_nil, Nat.zero_add, upto, Int.sub_zero] at h
  rw [cps_len] at h
  rw [h]
  have e1 : cps z = (z.1.reverse).map sg ++ 46 :: z.2.map sg := rfl
  rw [e1, whole_left _ _ _ rfl (by simp [cnt_sg_o])]
  show _ + (part ([] ++ (z.1.reverse).map sg) 46 (z.2.map sg) + whole ([] ++ (z.1.reverse).map sg ++ [46]) (z.2.map sg)) = _
  rw [whole_right _ _ (by simp [List.count_append, cnt_sg_o])]
  simp only [List.nil_append, List.count_append, cnt_sg_a, List.count_reverse]
  simp [part, mleft, inv_append]
  omega

/-! ### the law's count: places -/
def posn (c : List Nat) (k : Nat) : List Nat := (List.range c.length).filter fun i => decide (c[i]? = some k)
theorem sum_filter (p : Nat → Bool) : ∀ n, ((((List.range n).filter p).map fun n : Nat => (n : Int)).sum) = upto (fun j => if p j = true then (j : Int) else 0) n
  | 0 => rfl
  | n + 1 => by
    have := sum_filter p n
    rw [List.range_succ, List.filter_append, List.map_append, List.sum_append, this]
    show _ = _ + _
    congr 1
    by_cases h : p n = true <;> simp [h]
/-- the k-th one counts k -/
theorem upto_rank (c : List Nat) (k : Nat) (b : Int) : ∀ n, n ≤ c.length → upto (fun j => if c[j]? = some k then b + ((c.take j).count k : Nat) else 0) n = upto (fun j => b + (j : Nat)) ((c.take n).count k)
  | 0, _ => by simp [upto]
  | n + 1, h => by
    have ih := upto_rank c k b n (by omega)
    have hn : n < c.length := by omega
    have et : c.take (n + 1) = c.take n ++ [c[n]] := by rw [List.take_succ, List.getElem?_eq_getElem hn]; rfl
    show upto _ n + (if c[n]? = some k then b + ((c.take n).count k : Nat) else 0) = _
    rw [ih, et, List.count_append]
    by_cases e : c[n] = k
    · have e2 : c[n]? = some k := by rw [List.getElem?_eq_getElem hn, e]
      rw [if_pos e2, e]
      simp [upto]
    · have e2 : ¬ c[n]? = some k := by rw [List.getElem?_eq_getElem hn]; exact fun z => e (Option.some.inj z)
      rw [if_neg e2]
      simp [e, List.count_cons]
theorem upto_rank_all (c : List Nat) (k : Nat) (b : Int) : upto (fun j => if c[j]? = some k then b + ((c.take j).count k : Nat) else 0) c.length = upto (fun j => b + (j : Nat)) (c.count k) := by
  rw [upto_rank c k b c.length (Nat.le_refl _), List.take_length]
/-- a list whose places of k are b, b + 1, .. -/
theorem posn_block (c : List Nat) (k : Nat) (b : Int) (h : ∀ j : Nat, c[j]? = some k → (j : Int) = b + ((c.take j).count k : Nat)) : ((posn c k).map fun n : Nat => (n : Int)).sum = upto (fun j => b + (j : Nat)) (c.count k) := by
  unfold posn
  rw [sum_filter, ← upto_rank_all]
  refine upto_congr fun j _ => ?_
  by_cases e : c[j]? = some k
  · rw [if_pos (decide_eq_true e), if_pos e]
    exact h j e
  · rw [if_neg (by simpa using e), if_neg e]
theorem goal_codes (z : Zp) : cps (goal z) = List.replicate (nb z) 98 ++ 46 :: List.replicate (na z) 97 := by
  simp [cps, goal, sg]
theorem cps_na (z : Zp) : (cps z).count 97 = na z := by
  unfold cps na
  rw [List.count_append, cnt_sg_a, List.count_reverse, List.count_cons, cnt_sg_a]
  simp
theorem cps_nb (z : Zp) : (cps z).count 98 = nb z := by
  unfold cps nb
  rw [List.count_append, cnt_sg_b, List.count_reverse, List.count_cons, cnt_sg_b]
  simp
theorem na_goal (z : Zp) : na (goal z) = na z := by simp [na, goal, List.count_replicate]
theorem nb_goal (z : Zp) : nb (goal z) = nb z := by simp [nb, goal, List.count_replicate]
theorem ends_a (z : Zp) : ((posn (cps (goal z)) 97).map fun n : Nat => (n : Int)).sum = upto (fun j => ((nb z : Nat) : Int) + 1 + (j : Nat)) (na z) := by
  rw [posn_block (cps (goal z)) 97 ((nb z : Nat) + 1), cps_na, na_goal]
  intro j hj
  rw [goal_codes] at hj ⊢
  rcases Nat.lt_trichotomy j (nb z) with h | h | h
  · rw [List.getElem?_append_left (by simp; omega), List.getElem?_replicate_of_lt h] at hj
    cases hj
  · subst h
    simp at hj
  · have e : (List.replicate (nb z) 98 ++ 46 :: List.replicate (na z) 97).take j = List.replicate (nb z) 98 ++ 46 :: List.replicate (min (j - nb z - 1) (na z)) 97 := by
      rw [List.take_append, List.take_of_length_le (by simp; omega)]
      congr 1
      obtain ⟨m, hm⟩ : ∃ m, j - (List.replicate (nb z) 98).length = m + 1 := ⟨j - nb z - 1, by simp; omega⟩
      rw [hm, List.take_succ_cons, List.take_replicate]
      congr 2
      simp at hm
      omega
    have hlt : j < (List.replicate (nb z) 98 ++ 46 :: List.replicate (na z) 97).length := (List.getElem?_eq_some_iff.mp hj).1
    simp at hlt
    rw [e]
    simp [List.count_append, List.count_cons, List.count_replicate]
    omega
theorem ends_b (z : Zp) : ((posn (cps (goal z)) 98).map fun n : Nat => (n : Int)).sum = upto (fun j => (0 : Int) + (j : Nat)) (nb z) := by
  rw [posn_block (cps (goal z)) 98 0, cps_nb, nb_goal]
  intro j hj
  rw [goal_codes] at hj ⊢
  rcases Nat.lt_trichotomy j (nb z) with h | h | h
  · rw [List.take_append_of_le_length (by simp; omega), List.take_replicate]
    simp [List.count_replicate]
    omega
  · subst h
    simp at hj
  · rw [List.getElem?_append_right (by simp; omega)] at hj
    obtain ⟨m, hm⟩ : ∃ m, j - (List.replicate (nb z) 98).length = m + 1 := ⟨j - nb z - 1, by simp; omega⟩
    rw [hm, List.getElem?_cons_succ] at hj
    have := List.mem_of_getElem? hj
    simp at this
/-- the pads that all go by -/
theorem steps_law (z : Zp) : ((posn (cps (goal z)) 97).map fun n : Nat => (n : Int)).sum - ((posn (cps z) 97).map fun n : Nat => (n : Int)).sum + ((posn (cps z) 98).map fun n : Nat => (n : Int)).sum - ((posn (cps (goal z)) 98).map fun n : Nat => (n : Int)).sum = upto (stp (cps z)) (pads z) := by
  have hl := cps_len z
  have hn := na_nb z
  rw [ends_a, ends_b, ← cps_na, ← upto_rank_all, ← cps_nb, ← upto_rank_all]
  unfold posn
  rw [sum_filter, sum_filter, upto_sub, upto_add, upto_sub, hl]
  refine upto_congr fun j hj => ?_
  unfold stp
  simp only [decide_eq_true_eq]
  rw [hl, cps_na, cps_nb]
  by_cases h1 : (cps z)[j]? = some 97
  · have h2 : ¬ (cps z)[j]? = some 98 := by rw [h1]; decide
    simp only [if_pos h1, if_neg h2]
    omega
  · by_cases h2 : (cps z)[j]? = some 98
    · simp only [if_neg h1, if_pos h2]
      omega
    · simp only [if_neg h1, if_neg h2]
      omega
/-- how many b's stand behind a place -/
theorem behind_count (c : List Nat) (k j : Nat) : ((posn c k).filter fun i => decide (j < i)).length = (c.drop (j + 1)).count k := by
  unfold posn
  rw [List.filter_filter]
  have key : ∀ n, n ≤ c.length → ((List.range n).filter fun i => decide (j < i) && decide (c[i]? = some k)).length = ((c.take n).drop (j + 1)).count k := by
    intro n
    induction n with
    | zero => intro _; simp
    | succ n ih =>
      intro hn
      have hlt : n < c.length := by omega
      have et : c.take (n + 1) = c.take n ++ [c[n]] := by rw [List.take_succ, List.getElem?_eq_getElem hlt]; rfl
      rw [List.range_succ, List.filter_append, List.length_append, ih (by omega), et, List.drop_append]
      rw [List.count_append]
      congr 1
      have hl : (c.take n).length = n := by simp; omega
      have hq := List.getElem?_eq_getElem hlt
      rw [hl]
      by_cases h1 : j < n
      · have e0 : j + 1 - n = 0 := by omega
        rw [e0, List.drop_zero]
        by_cases h2 : c[n] = k <;> simp [h1, h2, hq, List.count_cons]
      · have e1 : ([c[n]] : List Nat).drop (j + 1 - n) = [] := List.drop_of_length_le (by simp; omega)
        rw [e1]
        simp [h1]
  have := key c.length (Nat.le_refl _)
  rw [List.take_length] at this
  rw [← this]
theorem leaps_law (c : List Nat) : ((posn c 97).map fun j => (((posn c 98).filter fun i => decide (j < i)).length : Int)).sum = upto (lps c) c.length := by
  have key : ∀ n, (((List.range n).filter fun i => decide (c[i]? = some 97)).map fun j => (((posn c 98).filter fun i => decide (j < i)).length : Int)).sum = upto (lps c) n := by
    intro n
    induction n with
    | zero => rfl
    | succ n ih =>
      rw [List.range_succ, List.filter_append, List.map_append, List.sum_append, ih]
      show _ = upto (lps c) n + lps c n
      congr 1
      unfold lps
      by_cases h : c[n]? = some 97
      · rw [if_pos h]
        have hlt : n < c.length := (List.getElem?_eq_some_iff.mp h).1
        have e : c.drop n = 97 :: c.drop (n + 1) := by
          rw [List.drop_eq_getElem_cons hlt]
          congr 1
          exact (List.getElem?_eq_some_iff.mp h).2
        simp [h, behind_count, e]
      · rw [if_neg h]
        simp [h]
  exact key c.length
/-- THE LAW'S COUNT -/
theorem left_law (z : Zp) : ((posn (cps (goal z)) 97).map fun n : Nat => (n : Int)).sum - ((posn (cps z) 97).map fun n : Nat => (n : Int)).sum + ((posn (cps z) 98).map fun n : Nat => (n : Int)).sum - ((posn (cps (goal z)) 98).map fun n : Nat => (n : Int)).sum
    - ((posn (cps z) 97).map fun j => (((posn (cps z) 98).filter fun i => decide (j < i)).length : Int)).sum = (mleft z : Nat) := by
  rw [steps_law, leaps_law, cps_len, left_prog]

/-! ### the mirror -/
def mirror (z : Zp) : Zp := (z.2.map not, z.1.map not)
theorem mirror_mirror (z : Zp) : mirror (mirror z) = z := by
  obtain ⟨L, R⟩ := z
  have h : ∀ l : List Bool, (l.map not).map not = l := by
    intro l
    induction l with
    | nil => rfl
    | cons x r ih => cases x <;> simpa using ih
  unfold mirror
  rw [h, h]
theorem mirror_pads (z : Zp) : pads (mirror z) = pads z := by simp [mirror, pads]; omega
/-- the kinds exchanged -/
def sw (c : Nat) : Nat := if c = 97 then 98 else if c = 98 then 97 else c
theorem sw_sg (x : Bool) : sw (sg x) = sg (not x) := by cases x <;> rfl
theorem cps_mirror (z : Zp) : cps (mirror z) = (cps z).reverse.map sw := by
  obtain ⟨L, R⟩ := z
  have h : ∀ l : List Bool, (l.map sg).map sw = (l.map not).map sg := by
    intro l
    rw [List.map_map, List.map_map]
    exact List.map_congr_left fun x _ => sw_sg x
  unfold cps mirror
  simp only [List.reverse_append, List.reverse_cons, List.map_append, List.map_cons, List.map_nil, List.append_assoc, List.cons_append, List.nil_append]
  have e1 : List.map sg (List.map not R).reverse = List.map sw (List.map sg R).reverse := by
    rw [← List.map_reverse, ← List.map_reverse, h]
  have e2 : List.map sg (List.map not L) = List.map sw (List.map sg L.reverse).reverse := by
    rw [← h, List.map_reverse]
    simp
  rw [e1, e2]
  rfl
theorem cnt_not_t (l : List Bool) : (l.map not).count true = l.count false := by
  induction l with
  | nil => rfl
  | cons x r ih => cases x <;> simp [ih]
theorem cnt_not_f (l : List Bool) : (l.map not).count false = l.count true := by
  induction l with
  | nil => rfl
  | cons x r ih => cases x <;> simp [ih]
theorem inv_mirror : ∀ l : List Bool, inv ((l.reverse).map not) = inv l
  | [] => rfl
  | x :: r => by
    have ih := inv_mirror r
    rw [List.reverse_cons, List.map_append, inv_append, ih]
    have e : ((r.reverse).map not).count true = r.count false := by rw [cnt_not_t, List.count_reverse]
    rw [e]
    cases x <;> simp [inv]
    omega
theorem mirror_mleft (z : Zp) : mleft (mirror z) = mleft z := by
  obtain ⟨L, R⟩ := z
  have e : (R.map not).reverse ++ L.map not = ((L.reverse ++ R).reverse).map not := by simp
  unfold mleft mirror
  simp only
  rw [e, inv_mirror, cnt_not_t, cnt_not_f]
  omega
theorem mirror_na (z : Zp) : na (mirror z) = nb z := by simp [na, nb, mirror, cnt_not_t]; omega
theorem mirror_nb (z : Zp) : nb (mirror z) = na z := by simp [na, nb, mirror, cnt_not_f]; omega
theorem mirror_goal (z : Zp) : goal (mirror z) = mirror (goal z) := by
  unfold goal
  rw [mirror_na, mirror_nb]
  simp [mirror]
theorem mirror_next {z y : Zp} {p : Nat} (h : (p, y) ∈ next z) : (pads z - 1 - p, mirror y) ∈ next (mirror z) := by
  rcases next_cases h with ⟨L, R, rfl, rfl, rfl⟩ | ⟨L, R, rfl, rfl, rfl⟩ | ⟨L, R, rfl, rfl, rfl⟩ | ⟨L, R, rfl, rfl, rfl⟩
  · refine List.mem_append.mpr (.inr ?_)
    simp [mirror, nextR, pads]; omega
  · refine List.mem_append.mpr (.inr ?_)
    simp [mirror, nextR, pads]; omega
  · refine List.mem_append.mpr (.inl ?_)
    simp [mirror, nextL, pads]; omega
  · refine List.mem_append.mpr (.inl ?_)
    simp [mirror, nextL, pads]; omega
/-! ### beginnings -/
theorem mleft_begin (m n : Nat) : mleft (List.replicate m true, List.replicate n false) = m * n + m + n := by
  have h1 : ∀ m, inv (List.replicate m true) = 0 := by
    intro m
    induction m with
    | zero => rfl
    | succ n ih => simp [List.replicate_succ, inv, ih, List.count_replicate]
  have h2 : ∀ n, inv (List.replicate n false) = 0 := by
    intro n
    induction n with
    | zero => rfl
    | succ n ih => simp [List.replicate_succ, inv, ih]
  simp [mleft, inv_append, h1, h2, List.count_replicate]
end PL

/-! Padleap in plain Lean: all ways by number; the mirror has as many; how many standings there are. -/
namespace PL
/-! ### each way has as many moves as are left -/
theorem wl_len : ∀ (k : Nat) (z : Zp), mleft z ≤ k → ∀ w ∈ wl z, w.length = mleft z
  | k, z, hk, w, hw => by
    rw [wl_eq] at hw
    rcases List.mem_append.mp hw with h | h
    · by_cases hg : z = goal z
      · rw [if_pos hg] at h
        rw [List.mem_singleton.mp h, hg, mleft_goal]
        rfl
      · rw [if_neg hg] at h
        cases h
    · obtain ⟨q, hq, h⟩ := List.mem_flatMap.mp h
      obtain ⟨w', hw', rfl⟩ := List.mem_map.mp h
      have hm := next_mleft (z := z) (p := q.1) (y := q.2) hq
      match k, hk with
      | 0, hk => omega
      | k + 1, hk =>
        have := wl_len k q.2 (by omega) w' hw'
        rw [List.length_cons, this, hm]
/-! ### the way of a number -/
/-- how many ways the first i moves have -/
def pref (l : List (Nat × Zp)) (i : Nat) : Nat := ((l.take i).map fun q => ways q.2).sum
theorem pref_succ {l : List (Nat × Zp)} {i : Nat} {q : Nat × Zp} (h : l[i]? = some q) : pref l (i + 1) = pref l i + ways q.2 := by
  unfold pref
  rw [List.take_succ, h]
  simp
theorem pref_all (z : Zp) (h : z ≠ goal z) : pref (next z) (next z).length = ways z := by
  unfold pref
  rw [ways_eq, if_neg h, List.take_length, Nat.zero_add]
theorem way_at {z : Zp} (hz : z ≠ goal z) {i : Nat} {q : Nat × Zp} (h : (next z)[i]? = some q) {n : Nat} (h1 : pref (next z) i ≤ n) (h2 : n - pref (next z) i < ways q.2) :
    ∃ w, (wl q.2)[n - pref (next z) i]? = some w ∧ (wl z)[n]? = some (q.1 :: w) := by
  have hlt : n - pref (next z) i < (wl q.2).length := h2
  obtain ⟨w, hw⟩ : ∃ w, (wl q.2)[n - pref (next z) i]? = some w := ⟨_, List.getElem?_eq_getElem hlt⟩
  refine ⟨w, hw, ?_⟩
  rw [wl_eq, if_neg hz, List.nil_append]
  have hi : i < (next z).length := (List.getElem?_eq_some_iff.mp h).1
  have eq1 : next z = (next z).take i ++ q :: (next z).drop (i + 1) := by
    conv => lhs; rw [← List.take_append_drop i (next z)]
    congr 1
    rw [List.drop_eq_getElem_cons hi]
    congr 1
    exact (List.getElem?_eq_some_iff.mp h).2
  have el : (((next z).take i).flatMap fun q => (wl q.2).map (q.1 :: ·)).length = pref (next z) i := by
    rw [List.length_flatMap]
    unfold pref
    congr 1
    exact List.map_congr_left fun q _ => by rw [List.length_map]; rfl
  have ef : (next z).flatMap (fun q => (wl q.2).map (q.1 :: ·)) = (((next z).take i).flatMap fun q => (wl q.2).map (q.1 :: ·)) ++ ((wl q.2).map (q.1 :: ·) ++ (((next z).drop (i + 1)).flatMap fun q => (wl q.2).map (q.1 :: ·))) := by
    conv => lhs; rw [eq1]
    rw [List.flatMap_append, List.flatMap_cons]
  rw [ef, List.getElem?_append_right (by omega), el, List.getElem?_append_left (by rw [List.length_map]; exact hlt), List.getElem?_map, hw]
  rfl
theorem ways_lt {z : Zp} {n : Nat} (h : n < ways z) : ∃ w, (wl z)[n]? = some w := ⟨_, List.getElem?_eq_getElem h⟩
/-! ### mirrored as many -/
theorem nextL_mirror (z : Zp) : nextL (mirror z) = (nextR z).map fun q => (pads z - 1 - q.1, mirror q.2) := by
  obtain ⟨L, R⟩ := z
  match R with
  | [] => simp [mirror, nextL, nextR]
  | [true] => simp [mirror, nextL, nextR]
  | [false] => simp [mirror, nextL, nextR, pads]
  | true :: true :: R => simp [mirror, nextL, nextR]
  | true :: false :: R => simp [mirror, nextL, nextR, pads]; omega
  | false :: x :: R => simp [mirror, nextL, nextR, pads]; omega
theorem nextR_mirror (z : Zp) : nextR (mirror z) = (nextL z).map fun q => (pads z - 1 - q.1, mirror q.2) := by
  obtain ⟨L, R⟩ := z
  match L with
  | [] => cases R <;> simp [mirror, nextL, nextR]
  | [true] => cases R <;> (simp [mirror, nextL, nextR, pads]; try omega)
  | [false] => cases R <;> simp [mirror, nextL, nextR]
  | true :: x :: L => cases R <;> (simp [mirror, nextL, nextR, pads]; try omega)
  | false :: true :: L => cases R <;> (simp [mirror, nextL, nextR, pads]; try omega)
  | false :: false :: L => cases R <;> simp [mirror, nextL, nextR]
theorem mirror_is_goal (z : Zp) : mirror z = goal (mirror z) ↔ z = goal z := by
  rw [mirror_goal]
  constructor
  · intro h
    have := congrArg mirror h
    rwa [mirror_mirror, mirror_mirror] at this
  · intro h
    exact congrArg mirror h
theorem mirror_ways : ∀ (k : Nat) (z : Zp), mleft z ≤ k → ways (mirror z) = ways z
  | k, z, hk => by
    have ih : ∀ l : List (Nat × Zp), (∀ q ∈ l, q ∈ next z) → (l.map fun q => ways (mirror q.2)).sum = (l.map fun q => ways q.2).sum := by
      intro l
      induction l with
      | nil => intro _; rfl
      | cons q r ih =>
        intro h
        rw [List.map_cons, List.map_cons, List.sum_cons, List.sum_cons, ih fun x hx => h x (List.mem_cons_of_mem _ hx)]
        have hm := next_mleft (z := z) (p := q.1) (y := q.2) (h q List.mem_cons_self)
        match k, hk with
        | 0, hk => omega
        | k + 1, hk => rw [mirror_ways k q.2 (by omega)]
    rw [ways_eq, ways_eq z]
    congr 1
    · by_cases h : z = goal z
      · rw [if_pos h, if_pos ((mirror_is_goal z).mpr h)]
      · rw [if_neg h, if_neg fun e => h ((mirror_is_goal z).mp e)]
    · unfold next
      rw [nextL_mirror, nextR_mirror, List.map_append, List.map_map, List.map_map, List.sum_append, List.map_append, List.sum_append]
      have e1 := ih (nextR z) fun q hq => List.mem_append.mpr (.inr hq)
      have e2 := ih (nextL z) fun q hq => List.mem_append.mpr (.inl hq)
      show ((nextR z).map fun q => ways (mirror q.2)).sum + ((nextL z).map fun q => ways (mirror q.2)).sum = _
      rw [e1, e2]
      omega
/-! ### how many standings of at most nine pads -/
def bools : Nat → List (List Bool)
  | 0 => [[]]
  | n + 1 => (bools n).flatMap fun l => [true :: l, false :: l]
theorem mem_bools : ∀ l : List Bool, l ∈ bools l.length
  | [] => List.mem_singleton.mpr rfl
  | x :: l => by
    refine List.mem_flatMap.mpr ⟨l, mem_bools l, ?_⟩
    cases x <;> simp
def allZ : List Zp := (List.range 9).flatMap fun n => (List.range 9).flatMap fun m => if n + m < 9 then (bools n).flatMap fun L => (bools m).map fun R => (L, R) else []
theorem mem_allZ {z : Zp} (h : pads z ≤ 9) : z ∈ allZ := by
  obtain ⟨L, R⟩ := z
  have hp : L.length + R.length + 1 ≤ 9 := h
  refine List.mem_flatMap.mpr ⟨L.length, List.mem_range.mpr (by omega), List.mem_flatMap.mpr ⟨R.length, List.mem_range.mpr (by omega), ?_⟩⟩
  rw [if_pos (by omega)]
  exact List.mem_flatMap.mpr ⟨L, mem_bools L, List.mem_map.mpr ⟨R, mem_bools R, rfl⟩⟩
theorem allZ_len : allZ.length = 4097 := by decide +kernel
theorem nodup_le {α : Type} [DecidableEq α] : ∀ {l m : List α}, l.Nodup → (∀ x ∈ l, x ∈ m) → l.length ≤ m.length
  | [], m, _, _ => Nat.zero_le _
  | x :: l, m, hn, hs => by
    obtain ⟨h1, h2⟩ := List.nodup_cons.mp hn
    have hx := hs x List.mem_cons_self
    have := nodup_le (l := l) (m := m.erase x) h2 fun y hy => by
      have hne : y ≠ x := fun e => h1 (e ▸ hy)
      exact (List.mem_erase_of_ne hne).mpr (hs y (List.mem_cons_of_mem _ hy))
    rw [List.length_erase_of_mem hx] at this
    have hp : 0 < m.length := List.length_pos_of_mem hx
    rw [List.length_cons]
    omega
end PL

/-! Padleap in plain Lean: given moves one behind the other. -/
namespace PL
/-- the move of a pad that is handed in, any whole number -/
def stepI (z : Zp) (n : Int) : Option Zp := ((next z).find? fun q => decide ((q.1 : Int) = n)).map (·.2)
def runI : Zp → List Int → Option Zp
  | z, [] => some z
  | z, n :: r => match stepI z n with
    | none => none
    | some y => runI y r
def leadsB (z : Zp) (ns : List Int) : Bool := match runI z ns with
  | none => false
  | some y => decide (y = goal z)
theorem runI_append : ∀ (a b : List Int) (z : Zp), runI z (a ++ b) = (runI z a).bind fun y => runI y b
  | [], b, z => rfl
  | n :: r, b, z => by
    show (match stepI z n with | none => none | some y => runI y (r ++ b)) = (match stepI z n with | none => none | some y => runI y r).bind fun y => runI y b
    cases stepI z n with
    | none => rfl
    | some y => exact runI_append r b y
theorem stepI_mem {z y : Zp} {n : Int} (h : stepI z n = some y) : ∃ p : Nat, n = (p : Int) ∧ (p, y) ∈ next z := by
  unfold stepI at h
  cases e : (next z).find? fun q => decide ((q.1 : Int) = n) with
  | none => rw [e] at h; cases h
  | some q =>
    rw [e] at h
    have hy : q.2 = y := Option.some.inj h
    have hn : (q.1 : Int) = n := by
      have := List.find?_some e
      simpa using this
    exact ⟨q.1, hn.symm, hy ▸ List.mem_of_find?_eq_some e⟩
theorem next_uniq {z y y' : Zp} {p : Nat} (h : (p, y) ∈ next z) (h' : (p, y') ∈ next z) : y = y' := by
  have hr := movers_rise z
  unfold movers at hr
  have key : ∀ l : List (Nat × Zp), (l.map (·.1)).Pairwise (· < ·) → (p, y) ∈ l → (p, y') ∈ l → y = y' := by
    intro l
    induction l with
    | nil => intro _ h _; cases h
    | cons q r ih =>
      intro hp h1 h2
      rw [List.map_cons] at hp
      obtain ⟨hp1, hp2⟩ := List.pairwise_cons.mp hp
      rcases List.mem_cons.mp h1 with e1 | e1
      · rcases List.mem_cons.mp h2 with e2 | e2
        · exact (Prod.mk.inj (e1.trans e2.symm)).2
        · have := hp1 p (List.mem_map.mpr ⟨_, e2, rfl⟩)
          rw [← e1] at this
          exact absurd this (Nat.lt_irrefl _)
      · rcases List.mem_cons.mp h2 with e2 | e2
        · have := hp1 p (List.mem_map.mpr ⟨_, e1, rfl⟩)
          rw [← e2] at this
          exact absurd this (Nat.lt_irrefl _)
        · exact ih hp2 e1 e2
  exact key _ hr h h'
theorem stepI_isSome (z : Zp) (n : Int) : (stepI z n).isSome = (movers z).any fun p => ((p : Int) == n) := by
  unfold stepI movers
  rw [List.any_map]
  generalize next z = l
  induction l with
  | nil => rfl
  | cons q r ih =>
    rw [List.find?_cons, List.any_cons]
    by_cases h : (q.1 : Int) = n
    · simp [h]
    · simp only [decide_eq_false h]
      rw [ih]
      simp [h]
theorem stepI_of {z y : Zp} {p : Nat} (h : (p, y) ∈ next z) : stepI z (p : Int) = some y := by
  cases e : stepI z (p : Int) with
  | none =>
    have h1 := stepI_isSome z (p : Int)
    have h2 : ((movers z).any fun x => ((x : Int) == (p : Int))) = true := List.any_eq_true.mpr ⟨p, List.mem_map.mpr ⟨(p, y), h, rfl⟩, by simp⟩
    rw [e, h2] at h1
    cases h1
  | some y' =>
    obtain ⟨p', e', h'⟩ := stepI_mem e
    have : p = p' := by omega
    subst this
    rw [next_uniq h h']
theorem runI_same : ∀ (ns : List Int) {z y : Zp}, runI z ns = some y → goal y = goal z ∧ pads y = pads z
  | [], z, y, h => by cases h; exact ⟨rfl, rfl⟩
  | n :: r, z, y, h => by
    cases e : stepI z n with
    | none => rw [runI, e] at h; cases h
    | some x =>
      rw [runI, e] at h
      obtain ⟨h1, h2⟩ := runI_same r h
      obtain ⟨p, _, hm⟩ := stepI_mem e
      exact ⟨h1.trans (next_goal hm), h2.trans (next_pads hm)⟩
/-- turn by turn -/
theorem runI_turn {z y : Zp} {ns : List Int} {i : Nat} {n : Int} (h : runI z (ns.take i) = some y) (hn : ns[i]? = some n) : runI z (ns.take (i + 1)) = stepI y n := by
  rw [List.take_succ, hn, runI_append, h]
  show runI y [n] = stepI y n
  show (match stepI y n with | none => none | some y => some y) = _
  cases stepI y n <;> rfl
theorem runI_stop {z y : Zp} {ns : List Int} {i : Nat} {n : Int} (h : runI z (ns.take i) = some y) (hn : ns[i]? = some n) (hs : stepI y n = none) : runI z ns = none := by
  have e : ns = ns.take (i + 1) ++ ns.drop (i + 1) := (List.take_append_drop _ _).symm
  rw [e, runI_append, runI_turn h hn, hs]
  rfl
theorem leadsB_stop {z y : Zp} {ns : List Int} {i : Nat} {n : Int} (h : runI z (ns.take i) = some y) (hn : ns[i]? = some n) (hs : stepI y n = none) : leadsB z ns = false := by
  unfold leadsB
  rw [runI_stop h hn hs]
theorem leadsB_end {z y : Zp} {ns : List Int} (h : runI z ns = some y) : leadsB z ns = decide (y = goal z) := by
  unfold leadsB
  rw [h]
theorem run_way : ∀ (k : Nat) (z : Zp), mleft z ≤ k → ∀ w ∈ wl z, runI z (w.map fun n : Nat => (n : Int)) = some (goal z)
  | k, z, hk, w, hw => by
    rw [wl_eq] at hw
    rcases List.mem_append.mp hw with h | h
    · by_cases hg : z = goal z
      · rw [if_pos hg] at h
        rw [List.mem_singleton.mp h]
        exact congrArg some hg
      · rw [if_neg hg] at h
        cases h
    · obtain ⟨q, hq, h⟩ := List.mem_flatMap.mp h
      obtain ⟨w', hw', rfl⟩ := List.mem_map.mp h
      have hm := next_mleft (z := z) (p := q.1) (y := q.2) hq
      match k, hk with
      | 0, hk => omega
      | k + 1, hk =>
        have ih := run_way k q.2 (by omega) w' hw'
        rw [List.map_cons, runI, stepI_of (p := q.1) (y := q.2) hq, ← next_goal (z := z) (p := q.1) (y := q.2) hq]
        exact ih
theorem leads_way {z : Zp} {w : List Nat} (h : w ∈ wl z) : leadsB z (w.map fun n : Nat => (n : Int)) = true := by
  rw [leadsB_end (run_way _ z (Nat.le_refl _) w h)]
  exact decide_eq_true rfl
theorem step_goal (z : Zp) (n : Int) : stepI (goal z) n = none := by
  unfold stepI
  rw [goal_next]
  rfl
theorem leads_more {z : Zp} {w : List Nat} (h : w ∈ wl z) (n : Int) : leadsB z ((w.map fun n : Nat => (n : Int)) ++ [n]) = false := by
  unfold leadsB
  rw [runI_append, run_way _ z (Nat.le_refl _) w h]
  show (match (match stepI (goal z) n with | none => none | some y => some y) with | none => false | some y => decide (y = goal z)) = false
  rw [step_goal]
/-- a standing read from the other end -/
def back (z : Zp) : Zp := (z.2, z.1)
theorem cps_back (z : Zp) : cps (back z) = (cps z).reverse := by simp [cps, back]
theorem back_pads (z : Zp) : pads (back z) = pads z := by simp [back, pads]; omega
end PL

/-! Padleap in plain Lean: the standings that are come by, the stuck ones among them. -/
namespace PL
inductive Rc (z : Zp) : Zp → Prop
  | refl : Rc z z
  | step {y x : Zp} {p : Nat} (h : Rc z y) (m : (p, x) ∈ next y) : Rc z x
theorem Rc.trans {z y x : Zp} (h1 : Rc z y) (h2 : Rc y x) : Rc z x := by
  induction h2 with
  | refl => exact h1
  | step _ m ih => exact ih.step m
theorem Rc.pads {z y : Zp} (h : Rc z y) : PL.pads y = PL.pads z := by
  induction h with
  | refl => rfl
  | step _ m ih => rw [next_pads m, ih]
theorem Rc.mleft {z y : Zp} (h : Rc z y) : PL.mleft y ≤ PL.mleft z := by
  induction h with
  | refl => exact Nat.le_refl _
  | step _ m ih =>
    have := next_mleft m
    omega
theorem Rc.goal {z y : Zp} (h : Rc z y) : PL.goal y = PL.goal z := by
  induction h with
  | refl => rfl
  | step _ m ih => rw [next_goal m, ih]
/-- all that is come by, each once -/
structure IsRch (z : Zp) (ys : List Zp) : Prop where
  nd : ys.Nodup
  mem : ∀ y, y ∈ ys ↔ Rc z y
theorem IsRch.len {z : Zp} {ys zs : List Zp} (a : IsRch z ys) (b : IsRch z zs) : ys.length = zs.length :=
  Nat.le_antisymm (nodup_le a.nd fun y hy => (b.mem y).mpr ((a.mem y).mp hy)) (nodup_le b.nd fun y hy => (a.mem y).mpr ((b.mem y).mp hy))
/-- a list that is closed under moves -/
theorem IsRch.of {z : Zp} {ys : List Zp} (nd : ys.Nodup) (hz : z ∈ ys) (hr : ∀ y ∈ ys, Rc z y) (hc : ∀ y ∈ ys, ∀ q ∈ next y, q.2 ∈ ys) : IsRch z ys := by
  refine ⟨nd, fun y => ⟨hr y, fun h => ?_⟩⟩
  induction h with
  | refl => exact hz
  | step h m ih => exact hc _ ih _ m
theorem IsRch.le {z : Zp} {ys : List Zp} (a : IsRch z ys) (h : pads z ≤ 9) : ys.length ≤ 4097 := by
  have := nodup_le (m := allZ) a.nd fun y hy => mem_allZ (by rw [((a.mem y).mp hy).pads]; exact h)
  rw [allZ_len] at this
  exact this
/-- from one behind fewer -/
theorem IsRch.lt {z y : Zp} {p : Nat} {zs ys : List Zp} (a : IsRch z zs) (m : (p, y) ∈ next z) (b : IsRch y ys) : ys.length < zs.length := by
  have hn : (z :: ys).Nodup := by
    refine List.nodup_cons.mpr ⟨fun h => ?_, b.nd⟩
    have h1 := ((b.mem z).mp h).mleft
    have h2 := next_mleft m
    omega
  have := nodup_le (l := z :: ys) (m := zs) hn fun x hx => by
    rcases List.mem_cons.mp hx with e | e
    · rw [e]
      exact (a.mem z).mpr .refl
    · exact (a.mem x).mpr ((Rc.refl.step m).trans ((b.mem x).mp e))
  rw [List.length_cons] at this
  omega
/-! ### counted outright -/
def reachF : Nat → Zp → List Zp
  | 0, z => [z]
  | k + 1, z => z :: (next z).flatMap fun q => reachF k q.2
def dd : List Zp → List Zp
  | [] => []
  | x :: r => if x ∈ dd r then dd r else x :: dd r
theorem dd_mem (x : Zp) : ∀ l : List Zp, x ∈ dd l ↔ x ∈ l
  | [] => Iff.rfl
  | y :: r => by
    have ih := dd_mem x r
    unfold dd
    by_cases h : y ∈ dd r
    · rw [if_pos h, ih, List.mem_cons]
      constructor
      · exact .inr
      · rintro (e | e)
        · rw [e]
          exact (dd_mem y r).mp h
        · exact e
    · rw [if_neg h, List.mem_cons, List.mem_cons, ih]
theorem dd_nodup : ∀ l : List Zp, (dd l).Nodup
  | [] => List.nodup_nil
  | y :: r => by
    have ih := dd_nodup r
    unfold dd
    by_cases h : y ∈ dd r
    · rw [if_pos h]
      exact ih
    · rw [if_neg h]
      exact List.nodup_cons.mpr ⟨h, ih⟩
theorem reachF_rc : ∀ (k : Nat) (z y : Zp), y ∈ reachF k z → Rc z y
  | 0, z, y, h => by
    rw [List.mem_singleton.mp h]
    exact .refl
  | k + 1, z, y, h => by
    rcases List.mem_cons.mp h with e | e
    · rw [e]
      exact .refl
    · obtain ⟨q, hq, hy⟩ := List.mem_flatMap.mp e
      exact (Rc.refl.step (p := q.1) (x := q.2) hq).trans (reachF_rc k q.2 y hy)
theorem reachF_self (k : Nat) (z : Zp) : z ∈ reachF k z := by
  cases k with
  | zero => exact List.mem_singleton.mpr rfl
  | succ k => exact List.mem_cons_self
theorem reachF_all : ∀ (k : Nat) (z : Zp), mleft z ≤ k → ∀ y ∈ reachF k z, ∀ q ∈ next y, q.2 ∈ reachF k z
  | 0, z, hk, y, hy, q, hq => by
    rw [List.mem_singleton.mp hy, next_none (by omega)] at hq
    cases hq
  | k + 1, z, hk, y, hy, q, hq => by
    rcases List.mem_cons.mp hy with e | e
    · subst e
      exact List.mem_cons_of_mem _ (List.mem_flatMap.mpr ⟨q, hq, reachF_self k q.2⟩)
    · obtain ⟨q', hq', hy'⟩ := List.mem_flatMap.mp e
      have hm := next_mleft (z := z) (p := q'.1) (y := q'.2) hq'
      exact List.mem_cons_of_mem _ (List.mem_flatMap.mpr ⟨q', hq', reachF_all k q'.2 (by omega) y hy' q hq⟩)
def rset (z : Zp) : List Zp := dd (reachF (mleft z) z)
theorem rset_is (z : Zp) : IsRch z (rset z) := by
  refine .of (dd_nodup _) ((dd_mem _ _).mpr (reachF_self _ _)) (fun y hy => reachF_rc _ _ _ ((dd_mem _ _).mp hy)) fun y hy q hq => ?_
  exact (dd_mem _ _).mpr (reachF_all _ _ (Nat.le_refl _) y ((dd_mem _ _).mp hy) q hq)
theorem IsRch.count {z : Zp} {ys : List Zp} (a : IsRch z ys) : ys.length = (rset z).length := a.len (rset_is z)
/-! ### the order of texts -/
theorem rise_extL : ∀ {l m : List (List Nat)}, l.Pairwise (· < ·) → m.Pairwise (· < ·) → (∀ x, x ∈ l ↔ x ∈ m) → l = m
  | [], [], _, _, _ => rfl
  | [], y :: m, _, _, h => by have := (h y).mpr List.mem_cons_self; cases this
  | x :: l, [], _, _, h => by have := (h x).mp List.mem_cons_self; cases this
  | x :: l, y :: m, hl, hm, h => by
    obtain ⟨hl1, hl2⟩ := List.pairwise_cons.mp hl
    obtain ⟨hm1, hm2⟩ := List.pairwise_cons.mp hm
    have e : x = y := by
      rcases List.mem_cons.mp ((h x).mp List.mem_cons_self) with e | e
      · exact e
      · rcases List.mem_cons.mp ((h y).mpr List.mem_cons_self) with e' | e'
        · exact e'.symm
        · exact absurd (List.lt_trans (hm1 _ e) (hl1 _ e')) (List.lt_irrefl _)
    subst e
    congr 1
    refine rise_extL hl2 hm2 fun z => ⟨fun hz => ?_, fun hz => ?_⟩
    · rcases List.mem_cons.mp ((h z).mp (List.mem_cons_of_mem _ hz)) with e | e
      · subst e; exact absurd (hl1 _ hz) (List.lt_irrefl _)
      · exact e
    · rcases List.mem_cons.mp ((h z).mpr (List.mem_cons_of_mem _ hz)) with e | e
      · subst e; exact absurd (hm1 _ hz) (List.lt_irrefl _)
      · exact e
/-- stuck, but not at the goal -/
def isStuck (y : Zp) : Bool := decide (next y = []) && decide (y ≠ goal y)
/-- all that are come by and stuck, in the order of texts -/
structure IsStk (z : Zp) (ys : List Zp) : Prop where
  srt : (ys.map cps).Pairwise (· < ·)
  mem : ∀ y, y ∈ ys ↔ Rc z y ∧ isStuck y = true
theorem cps_map_inj : ∀ {l m : List Zp}, l.map cps = m.map cps → l = m
  | [], [], _ => rfl
  | [], _ :: _, h => by simp at h
  | _ :: _, [], h => by simp at h
  | x :: l, y :: m, h => by
    rw [List.map_cons, List.map_cons] at h
    obtain ⟨h1, h2⟩ := List.cons.inj h
    rw [cps_inj h1, cps_map_inj h2]
theorem IsStk.uniq {z : Zp} {ys zs : List Zp} (a : IsStk z ys) (b : IsStk z zs) : ys = zs := by
  refine cps_map_inj (rise_extL a.srt b.srt fun c => ?_)
  constructor
  · intro h
    obtain ⟨y, hy, e⟩ := List.mem_map.mp h
    exact List.mem_map.mpr ⟨y, (b.mem y).mpr ((a.mem y).mp hy), e⟩
  · intro h
    obtain ⟨y, hy, e⟩ := List.mem_map.mp h
    exact List.mem_map.mpr ⟨y, (a.mem y).mpr ((b.mem y).mp hy), e⟩
/-- none of a list that is known -/
theorem IsStk.none {z : Zp} {ys : List Zp} (a : IsStk z ys) (h : (rset z).filter isStuck = []) : ys = [] := by
  cases ys with
  | nil => rfl
  | cons y r =>
    obtain ⟨h1, h2⟩ := (a.mem y).mp List.mem_cons_self
    have : y ∈ (rset z).filter isStuck := List.mem_filter.mpr ⟨((rset_is z).mem y).mpr h1, h2⟩
    rw [h] at this
    cases this
theorem IsStk.one {z y : Zp} {ys : List Zp} (a : IsStk z ys) (h : (rset z).filter isStuck = [y]) : ys = [y] := by
  refine a.uniq ⟨List.pairwise_singleton _ _, fun x => ?_⟩
  rw [List.mem_singleton]
  constructor
  · intro e
    have : x ∈ (rset z).filter isStuck := by rw [h, e]; exact List.mem_singleton.mpr rfl
    obtain ⟨h1, h2⟩ := List.mem_filter.mp this
    exact ⟨((rset_is z).mem x).mp h1, h2⟩
  · rintro ⟨h1, h2⟩
    have : x ∈ (rset z).filter isStuck := List.mem_filter.mpr ⟨((rset_is z).mem x).mpr h1, h2⟩
    rw [h] at this
    exact List.mem_singleton.mp this
theorem IsStk.sub {z y : Zp} {p : Nat} {zs ys : List Zp} (a : IsStk z zs) (m : (p, y) ∈ next z) (b : IsStk y ys) : ∀ x ∈ ys, x ∈ zs := fun x hx => by
  obtain ⟨h1, h2⟩ := (b.mem x).mp hx
  exact (a.mem x).mpr ⟨(Rc.refl.step m).trans h1, h2⟩
/-- if none leads to the goal some is stuck -/
theorem never_stuck : ∀ (k : Nat) (z : Zp), mleft z ≤ k → ways z = 0 → ∃ y, Rc z y ∧ isStuck y = true
  | k, z, hk, h0 => by
    have hg : z ≠ goal z := fun e => by rw [ways_goal e] at h0; cases h0
    cases e : next z with
    | nil => exact ⟨z, .refl, by unfold isStuck; rw [decide_eq_true e, decide_eq_true hg]; rfl⟩
    | cons q r =>
      have hq : q ∈ next z := by rw [e]; exact List.mem_cons_self
      have hm := next_mleft (z := z) (p := q.1) (y := q.2) hq
      have hw : ways q.2 = 0 := by
        have := ways_eq z
        rw [if_neg hg, e, List.map_cons, List.sum_cons] at this
        omega
      match k, hk with
      | 0, hk => omega
      | k + 1, hk =>
        obtain ⟨y, h1, h2⟩ := never_stuck k q.2 (by omega) hw
        exact ⟨y, (Rc.refl.step (p := q.1) (x := q.2) hq).trans h1, h2⟩
theorem IsStk.some {z : Zp} {ys : List Zp} (a : IsStk z ys) (h0 : ways z = 0) : ys ≠ [] := fun e => by
  obtain ⟨y, h1, h2⟩ := never_stuck _ z (Nat.le_refl _) h0
  have := (a.mem y).mpr ⟨h1, h2⟩
  rw [e] at this
  cases this
end PL

/-! Padleap in plain Lean: what the two searches keep. -/
namespace PL
/-- the program's search: found, and the line of those not yet looked at -/
structure Sk (z : Zp) (fs ln : List Zp) : Prop where
  nd : fs.Nodup
  hz : z ∈ fs
  rc : ∀ y ∈ fs, Rc z y
  sub : ∀ y ∈ ln, y ∈ fs
  cl : ∀ y ∈ fs, y ∈ ln ∨ ∀ q ∈ next y, q.2 ∈ fs
  le : ln.length ≤ fs.length
/-- .. while h is looked at, its first i moves done -/
structure Ski (z h : Zp) (i : Nat) (fs ln : List Zp) : Prop where
  nd : fs.Nodup
  hz : z ∈ fs
  hh : h ∈ fs
  rc : ∀ y ∈ fs, Rc z y
  sub : ∀ y ∈ ln, y ∈ fs
  cl : ∀ y ∈ fs, y = h ∨ y ∈ ln ∨ ∀ q ∈ next y, q.2 ∈ fs
  dn : ∀ q ∈ (next h).take i, q.2 ∈ fs
  le : ln.length ≤ fs.length
theorem Sk.start (z : Zp) : Sk z [z] [z] :=
  ⟨List.nodup_cons.mpr ⟨(fun h => nomatch h), List.nodup_nil⟩, List.mem_singleton.mpr rfl, fun y hy => by rw [List.mem_singleton.mp hy]; exact .refl, fun y hy => hy, fun y hy => .inl hy, Nat.le_refl _⟩
theorem Sk.pop {z h : Zp} {fs ln : List Zp} (s : Sk z fs (ln ++ [h])) : Ski z h 0 fs ln :=
  ⟨s.nd, s.hz, s.sub h (by simp), s.rc, fun y hy => s.sub y (by simp [hy]), fun y hy => by
    rcases s.cl y hy with e | e
    · rcases List.mem_append.mp e with e | e
      · exact .inr (.inl e)
      · exact .inl (List.mem_singleton.mp e)
    · exact .inr (.inr e), fun q hq => by simp at hq, by have := s.le; rw [List.length_append] at this; omega⟩
theorem Ski.old {z h x : Zp} {i p : Nat} {fs ln : List Zp} (s : Ski z h i fs ln) (e : (next h)[i]? = some (p, x)) (hx : x ∈ fs) : Ski z h (i + 1) fs ln :=
  ⟨s.nd, s.hz, s.hh, s.rc, s.sub, s.cl, fun q hq => by
    rw [List.take_succ, e] at hq
    rcases List.mem_append.mp hq with m | m
    · exact s.dn q m
    · have : q = (p, x) := by simpa using m
      rw [this]
      exact hx, s.le⟩
theorem Ski.new {z h x : Zp} {i p : Nat} {fs ln : List Zp} (s : Ski z h i fs ln) (e : (next h)[i]? = some (p, x)) (hx : x ∉ fs) : Ski z h (i + 1) (fs ++ [x]) (ln ++ [x]) := by
  refine ⟨?_, by simp [s.hz], by simp [s.hh], fun y hy => ?_, fun y hy => ?_, fun y hy => ?_, fun q hq => ?_, by have := s.le; rw [List.length_append, List.length_append]; omega⟩
  · rw [List.nodup_append]
    refine ⟨s.nd, List.nodup_cons.mpr ⟨(fun h => nomatch h), List.nodup_nil⟩, fun a ha b hb => ?_⟩
    rw [List.mem_singleton.mp hb]
    intro e
    exact hx (e ▸ ha)
  · rcases List.mem_append.mp hy with m | m
    · exact s.rc y m
    · rw [List.mem_singleton.mp m]
      exact (s.rc h s.hh).step (List.mem_of_getElem? e)
  · rcases List.mem_append.mp hy with m | m
    · exact List.mem_append.mpr (.inl (s.sub y m))
    · exact List.mem_append.mpr (.inr m)
  · rcases List.mem_append.mp hy with m | m
    · rcases s.cl y m with k | k | k
      · exact .inl k
      · exact .inr (.inl (List.mem_append.mpr (.inl k)))
      · exact .inr (.inr fun q hq => List.mem_append.mpr (.inl (k q hq)))
    · exact .inr (.inl (List.mem_append.mpr (.inr m)))
  · rw [List.take_succ, e] at hq
    rcases List.mem_append.mp hq with m | m
    · exact List.mem_append.mpr (.inl (s.dn q m))
    · have : q = (p, x) := by simpa using m
      rw [this]
      simp
theorem Ski.done {z h : Zp} {i : Nat} {fs ln : List Zp} (s : Ski z h i fs ln) (hi : (next h).length ≤ i) : Sk z fs ln :=
  ⟨s.nd, s.hz, s.rc, s.sub, fun y hy => by
    rcases s.cl y hy with k | k | k
    · subst k
      refine .inr fun q hq => s.dn q ?_
      rw [List.take_of_length_le hi]
      exact hq
    · exact .inl k
    · exact .inr k, s.le⟩
theorem Sk.all {z : Zp} {fs : List Zp} (s : Sk z fs []) : IsRch z fs :=
  .of s.nd s.hz s.rc fun y hy => by
    rcases s.cl y hy with k | k
    · cases k
    · exact k
theorem len9 {z : Zp} {fs : List Zp} (h : pads z ≤ 9) (nd : fs.Nodup) (rc : ∀ y ∈ fs, Rc z y) : fs.length ≤ 4097 := by
  have := nodup_le (m := allZ) nd fun y hy => mem_allZ (by rw [(rc y hy).pads]; exact h)
  rw [allZ_len] at this
  exact this
/-- the law's search: those before the place are looked at -/
structure Lk (z : Zp) (fs : List Zp) (at_ : Nat) : Prop where
  nd : fs.Nodup
  hz : z ∈ fs
  rc : ∀ y ∈ fs, Rc z y
  cl : ∀ i y, i < at_ → fs[i]? = some y → ∀ q ∈ next y, q.2 ∈ fs
structure Lki (z h : Zp) (i : Nat) (fs : List Zp) (at_ : Nat) : Prop where
  nd : fs.Nodup
  hz : z ∈ fs
  rc : ∀ y ∈ fs, Rc z y
  cl : ∀ i y, i < at_ → fs[i]? = some y → ∀ q ∈ next y, q.2 ∈ fs
  hh : fs[at_]? = some h
  dn : ∀ q ∈ (next h).take i, q.2 ∈ fs
theorem Lk.start (z : Zp) : Lk z [z] 0 :=
  ⟨List.nodup_cons.mpr ⟨(fun h => nomatch h), List.nodup_nil⟩, List.mem_singleton.mpr rfl, fun y hy => by rw [List.mem_singleton.mp hy]; exact .refl, fun i y h => absurd h (Nat.not_lt_zero _)⟩
theorem Lk.look {z h : Zp} {fs : List Zp} {a : Nat} (s : Lk z fs a) (e : fs[a]? = some h) : Lki z h 0 fs a := ⟨s.nd, s.hz, s.rc, s.cl, e, fun q hq => by simp at hq⟩
theorem Lki.old {z h x : Zp} {i p a : Nat} {fs : List Zp} (s : Lki z h i fs a) (e : (next h)[i]? = some (p, x)) (hx : x ∈ fs) : Lki z h (i + 1) fs a :=
  ⟨s.nd, s.hz, s.rc, s.cl, s.hh, fun q hq => by
    rw [List.take_succ, e] at hq
    rcases List.mem_append.mp hq with m | m
    · exact s.dn q m
    · have : q = (p, x) := by simpa using m
      rw [this]
      exact hx⟩
theorem Lki.new {z h x : Zp} {i p a : Nat} {fs : List Zp} (s : Lki z h i fs a) (e : (next h)[i]? = some (p, x)) (hx : x ∉ fs) : Lki z h (i + 1) (fs ++ [x]) a := by
  have ha : a < fs.length := (List.getElem?_eq_some_iff.mp s.hh).1
  refine ⟨?_, by simp [s.hz], fun y hy => ?_, fun j y hj hy q hq => ?_, ?_, fun q hq => ?_⟩
  · rw [List.nodup_append]
    refine ⟨s.nd, List.nodup_cons.mpr ⟨(fun h => nomatch h), List.nodup_nil⟩, fun a ha b hb => ?_⟩
    rw [List.mem_singleton.mp hb]
    intro e
    exact hx (e ▸ ha)
  · rcases List.mem_append.mp hy with m | m
    · exact s.rc y m
    · rw [List.mem_singleton.mp m]
      exact (s.rc h (List.mem_of_getElem? s.hh)).step (List.mem_of_getElem? e)
  · rw [List.getElem?_append_left (by omega)] at hy
    exact List.mem_append.mpr (.inl (s.cl j y hj hy q hq))
  · rw [List.getElem?_append_left ha]
    exact s.hh
  · rw [List.take_succ, e] at hq
    rcases List.mem_append.mp hq with m | m
    · exact List.mem_append.mpr (.inl (s.dn q m))
    · have : q = (p, x) := by simpa using m
      rw [this]
      simp
theorem Lki.done {z h : Zp} {i a : Nat} {fs : List Zp} (s : Lki z h i fs a) (hi : (next h).length ≤ i) : Lk z fs (a + 1) :=
  ⟨s.nd, s.hz, s.rc, fun j y hj hy q hq => by
    rcases Nat.lt_or_eq_of_le (Nat.le_of_lt_succ hj) with k | k
    · exact s.cl j y k hy q hq
    · subst k
      rw [s.hh] at hy
      cases hy
      refine s.dn q ?_
      rw [List.take_of_length_le hi]
      exact hq⟩
theorem Lk.all {z : Zp} {fs : List Zp} {a : Nat} (s : Lk z fs a) (h : fs.length ≤ a) : IsRch z fs :=
  .of s.nd s.hz s.rc fun y hy q hq => by
    obtain ⟨i, hi, e⟩ := List.getElem_of_mem hy
    exact s.cl i y (by omega) (by rw [List.getElem?_eq_getElem hi, e]) q hq
end PL

/-! Rules of the layer that the answers want besides: one of two readings; C() by object's own __init__; isinstance of an own class. -/
namespace PR
open PySem PySem.Spec PyProof.Rows L2 SX
section
variable {X : Cx}
/-- one expression, two readings -/
def tOr2 (t u : TE) : TE := fun σ H Q => t σ H Q ∨ u σ H Q
theorem pe_either {e : Expr} {t u : TE} (h1 : PE X e t) (h2 : PE X e u) : PE X e (tOr2 t u) :=
  ⟨fun pins s σ H Q I h => h.elim (h1.run pins s σ H Q I) (h2.run pins s σ H Q I)⟩
/-- what a class without an __init__ of its own must have to be made -/
structure Mk0 (K : PySem.W.Frag) (C : Addr) : Prop where
  makes : PySem.W.makesIn K C = true
  init : PySem.W.findIn K (.ref C) "__init__" = some (some (.builtin "object.__init__"))
  kp : PySem.W.keepIn K (.ref C) = true
def tMakeO (C : Addr) : TE := fun _ H Q => ∀ x dx, H x = none → H dx = none → dx ≠ x → Q (.ref x) (upd (upd H dx (.own x)) x (.ins C dx []))
theorem pe_makeO {C : Addr} {x : Str} {p pos : Pos} (M : Mk0 X.K C) (hg : Gl X x) (hm : X.mg x = some (.ref C)) (hdb : (x == ("__debug__" : Str)) = false := by decide) : PE X (.Call (.Name x p) [] [] pos) (tMakeO C) := by
  refine ⟨fun pins s σ H Q I h => ?_⟩
  refine wpAny_Call_Name_kw (ld_glob I hg hm ?_ hdb)
  refine PySem.W.callWith_K0 I.kIn M.kp ?_
  have hq := h (s.heap.objs.size + 1) s.heap.objs.size (I.hok.fresh (Nat.le_succ _)) (I.hok.fresh (Nat.le_refl _)) (Nat.ne_of_lt (Nat.lt_succ_self _))
  have I2 := Inv.made (C := C) I
  refine wpAny_call (make_map0 I.kIn M.makes M.init (fun self => PySem.W.Looks.of_pure (PySem.W.oi_bind self)) ?_)
  have Y := PySem.W.makes_of (M := model X.prog X.w) I.kIn M.makes
  have k : ∀ b o, s.heap.get? b = some o → ((s.heap.push PySem.W.emptyDict).push (PySem.W.instObj C s.heap.objs.size)).get? b = some o := fun b o e => Heap.get?_push_of_some _ (Heap.get?_push_of_some _ e)
  have e2 : ((s.heap.push PySem.W.emptyDict).push (PySem.W.instObj C s.heap.objs.size)).get? (s.heap.objs.size + 1) = some (PySem.W.instObj C s.heap.objs.size) := by
    have := Heap.get?_push_size (s.heap.push PySem.W.emptyDict) (o := PySem.W.instObj C s.heap.objs.size) rfl
    rwa [Heap.size_push] at this
  have t1 : PySem.W.Looks (model X.prog X.w) ((s.heap.push PySem.W.emptyDict).push (PySem.W.instObj C s.heap.objs.size)) (typeOf (.ref (s.heap.objs.size + 1))) (.ref C) := (PySem.W.Looks.ld e2).andThen .now
  have t2 : PySem.W.Looks (model X.prog X.w) ((s.heap.push PySem.W.emptyDict).push (PySem.W.instObj C s.heap.objs.size)) (isInstance (.ref (s.heap.objs.size + 1)) (.type "object")) true := t1.andThen (Y.top.keeps k)
  refine codeAny_call_builtin PySem.W.oi_plain PySem.W.entry_oi (@PySem.W.check_slot (model X.prog X.w) _ _ _ "object.__init__" "object" "__init__" (.ref (s.heap.objs.size + 1)) [] [] _ PySem.W.oi_kind PySem.W.oi_split t2 (PySem.W.oi_args (.ref (s.heap.objs.size + 1))) ?_)
  rw [PySem.W.oi_run]
  exact wpAny_pure (And.intro rfl ⟨.ref (s.heap.objs.size + 1), _, I2, rfl, hq⟩)
end
end PR

/-! sorted(texts), any number of them; the order of texts. -/
namespace PR
open PySem PySem.Spec PyProof.Rows L2 SX PL
section
variable {X : Cx}
def rSortedT (K : PySem.W.Frag) : List V → Hp → VK → Prop := fun vs H Q => ∃ (a : Addr) (ss : List Str), vs = [V.ref a] ∧ SqL K H a (ss.map V.str) ∧
  ∀ (ys : List Str) (p : Addr), ys.Perm ss → sortedS ys = true → H p = none → Q (.ref p) (upd H p (.lst (ys.map V.str)))
theorem cr_sortedT : CallR X (.builtin "sorted") (rSortedT X.K) := by
  intro pins s σ H vs us Q I r h
  obtain ⟨a, xs, rfl, hs, q⟩ := h
  obtain ⟨its, rv, hl, hz⟩ := I.list hs
  rw [Vals.ref1 r]
  refine PyProof.Rows.sorted_strsAny hl.isList rv.strs (by rw [← rv.length]; exact hz) fun out ys h1 h2 h3 => ?_
  obtain ⟨ep, he'⟩ := PyProof.Rows.sortedAll_at s.heap its out
  have hlen : (ys.map V.str).length ≤ sizeLine := by
    rw [List.length_map, h2.length_eq]
    rw [List.length_map] at hz
    exact hz
  exact ⟨.ref _, upd H (s.heap.objs.size + 1) (.lst (ys.map V.str)), I.laid (t' := s.toks) (fun _ _ => PyProof.Rows.sortedAll_old) (Nat.le_succ _) ⟨hlen, out.toList, ep, vals_of_strs h1, he'⟩, rfl, q ys _ h2 h3 (I.hok.fresh (Nat.le_succ _))⟩
end
/-! ### from sortedS to the order -/
theorem rising_le : ∀ (l : List Str) (p : Str), risingS p l = true → (∀ x ∈ l, ¬ x.cps.toList < p.cps.toList) ∧ l.Pairwise (fun a b => ¬ b.cps.toList < a.cps.toList)
  | [], p, _ => ⟨(fun x h => nomatch h), List.Pairwise.nil⟩
  | x :: r, p, h => by
    have h' : (!ltCps x.cps.toList p.cps.toList && risingS x r) = true := h
    rw [Bool.and_eq_true, ltCps_eq] at h'
    have hx : ¬ x.cps.toList < p.cps.toList := by simpa using h'.1
    obtain ⟨h1, h2⟩ := rising_le r x h'.2
    refine ⟨fun y hy => ?_, List.pairwise_cons.mpr ⟨h1, h2⟩⟩
    rcases List.mem_cons.mp hy with e | e
    · rw [e]
      exact hx
    · have hy := h1 y e
      intro hlt
      refine hy ?_
      rw [← List.not_le] at hlt ⊢
      exact fun k => hlt (List.le_trans (List.not_lt.mp hx) k)
theorem sorted_le {l : List Str} (h : sortedS l = true) : l.Pairwise (fun a b => ¬ b.cps.toList < a.cps.toList) := by
  cases l with
  | nil => exact .nil
  | cons x r =>
    obtain ⟨h1, h2⟩ := rising_le r x h
    exact List.pairwise_cons.mpr ⟨h1, h2⟩
theorem perm_back {f : Zp → Str} (hf : ∀ {y z}, f y = f z → y = z) {ys : List Str} {zs : List Zp} (p : ys.Perm (zs.map f)) : ∃ ws : List Zp, ys = ws.map f ∧ ws.Perm zs := by
  classical
  let g : Str → Zp := fun s => if h : ∃ z, f z = s then h.choose else ([], [])
  have hg : ∀ z, g (f z) = z := fun z => by
    have h : ∃ y, f y = f z := ⟨z, rfl⟩
    show (if h : ∃ y, f y = f z then h.choose else ([], [])) = z
    rw [dif_pos h]
    exact hf h.choose_spec
  refine ⟨ys.map g, ?_, ?_⟩
  · rw [List.map_map]
    conv => lhs; rw [← List.map_id ys]
    refine List.map_congr_left fun s hs => ?_
    obtain ⟨z, _, e⟩ := List.mem_map.mp (p.mem_iff.mp hs)
    show s = f (g s)
    rw [← e, hg]
  · have := p.map g
    rw [List.map_map] at this
    have e : zs.map (g ∘ f) = zs := by
      conv => rhs; rw [← List.map_id zs]
      exact List.map_congr_left fun z _ => hg z
    rwa [e] at this
theorem sorted_zs {ys : List Str} {zs : List Zp} (p : ys.Perm (zs.map fun z => S (cps z))) (hs : sortedS ys = true) (nd : zs.Nodup) : ∃ ws : List Zp, ys = ws.map (fun z => S (cps z)) ∧ ws.Perm zs ∧ (ws.map cps).Pairwise (· < ·) := by
  obtain ⟨ws, e, pw⟩ := perm_back (f := fun z => S (cps z)) (fun h => cps_inj (S_inj h)) p
  refine ⟨ws, e, pw, ?_⟩
  have h1 := sorted_le hs
  rw [e, List.pairwise_map] at h1
  have h2 : ws.Nodup := pw.nodup_iff.mpr nd
  rw [List.pairwise_map]
  refine (h1.and h2).imp fun {a b} ⟨x, y⟩ => ?_
  have hx : ¬ cps b < cps a := x
  rw [List.not_lt] at hx
  rw [← List.not_le]
  exact fun k => y (cps_inj (List.le_antisymm hx k))
end PR

/-! A list comprehension over range(n) within an except suite: the range's end raises a StopIteration whose context is the handled error. -/
namespace PR
open PySem PySem.Spec PyProof.Rows L2 SX
/-- [elt for x in range(n)], x in slot i: the list at D grows turn by turn -/
def tLcR (n i : Nat) (te : TE) : TE := fun σ H Q => ∀ D, H D = none → ∃ Pv : Nat → Hp → Prop, Pv 0 (upd H D (.lst [])) ∧ (∀ k H1, k < n → Pv k H1 → te ((wipe σ [i]).set i (some (.int (k : Int)))) H1 fun y H4 => ∃ acc, H4 D = some (.lst acc) ∧ acc.length < sizeLine ∧ Pv (k + 1) (upd H4 D (.lst (acc ++ [y])))) ∧ ∀ H1, Pv n H1 → Q (.ref D) H1
theorem wipe_set {σ : L2.St} {i : Nat} {v : Option V} : wipe ((wipe σ [i]).set i v) [i] = wipe σ [i] := by
  show (((σ.set i none).set i v).set i none) = σ.set i none
  rw [List.set_set, List.set_set]
theorem pe_lcR {X : Cx} {elt : Expr} {x : Str} {i n kk : Nat} {a1 : Addr} {o1 : Obj} {v1 : Array Value} {scope : Scope} {px p pc pos pos' : Pos} {te : TE} (hot : X.A.handled = some (.ref a1)) (hpn : (a1, o1) ∈ X.pn) (hd1 : o1.data = .fields v1) (hc1 : v1[2]? = some .none)
    (hN : X.N.Nodup) (hg : Gl X "range") (hm : X.mg "range" = none) (hn : n ≤ 1000) (ok : BlkOk X.N X.env.scope scope [(x, i)])
    (ht : ∀ (s : Shared) (H : Hp) (C : Addr) (cl : List (Str × Addr)) (fp : List Addr), PG (X.blk s H scope (compEnvC scope cl C X.env) fp) (.Name x px) (gName i))
    (he : ∀ (s : Shared) (H : Hp) (C : Addr) (cl : List (Str × Addr)) (fp : List Addr), PE (X.blk s H scope (compEnvC scope cl C X.env) fp) elt te)
    (hst : starEach [.Constant (.int (n : Int)) kk pc] X.env = [(false, eval (.Constant (.int (n : Int)) kk pc) X.env)] := by rfl)
    (hs : ∀ y, foldedSetIterable (.Call (.Name "range" p) [.Constant (.int (n : Int)) kk pc] [] pos) X.env y = pure y := by intro _; rfl) :
    PE X (.ListComp elt [⟨.Name x px, .Call (.Name "range" p) [.Constant (.int (n : Int)) kk pc] [] pos, [], 0⟩] scope pos') (tLcR n i te) := by
  refine ⟨fun pins s σ H Q J hw => ?_⟩
  rw [eval_ListComp]
  have caught : ∀ y ∈ scope.names, y.2 = .free → ∃ c, X.env.cells.lookup y.1 = some c := fun y hy e => (ok.free y hy e).elim (fun q => J.ok.has _ (.inl q)) fun q => J.ok.has _ (.inr q)
  refine wpAny_comprehension_free (use := none) rfl hs (closure_ok caught) ok.kind (fun y hy e => (ok.uniq y hy).trans (congrArg some e)) ?_
  -- range(n), then its iterator
  have hc0 : PA X [.Constant (.int (n : Int)) kk pc] (tCons (tC (.int (n : Int))) tNil) := pa_cons pe_int pa_nil
  show wpAny (model X.prog X.w) X.A (eval (.Call (.Name "range" p) [.Constant (.int (n : Int)) kk pc] [] pos) X.env) _ _ s
  refine Call_ (ld_blt J hg hm boot_range (PyProof.Rows.callWith_type1 (thn (hc0.run pos pins s σ H (fun vs H1 => vs = [V.int (n : Int)] ∧ H1 = H) J ⟨rfl, rfl⟩) fun us sA hA => ?_) hst rfl))
  obtain ⟨vs, HA, JA, rA, evs, eHA⟩ := hA
  subst evs eHA
  obtain ⟨u0, rfl, ru0⟩ := vals1 rA
  obtain ⟨tk0, rfl⟩ := ru0
  refine call_range_1 ?_
  refine wpAny_pyIter_range (IsRange.new ..) (small_one (by omega) (by omega) (by omega) (by omega)) ?_
  generalize hB : ({ sA with heap := sA.heap.push { cls := .type "range", data := .fields #[.int 0 sA.toks, .int (n : Int) tk0, .int 1 (sA.toks + 1)] }, toks := sA.toks + 1 + 1 } : Shared) = sB
  have JB : Inv X pins σ HA sB := by
    rw [← hB]
    exact JA.kept fun b u e => Heap.get?_push_of_some _ e
  generalize hit : sB.heap.objs.size = it
  have eit : (sA.heap.push ({ cls := .type "range", data := .fields #[.int 0 sA.toks, .int (n : Int) tk0, .int 1 (sA.toks + 1)] } : Obj)).objs.size = it := by
    rw [← hit, ← hB]
  have hsz : Builtin.Range.rangeSize 0 (n : Int) 1 = (n : Int) := by
    rw [rangeSize_one]
    split <;> omega
  have fiB : FpOk X pins HA it := JB.fpOk (Nat.le_of_eq hit) (JB.hok.fresh (Nat.le_of_eq hit))
  generalize hC : ({ sB with heap := sB.heap.push { cls := .type "range_iterator", data := .fields #[rawInt 0, rawInt (Builtin.Range.rangeSize 0 (n : Int) 1), rawInt 1] } } : Shared) = sC
  have JC : Inv X pins σ HA sC := by
    rw [← hC]
    exact JB.kept (t' := sB.toks) fun b u e => Heap.get?_push_of_some _ e
  have itC : IsRangeIter sC.heap it ((0 : Nat) : Int) ((n : Int) - ((0 : Nat) : Int)) 1 := by
    rw [← hC, ← hit]
    show (sB.heap.push _).get? sB.heap.objs.size = _
    rw [Heap.get?_push_size _ rfl, hsz]
    simp
  have ltC : it < sC.heap.objs.size := Heap.lt_size itC
  -- the new list, the block's own frame
  refine wpAny_newObj_type (newEnv_comp ?_) (by show 0 ≤ sizeLine; decide)
  generalize hDD : sC.heap.objs.size = D
  have nD : HA D = none := JC.hok.fresh (Nat.le_of_eq hDD)
  have itD : it ≠ D := by rw [← hDD]; exact Nat.ne_of_lt ltC
  obtain ⟨Pv, p0, pstep, pend⟩ := hw D nD
  generalize hE : ({ sC with heap := sC.heap.push { cls := .type "list", data := .seq ([] : List Value).toArray } } : Shared) = sE
  have JE : Inv X pins σ (upd HA D (.lst [])) sE := by
    rw [← hE]
    refine JC.laid (t' := sC.toks) (fun b u e => Heap.get?_push_of_some _ e) (Nat.le_of_eq hDD) ⟨Nat.zero_le _, [], 0, .nil, ?_⟩
    rw [← hDD]
    exact Heap.get?_push_size _ rfl
  have keepE : ∀ b u, sC.heap.get? b = some u → sE.heap.get? b = some u := fun b u e => by
    rw [← hE]
    exact Heap.get?_push_of_some _ e
  have itE := keepE _ _ itC
  have fiE : FpOk X pins (upd HA D (.lst [])) it := ⟨by rw [upd_ne itD]; exact fiB.1, fiB.2⟩
  have JF := block_start (own := [(x, i)]) JE ok hN (fp := [it]) fun b hb => by
    rw [List.mem_singleton.mp hb]
    exact ⟨fiE, Heap.lt_size itE⟩
  have hotE := JE.pin (a1, o1) (List.mem_append_left _ hpn)
  have pgB := ht sE (upd HA D (.lst [])) sE.heap.objs.size (cellsFrom (sE.heap.objs.size + 1) scope.names (cloFrom X.env.cells scope.names [])) [it]
  have peB := he sE (upd HA D (.lst [])) sE.heap.objs.size (cellsFrom (sE.heap.objs.size + 1) scope.names (cloFrom X.env.cells scope.names [])) [it]
  obtain ⟨ce, hce⟩ : ∃ ce, compEnvC scope (cellsFrom (sE.heap.objs.size + 1) scope.names (cloFrom X.env.cells scope.names [])) sE.heap.objs.size X.env = ce := ⟨_, rfl⟩
  show codeAny (model X.prog X.w) X.A (.compStart _ 0 (.ref it) (.ref D) (compEnvC scope (cellsFrom (sE.heap.objs.size + 1) scope.names (cloFrom X.env.cells scope.names [])) sE.heap.objs.size X.env)) (compPost (model X.prog X.w) X.A X.xe none (EP X pins σ Q) (.ref D) sE.heap.objs.size) _
  rw [hce] at pgB peB JF ⊢
  have cloc : ce.locals = sE.heap.objs.size := by rw [← hce]; rfl
  generalize hF : ({ sE with heap := pushCells (sE.heap.push { cls := .type "dict", data := .dict #[] }) scope.names } : Shared) = sF at JF ⊢
  have itF : IsRangeIter sF.heap it ((0 : Nat) : Int) ((n : Int) - ((0 : Nat) : Int)) 1 := by
    rw [← hF]
    exact pushCells_keeps _ _ _ _ (Heap.get?_push_of_some _ itE)
  generalize hHD : upd HA D (.lst []) = HD at JE JF pgB peB fiE hotE p0
  have mem1 : it ∈ [it] := List.mem_singleton.mpr rfl
  have fiBlk : ∀ {σ' : L2.St} {H' : Hp} {s' : Shared}, Inv (X.blk sE HD scope ce [it]) [] σ' H' s' → H' it = none → FpOk (X.blk sE HD scope ce [it]) [] H' it := fun J' hn =>
    ⟨hn, (J'.ok.exf it mem1).1, J'.ok.exfs it mem1, .inl mem1, fun y c e => (J'.ok.exf it mem1).2 y c e, fun q hq => absurd (show q ∈ ([] : List (Addr × Obj)) ++ [] from hq) (by simp)⟩
  have noCell : ∀ (x0 left step : Int) (v : Option Value), (Data.fields #[rawInt x0, rawInt left, rawInt step]) ≠ Data.cell v := fun _ _ _ _ e => by cases e
  have loop : codeAny (model X.prog X.w) X.A (.compLoop (.ListComp elt [⟨.Name x px, .Call (.Name "range" p) [.Constant (.int (n : Int)) kk pc] [] pos, [], 0⟩] scope pos') 0 (.ref it) (.ref D) ce) (compPost (model X.prog X.w) X.A X.xe none (EP X pins σ Q) (.ref D) sE.heap.objs.size) sF := by
    refine compLoop_any (fun m s' => ∃ k H', m = n - k ∧ k ≤ n ∧ Inv (X.blk sE HD scope ce [it]) [] (wipe σ [i]) H' s' ∧ IsRangeIter s'.heap it (k : Int) ((n : Int) - (k : Int)) 1 ∧ H' it = none ∧ Pv k H') ?_ n ⟨0, HD, rfl, Nat.zero_le _, JF, itF, fiE.1, p0⟩
    rintro m s5 ⟨k, H5, rfl, hk, J5, it5, n5, pk⟩
    by_cases hlt : k < n
    · refine wpAny_pyNext_range_item it5 (by omega) fun h6 it6 sb6 => ?_
      refine go_of (s := { s5 with heap := h6, toks := s5.toks + 1 }) (n := "range_iterator") it6 rfl rfl (by decide) ?_
      obtain ⟨q0, q1, q2, q3, q4, q5⟩ := fiBlk J5 n5
      have J6 : Inv (X.blk sE HD scope ce [it]) [] (wipe σ [i]) H5 { s5 with heap := h6, toks := s5.toks + 1 } := J5.turned (fun b u hb e => (sb6.2 b hb).trans e) q0 q1 q3 q4 q5
      have J7 := J6.pinned (fp := [it]) (fun b hb => by rw [List.mem_singleton.mp hb]; exact fiBlk J6 n5) (fun b hb => by rw [List.mem_singleton.mp hb]; exact ⟨_, it6, noCell _ _ _⟩)
      refine thnF (pgB.run _ _ _ H5 (.int (k : Int)) _ (fun σ2 H2 => σ2 = (wipe σ [i]).set i (some (.int (k : Int))) ∧ H2 = H5) J7 ⟨_, rfl⟩ ⟨rfl, rfl⟩) fun _ s8 h8 => ?_
      obtain ⟨σ8, H8, J8, rfl, rfl⟩ := h8
      refine wpAny_tests_nil ?_
      rw [if_pos rfl]
      refine thnF (peB.run _ s8 _ H8 _ J8 (pstep k H8 hlt pk)) fun z s9 h9 => ?_
      obtain ⟨y9, H9, J9, r9, acc, hD9, hz9, nx⟩ := h9
      refine app_ok (X := X.blk sE HD scope ce [it]) J9 hD9 hz9 r9 fun s10 J10 => ?_
      have pin10 := J10.pin (it, _) (List.mem_append_right _ (List.mem_append_right _ (mem_pinsAt mem1 it6)))
      refine ⟨n - (k + 1), by omega, k + 1, _, rfl, hlt, (J10.unpinned (pins := [])).weak (by rw [List.length_set]) (fun j v e => ?_), ?_, pin10.2.1, nx⟩
      · have hj := (wipe_some e).2
        rw [List.getElem?_set_ne (fun z => hj (by rw [z]; exact List.mem_singleton.mpr rfl))]
        exact e
      · have e1 : ((k + 1 : Nat) : Int) = (k : Int) + 1 := by omega
        have e2 : (n : Int) - ((k : Int) + 1) = (n : Int) - (k : Int) - 1 := by omega
        rw [e1, e2]
        exact pin10.1
    · have ekn : k = n := by omega
      subst ekn
      have nfr : a1 ∉ frs X.stack := fun z => by
        rcases List.mem_cons.mp (JE.stkSub _ z) with e | e
        · exact hotE.2.2.1 e
        · exact hotE.2.2.2.1 e
      have nit : a1 ∉ [it] := fun z => by
        have e := List.mem_singleton.mp z
        obtain ⟨_, _, _, _, _, f5⟩ := fiE
        exact f5 (a1, o1) (List.mem_append_left _ hpn) e
      have hot5 : s5.heap.get? a1 = some o1 := J5.base.keep a1 o1 hotE.1 hotE.2.1 nfr nit
      refine HotX.pyNext_range_end_hot ⟨hot, o1, v1, hot5, hd1, hc1⟩ it5 (by omega) fun h6 kp6 => ?_
      have J6 : Inv (X.blk sE HD scope ce [it]) [] (wipe σ [i]) H5 { s5 with heap := h6 } := J5.kept (t' := s5.toks) kp6
      have back : Inv X pins σ H5 { s5 with heap := h6 } := JE.call' (ch := [it]) J6.os J6.base J6.hok J6.bare fun b hb => by
        rw [List.mem_singleton.mp hb]
        exact ⟨fiE.2.2.2.1, fiE.2.1, fiE.2.2.2.2.1, fiE.2.2.2.2.2⟩
      obtain ⟨m6, hn6, _⟩ := J6.loc
      have hn6' : h6.Ns sE.heap.objs.size m6 := by rw [← cloc]; exact hn6
      have nC : H5 sE.heap.objs.size = none := by rw [← cloc]; exact J6.free
      obtain ⟨q0, q1, q2, q3, q4, q5⟩ := JE.fpOk (H' := H5) (Nat.le_refl _) nC
      exact ⟨m6, hn6', fun h7 sb7 => ⟨.ref D, H5, back.turned (t' := s5.toks) (fun b u hb e => (sb7.2 b hb).trans e) q0 q1 q3 q4 q5, rfl, pend H5 pk⟩⟩
  exact codeAny_compStart_list loop (wpAny_pyIter_rangeiter itF loop)
end PR

/-! A lambda of the text as a value: made, kept, called later by whoever holds it; what it raises goes on. -/
namespace PR
open PySem PySem.Spec PyProof.Rows L2 SX LamX NdefX
/-- all but d stands as it stood -/
def Bt (d : Addr) (H H' : Hp) : Prop := ∀ b o, b ≠ d → H b = some o → H' b = some o
theorem Bt.refl (d : Addr) (H : Hp) : Bt d H H := fun _ _ _ h => h
theorem Bt.trans {d : Addr} {H H1 H2 : Hp} (a : Bt d H H1) (b : Bt d H1 H2) : Bt d H H2 := fun c o n h => b c o n (a c o n h)
theorem Bt.of {d : Addr} {H H' : Hp} (s : L2.Same H H') : Bt d H H' := fun b o _ h => s b o h
/-- the object at f is a lambda: its words F, its expression e -/
def LamO (f : Addr) (F : NF) (e : Expr) : HO :=
  .ext fun h => ∃ (od : Option Addr) (sl : Array (Option Value)) (pm ctv : Value), h.get? f = some (⟨.type "function", od, .func (PySem.W.kla_fn "<lambda>" F.qual F.params e F.scope F.cl pm (.ref F.c) ctv), sl⟩ : Obj)
theorem lamO_at {P : Program} {w : World} {H : Hp} {h : Heap} {f : Addr} {F : NF} {e : Expr} (k : HOk P w H h) (q : H f = some (LamO f F e)) :
    ∃ (od : Option Addr) (sl : Array (Option Value)) (pm ctv : Value), h.get? f = some (⟨.type "function", od, .func (PySem.W.kla_fn "<lambda>" F.qual F.params e F.scope F.cl pm (.ref F.c) ctv), sl⟩ : Obj) := (k f _ q).1
theorem lamO_tbl {f : Addr} {F : NF} {e : Expr} (ps : Array Value) : LamO f F e ≠ .tbl ps := fun z => by
  unfold LamO at z
  cases z
section
variable {X : Cx} {pins : List (Addr × Obj)} {σ : L2.St} {H : Hp} {s : Shared}
theorem inv_lam {F : NF} {e : Expr} {pm ctv : Value} {t' : Nat} (J : Inv X pins σ H s) :
    Inv X pins σ (upd H s.heap.objs.size (LamO s.heap.objs.size F e)) { s with heap := s.heap.push { cls := .type "function", data := .func (PySem.W.kla_fn "<lambda>" F.qual F.params e F.scope F.cl pm (.ref F.c) ctv) }, toks := t' } := by
  have q : (s.heap.push ({ cls := .type "function", data := .func (PySem.W.kla_fn "<lambda>" F.qual F.params e F.scope F.cl pm (.ref F.c) ctv) } : Obj)).get? s.heap.objs.size = some { cls := .type "function", data := .func (PySem.W.kla_fn "<lambda>" F.qual F.params e F.scope F.cl pm (.ref F.c) ctv) } := Heap.get?_push_size _ rfl
  exact J.laid (a := s.heap.objs.size) (fun b u z => Heap.get?_push_of_some _ z) (Nat.le_refl _) ⟨⟨_, _, _, _, q⟩, ⟨_, q⟩, fun _ _ ⟨od, sl, p, t, z⟩ st => ⟨od, sl, p, t, st _ z⟩⟩
/-- the words of a lambda of the running def -/
abbrev lamF (X : Cx) (params : Arguments) (scope : Scope) (c' : Addr) : NF := ⟨"<lambda>", X.env.qual ++ "<lambda>", params, [], scope, cloFrom X.env.cells scope.names [], c'⟩
theorem lam_mk {c P : Addr} {params : Arguments} {body : Expr} {scope : Scope} {pos : Pos} {E : Value → Shared → Prop} {Q : Value → Shared → Prop} (J : Inv X pins σ H s) (TB : TabB X.base X.mg c P) (hcode : X.env.code = .ref c) (hT : TabS H P (X.env.qual ++ "<lambda>"))
    (hdef : defaultsOf params X.env = ([], [])) (caught : ∀ y ∈ scope.names, y.2 = .free → ∃ c, X.env.cells.lookup y.1 = some c)
    (next : ∀ (f c' : Addr) (H1 : Hp) (s1 : Shared), Inv X pins σ H1 s1 → Bt P H H1 → TabS H1 P (X.env.qual ++ "<lambda>") → H f = none → H1 f = some (LamO f (lamF X params scope c') body) → H1 c' = some (CodeO c' (X.env.qual ++ "<lambda>")) → Q (.ref f) s1) :
    wpAny (model X.prog X.w) X.A (eval (.Lambda params body scope pos) X.env) Q E s := by
  obtain ⟨tab, atP, triples, told⟩ := hT
  have getP : s.heap.get? P = some { cls := .none, data := .fields tab } := J.hok P _ atP
  refine PySem.W.kla_eval hdef ?_
  cases found : codeAmong pos tab.toList with
  | some cv =>
    obtain ⟨c', rfl, atC⟩ := told pos cv found
    refine PySem.W.kla_makeFunctionHit (mg := X.mg) (ps := tab) (closure_ok caught) J.ok.glob (J.mod.glob.keeps J.bk) hcode (TB.code.keeps J.bk) getP triples found (TB.bm.keeps J.bk) fun ctv h1 tk keeps bigger => ?_
    have J1 : Inv X pins σ H { s with heap := h1, toks := tk } := J.kept keeps
    have new : H h1.objs.size = none := J1.hok.fresh (Nat.le_refl _)
    have J2 := inv_lam (F := lamF X params scope c') (e := body) (pm := (X.mg "__name__").getD .none) (ctv := ctv) (t' := tk) J1
    have ext : ∀ b o, H b = some o → upd H h1.objs.size (LamO h1.objs.size (lamF X params scope c') body) b = some o := fun b o q => (upd_ne (ne_of_none q new)).trans q
    exact next h1.objs.size c' _ _ J2 (fun b o _ q => ext b o q) ((show TabS H P _ from ⟨tab, atP, triples, told⟩).ext ext) new upd_same (ext _ _ atC)
  | none =>
    refine PySem.W.kla_makeFunction (mg := X.mg) (ps := tab) (closure_ok caught) J.ok.glob (J.mod.glob.keeps J.bk) hcode (TB.code.keeps J.bk) getP triples found TB.gP (TB.bm.keeps J.bk) fun c' ctv h1 tk keeps young below coded atP1 => ?_
    obtain ⟨c2, oc, vs, t, same, hoc, hd, hv⟩ := coded
    cases same
    have newC : H c' = none := J.hok.fresh young
    have J1 := inv_table (t' := tk) (more := #[rawInt pos.line, rawInt pos.col, .ref c']) J atP (fun b o n q => keeps b o n q) atP1 young ⟨oc, vs, t, hoc, hd, hv⟩
    have newF := J1.hok.fresh (Nat.le_refl h1.objs.size)
    have J2 := inv_lam (F := lamF X params scope c') (e := body) (pm := (X.mg "__name__").getD .none) (ctv := ctv) (t' := tk) J1
    have step1 : ∀ b o, b ≠ P → H b = some o → upd (upd H P (.tbl (tab ++ #[rawInt pos.line, rawInt pos.col, .ref c']))) c' (CodeO c' (X.env.qual ++ "<lambda>")) b = some o := fun b o n q => by
      rw [upd_ne (ne_of_none q newC), upd_ne n]
      exact q
    have step2 : ∀ b o, upd (upd H P (.tbl (tab ++ #[rawInt pos.line, rawInt pos.col, .ref c']))) c' (CodeO c' (X.env.qual ++ "<lambda>")) b = some o → upd (upd (upd H P (.tbl (tab ++ #[rawInt pos.line, rawInt pos.col, .ref c']))) c' (CodeO c' (X.env.qual ++ "<lambda>"))) h1.objs.size (LamO h1.objs.size (lamF X params scope c') body) b = some o := fun b o q => (upd_ne (ne_of_none q newF)).trans q
    have longer : (tab ++ #[rawInt pos.line, rawInt pos.col, .ref c']).toList = tab.toList ++ [rawInt pos.line, rawInt pos.col, .ref c'] := by simp
    have nPc : P ≠ c' := ne_of_none atP newC
    refine next h1.objs.size c' _ _ J2 (fun b o n q => step2 b o (step1 b o n q)) ⟨_, step2 _ _ (by rw [upd_ne nPc, upd_same]), by rw [longer]; exact PySem.TriplesOk_snoc _ _ _ _ triples, fun p' cv q => ?_⟩ (J.hok.fresh (Nat.le_trans young (Nat.le_of_lt below))) upd_same (step2 _ _ upd_same)
    rw [longer] at q
    rcases among_app _ triples q with old | rfl
    · obtain ⟨c0, e0, a0⟩ := told p' cv old
      exact ⟨c0, e0, step2 _ _ (step1 _ _ (fun z => by rw [z, atP] at a0; exact codeO_ne _ (Option.some.inj a0).symm) a0)⟩
    · exact ⟨c', rfl, step2 _ _ upd_same⟩
end
/-- lambda x: body, as a value; the def's code object has its table at P -/
def tLamV (P : Addr) (q : Str) (mk : Addr → NF) (body : Expr) : TE := fun _ H Q => TabS H P q ∧ ∀ (f c' : Addr) (H1 : Hp), Bt P H H1 → TabS H1 P q → H f = none → H1 f = some (LamO f (mk c') body) → H1 c' = some (CodeO c' q) → Q (.ref f) H1
theorem pe_lam {X : Cx} {c P : Addr} {params : Arguments} {body : Expr} {scope : Scope} {pos : Pos} (TB : TabB X.base X.mg c P) (hcode : X.env.code = .ref c) (hdef : defaultsOf params X.env = ([], []))
    (hfree : ∀ y ∈ scope.names, y.2 = .free → X.env.scope.names.lookup y.1 = some .cell ∨ X.env.scope.names.lookup y.1 = some .free) :
    PE X (.Lambda params body scope pos) (tLamV P (X.env.qual ++ "<lambda>") (lamF X params scope) body) := by
  refine ⟨fun pins s σ H Q J h => ?_⟩
  refine lam_mk J TB hcode h.1 hdef (fun y hy e => (hfree y hy e).elim (fun z => J.ok.has _ (.inl z)) fun z => J.ok.has _ (.inr z)) fun f c' H1 s1 J1 b1 t1 f0 f1 c1 => ?_
  exact ⟨.ref f, H1, J1, rfl, h.2 f c' H1 b1 t1 f0 f1 c1⟩
/-! ### what may be asked: a def of the text or a lambda, with its promise; what it raises has no context -/
/-- the lambda F at f keeps sp -/
structure LOk (P : Program) (w : World) (K : PySem.W.Frag) (mg : Str → Option Value) (base : Heap) (k : Nat) (f : Addr) (F : NF) (e : Expr) (sp : Sp) : Prop where
  run : ∀ (A : Around) (outer : List Env) (s : Shared) (H : Hp) (us : List Value) (vs : List V) (Q : VK) (E : XK), Room k A → Env0 P w K mg base A outer s H → H f = some (LamO f F e) → H F.c = some (CodeO F.c F.qual) → Vals vs us → sp vs H Q E →
    codeAny (model P w) A (.call (.ref f) ⟨us, []⟩) (CR (L2N.CX P w) outer P w H s Q E) s
/-- by its expression; no name of the def around is captured -/
theorem lok_of {P : Program} {w : World} {K : PySem.W.Frag} {mg : Str → Option Value} {base : Heap} {N ps : List Str} {F : NF} {e : Expr} {f : Addr} {k : Nat} {sp : Sp} (S : NScope N ps [] F.scope) (hcl : F.cl = []) (len : ∀ vs H Q E, sp vs H Q E → vs.length = ps.length)
    (hb : ∀ (pm ctv : Value) (us : List Value), us.length = ps.length → bindArgs (PySem.W.kla_fn "<lambda>" F.qual F.params e F.scope F.cl pm (.ref F.c) ctv) ⟨us, []⟩ = pure (ps.zip us))
    (hbody : ∀ (A : Around) (outer : List Env) (s : Shared) (H : Hp) (vs : List V) (Q : VK) (E : XK), Room k (A.deeper (envF F f s.heap.objs.size)) → sp vs H Q E → ∃ t, PE (ncx (L2N.CX P w) P w K mg base N F f A outer s H E) e t ∧ t (startF N vs []) H Q) :
    LOk P w K mg base (k + 1) f F e sp := by
  refine ⟨fun A outer s H us vs Q E hr e0 hf hc r hsp => ?_⟩
  have hl := len _ _ _ _ hsp
  have lim : s.heap.NoLimit := e0.mod.nolimit.keeps fun b o q => (e0.bs b o q).1
  obtain ⟨od, sl, pm, ctv, atF⟩ := lamO_at e0.hok hf
  refine PySem.W.kla_callFunE hr.depth atF rfl S.co S.gen rfl (codeO_at e0.hok hc) ?_
  rw [hb pm ctv us (by rw [← r.length]; exact hl)]
  refine wpAny_pure (wpAny_newFunctionEnv S.nocell (fun ⟨y, _⟩ hy => S.par y (List.of_mem_zip hy).1) (fun h1 hns hsb => ⟨lim.fresh _ hsb, ?_⟩) S.kind)
  show codeAny _ _ (.expr e (envF F f s.heap.objs.size)) _ _
  have kp : ∀ b o, s.heap.get? b = some o → h1.get? b = some o := fun b o q => hsb.extBut b o (Nat.ne_of_lt (Heap.lt_size q)) (Heap.get?_push_of_some _ q)
  obtain ⟨t, ht, hq⟩ := hbody A outer s H vs Q E (hr.deeper _) hsp
  have C : CellsAt F.cl [] [] s.heap H := ⟨rfl, (fun y c q => by rw [hcl] at q; cases q), (fun y z c q => by rw [hcl] at q; cases q), (fun i y q => by simp at q)⟩
  have J : Inv (ncx (L2N.CX P w) P w K mg base N F f A outer s H E) [] (startF N vs []) H { s with heap := h1, toks := s.toks + (ps.zip us).length } := inv_startN S hr.hd e0 hl r C hns kp
  refine PySem.W.kla_codeExpr (wpAny_mono (ht.run [] _ _ H Q J hq) (fun v s1 h1' => ?_) fun u s1 z => z)
  obtain ⟨y, H1, J1, ry, q1⟩ := h1'
  exact ⟨y, H1, J1.os, J1.bare, J1.base, J1.hok, ry, q1⟩
/-- what stands at f may be called at this heap and keeps sp -/
def AskAt (P : Program) (w : World) (K : PySem.W.Frag) (mg : Str → Option Value) (base : Heap) (k : Nat) (H : Hp) (f : Addr) (sp : Sp) : Prop :=
  (∃ (fd : FuncData) (ps : List Str), FnOk P w K mg base (L2N.CX P w) k f fd ps sp ∧ PySem.W.keepIn K (.ref f) = true ∧ Binds K fd ps []) ∨
  ∃ (F : NF) (e : Expr) (G : Hp → Prop), G H ∧ (∀ H H', ExtN H H' → G H → G H') ∧ (∀ H, G H → H f = some (LamO f F e)) ∧ ∀ (A : Around) (outer : List Env) (s : Shared) (H : Hp) (us : List Value) (vs : List V) (Q : VK) (E : XK), Room k A → Env0 P w K mg base A outer s H → G H → Vals vs us → sp vs H Q E →
    codeAny (model P w) A (.call (.ref f) ⟨us, []⟩) (CR (L2N.CX P w) outer P w H s Q E) s
theorem AskAt.ext {P : Program} {w : World} {K : PySem.W.Frag} {mg : Str → Option Value} {base : Heap} {k : Nat} {H H' : Hp} {f : Addr} {sp : Sp} (h : AskAt P w K mg base k H f sp) (s : ∀ b o, H b = some o → (∀ ps, o ≠ .tbl ps) → H' b = some o) : AskAt P w K mg base k H' f sp := by
  rcases h with h | ⟨F, e, G, g, st, h1, h2⟩
  · exact .inl h
  · exact .inr ⟨F, e, G, st H H' s g, st, h1, h2⟩
/-- a lambda that keeps its promise may be asked -/
theorem askAt_lam {P : Program} {w : World} {K : PySem.W.Frag} {mg : Str → Option Value} {base : Heap} {k : Nat} {H : Hp} {f : Addr} {F : NF} {e : Expr} {sp : Sp} (h1 : H f = some (LamO f F e)) (h2 : H F.c = some (CodeO F.c F.qual)) (L : LOk P w K mg base k f F e sp) : AskAt P w K mg base k H f sp :=
  .inr ⟨F, e, fun H => H f = some (LamO f F e) ∧ H F.c = some (CodeO F.c F.qual), ⟨h1, h2⟩, fun H H' s g => ⟨s _ _ g.1 lamO_tbl, s _ _ g.2 codeO_ne⟩, fun H g => g.1, fun A outer s H us vs Q E hr e0 g r q => L.run A outer s H us vs Q E hr e0 g.1 g.2 r q⟩
/-- x(y), x a slot that holds what may be asked, y another slot; its error goes to the try around -/
def tAsk (P : Program) (w : World) (K : PySem.W.Frag) (mg : Str → Option Value) (base : Heap) (k i j : Nat) (W : WX) : TE := fun σ H Q => ∃ f sp v, σ[i]? = some (some (.ref f)) ∧ σ[j]? = some (some v) ∧ AskAt P w K mg base k H f sp ∧ sp [v] H Q (fun cls d H' => W cls d σ H')
theorem pe_ask {X : Cx} {k l i j : Nat} {x y : Str} {p py pos : Pos} {W : WX} (tk : L2N.Takes X W) (hr : Room l X.A) (hk : k ≤ l) (hN : X.N[i]? = some x) (hv : Vis X.env.scope x) (hNy : X.N[j]? = some y) (hvy : Vis X.env.scope y)
    (hd : (x == ("__debug__" : Str)) = false := by decide) (hcd : (x == ("__classdict__" : Str)) = false := by decide) (hdy : (y == ("__debug__" : Str)) = false := by decide) (hcdy : (y == ("__classdict__" : Str)) = false := by decide)
    (he : starEach [.Name y py] X.env = (false, eval (.Name y py) X.env) :: starEach [] X.env := by rfl) (hpl : (backTo pos (starEach [] X.env)).any (·.1) = false := by rfl) :
    PE X (.Call (.Name x p) [.Name y py] [] pos) (tAsk X.prog X.w X.K X.mg X.base k i j W) := by
  refine ⟨fun pins s σ H Q J h => ?_⟩
  obtain ⟨f, sp, v0, hs, hsy, ask, hsp⟩ := h
  have pa : PA X [.Name y py] (tCons (tVar j) tNil) := pa_cons (pe_var hNy hvy hdy hcdy) pa_nil he
  refine wpAny_Call_Name_kw (thn ((pe_var (pos := p) hN hv hd hcd).run pins s σ H (fun v H1 => v = .ref f ∧ H1 = H) J ⟨.ref f, hs, rfl, rfl⟩) fun u s1 h1 => ?_)
  obtain ⟨v, H1, J1, r1, ev, eH⟩ := h1
  subst ev eH
  obtain rfl : u = Value.ref f := r1
  have fin : ∀ {us : List Value} {s2 : Shared}, Inv X pins σ H1 s2 → codeAny (model X.prog X.w) X.A (.call (.ref f) ⟨us, []⟩) (CR (L2N.CX X.prog X.w) X.stack X.prog X.w H1 s2 Q (fun cls d H' => W cls d σ H')) s2 → wpAny (model X.prog X.w) X.A (call (.ref f) us) (EP X pins σ Q) X.xe s2 := fun {us s2} J2 rc => by
    refine wpAny_call (codeAny_mono rc fun r s3 hq => ?_)
    cases r with
    | error er => exact tk er s3 (L2N.XE.of_call J2 (fun _ _ _ z => z) hq)
    | ok fl =>
      cases fl with
      | ret u => exact J2.after hq
      | next => exact False.elim hq
      | brk => exact False.elim hq
      | cont => exact False.elim hq
  rcases ask with ⟨fd, ps, FK, kp, bd⟩ | ⟨F, eb, G, g, st, hfG, L⟩
  · refine PySem.W.callWith_K (h₀ := X.base) J1.ok.mod.kin kp (thn (pa.run pos pins s1 σ _ (fun vs H2 => vs = [v0] ∧ H2 = H1) J1 ⟨v0, hsy, rfl, rfl⟩) fun us s2 h2 => ?_) he hpl
    obtain ⟨vs, H2, J2, r, evs, eH2⟩ := h2
    subst evs eH2
    refine ⟨J2.kIn, fin J2 ?_⟩
    have hl : us.length = ps.length := by rw [← r.length]; exact FK.len _ _ _ _ hsp
    have hb := bd s2 us J2.kIn (by rw [List.append_nil]; exact hl)
    rw [List.append_nil] at hb
    exact FK.run X.A X.stack s2 H2 ⟨us, []⟩ us [v0] Q _ (hr.mono hk) J2.env0 hb r hsp
  · have hf := hfG _ g
    obtain ⟨od, sl, pm, ctv, atF⟩ := lamO_at J1.hok hf
    refine PySem.W.callWith_F (first := []) ⟨_, _, _, _, atF⟩ (thn (pa.run pos pins s1 σ _ (fun vs H2 => vs = [v0] ∧ H2 = H1) J1 ⟨v0, hsy, rfl, rfl⟩) fun us s2 h2 => ?_) he hpl
    obtain ⟨vs, H2, J2, r, evs, eH2⟩ := h2
    subst evs eH2
    obtain ⟨od2, sl2, pm2, ctv2, atF2⟩ := lamO_at J2.hok hf
    exact ⟨⟨_, _, _, _, atF2⟩, fin J2 (L X.A X.stack s2 H2 us [v0] Q _ (hr.mono hk) J2.env0 g r hsp)⟩
end PR

/-! A lambda that captures one name of the def around it, handed straight to a call. While the call runs the cell is among what is known (pinned as it is); in the lambda's own frame and back in the def it is a cell again. -/
namespace PR
open PySem PySem.Spec PyProof.Rows L2 SX LamX NdefX
/-- the object at c, just as it is -/
def PinO (c : Addr) (o : Obj) : HO := .ext fun h => h.get? c = some o
/-- c is not known any more -/
def era (H : Hp) (c : Addr) : Hp := fun b => if b = c then none else H b
theorem era_same {H : Hp} {c : Addr} : era H c c = none := if_pos rfl
theorem era_ne {H : Hp} {b c : Addr} (h : b ≠ c) : era H c b = H b := if_neg h
theorem pin_at {P : Program} {w : World} {H : Hp} {h : Heap} {c : Addr} {o : Obj} (k : HOk P w H h) (q : H c = some (PinO c o)) : h.get? c = some o := (k c _ q).1
theorem pin_tbl {c : Addr} {o : Obj} (ps : Array Value) : PinO c o ≠ .tbl ps := fun z => by
  unfold PinO at z
  cases z
theorem hok_era {P : Program} {w : World} {H : Hp} {h : Heap} {c : Addr} {o : Obj} (k : HOk P w H h) (q : H c = some (PinO c o)) : HOk P w (era H c) h := fun a u e => by
  by_cases n : a = c
  · rw [n, era_same] at e
    cases e
  · rw [era_ne n] at e
    refine (k a u e).stay (fun _ _ _ z => z) (fun b hb => ?_) fun b xs hb => ?_
    · rw [era_ne fun z => by rw [z, q] at hb; cases hb]
      exact hb
    · rw [era_ne fun z => by rw [z, q] at hb; cases hb]
      exact hb
theorem hok_pin {P : Program} {w : World} {H : Hp} {h : Heap} {c : Addr} {o : Obj} (k : HOk P w H h) (n : H c = none) (q : h.get? c = some o) : HOk P w (upd H c (PinO c o)) h := fun a u e => by
  by_cases ac : a = c
  · rw [ac, upd_same] at e
    cases e
    rw [ac]
    exact ⟨q, ⟨o, q⟩, fun h1 h2 x st => st _ x⟩
  · rw [upd_ne ac] at e
    refine (k a u e).stay (fun _ _ _ z => z) (fun b hb => ?_) fun b xs hb => ?_
    · rw [upd_ne (ne_of_none hb n)]
      exact hb
    · rw [upd_ne (ne_of_none hb n)]
      exact hb
theorem era_upd {H : Hp} {c : Addr} {o : HO} (n : H c = none) : era (upd H c o) c = H := by
  funext b
  by_cases h : b = c
  · rw [h, era_same, n]
  · rw [era_ne h, upd_ne h]
section
variable {P : Program} {w : World} {K : PySem.W.Frag} {mg : Str → Option Value} {base : Heap} {A : Around} {outer : List Env} {s s' : Shared} {H : Hp} {c : Addr} {o : Obj}
theorem env_era (e : Env0 P w K mg base A outer s H) (q : H c = some (PinO c o)) : Env0 P w K mg base A outer s (era H c) :=
  ⟨e.frames, e.mod, fun b u z => ⟨(e.bs b u z).1, by
    rw [era_ne fun y => by rw [y] at z; have := (e.bs _ _ z).2; rw [q] at this; cases this]
    exact (e.bs b u z).2⟩, e.bsz, e.funs, fun b hb => by
    rw [era_ne fun y => by rw [y] at hb; have := e.frf _ hb; rw [q] at this; cases this]
    exact e.frf b hb, hok_era e.hok q, e.bare⟩
/-- behind a call in which the cell was not known: it stands as it was -/
theorem cr_pin {Q : VK} {E : XK} {r : Result} (e : Env0 P w K mg base A outer s H) (q : H c = some (PinO c o)) (x : CR (L2N.CX P w) outer P w (era H c) s (fun v H' => Q v (upd H' c (PinO c o))) (fun cls d H' => E cls d (upd H' c (PinO c o))) r s') : CR (L2N.CX P w) outer P w H s Q E r s' := by
  have atC := pin_at e.hok q
  have nfr : c ∉ frs outer := fun z => by
    have := e.frf _ z
    rw [q] at this
    cases this
  have eN : era H c c = none := era_same
  have down : ∀ b u, H b = some u → b ≠ c → era H c b = some u := fun b u z n => by rw [era_ne n]; exact z
  have dn : ∀ b, H b = none → b ≠ c ∧ era H c b = none := fun b z => by
    have n : b ≠ c := fun y => by rw [y, q] at z; cases z
    exact ⟨n, by rw [era_ne n]; exact z⟩
  have nt : ∀ b u, H b = some u → (∀ φ, u ≠ .ext φ) → b ≠ c := fun b u z n y => by
    rw [y, q] at z
    exact n _ (Option.some.inj z).symm
  cases r with
  | error er =>
    obtain ⟨a, B, H', cls, d, rfl, fl, hok, ub, na, os, ag, hE⟩ := x
    have bC : B.get? c = some o := ub.keep c o atC eN nfr
    have nH' : H' c = none := ub.free c o atC eN
    have ac : a ≠ c := fun z => by
      have := fl.2.1
      rw [z, bC] at this
      cases this
    refine ⟨a, B, upd H' c (PinO c o), cls, d, rfl, fl, hok_pin hok nH' bC, ⟨fun b u z n hb => ub.keep b u z (dn b n).2 hb, ub.slot, fun b u z n => ?_, ub.there, fun b xs z => ?_, fun b ob xs z => ?_, fun b ps z => ?_⟩, by rw [upd_ne ac]; exact na, os, ag, hE⟩
    · rw [upd_ne (dn b n).1]
      exact ub.free b u z (dn b n).2
    · have n := nt b _ z fun φ y => by cases y
      rw [upd_ne n]
      exact ub.tups b xs (down b _ z n)
    · have n := nt b _ z fun φ y => by cases y
      rw [upd_ne n]
      exact ub.frzs b ob xs (down b _ z n)
    · have n := nt b _ z fun φ y => by cases y
      rw [upd_ne n]
      exact ub.tbls b ps (down b _ z n)
  | ok f =>
    cases f with
    | next => exact False.elim x
    | brk => exact False.elim x
    | cont => exact False.elim x
    | ret u =>
      obtain ⟨v, H', os, bare, un, hok, r, hq⟩ := x
      have bC : s'.heap.get? c = some o := un.keep c o atC eN nfr (by simp)
      have nH' : H' c = none := un.free c o atC eN (by simp)
      refine ⟨v, upd H' c (PinO c o), os, bare, ⟨fun b u z n hb hx => un.keep b u z (dn b n).2 hb hx, fun b u z n hb hx => un.slot b u z (dn b n).2 hb hx, fun b u z n hx => ?_, un.there, fun b xs z => ?_, fun b ob xs z => ?_, fun b ps z => ?_⟩, hok_pin hok nH' bC, r, hq⟩
      · rw [upd_ne (dn b n).1]
        exact un.free b u z (dn b n).2 hx
      · have n := nt b _ z fun φ y => by cases y
        rw [upd_ne n]
        exact un.tups b xs (down b _ z n)
      · have n := nt b _ z fun φ y => by cases y
        rw [upd_ne n]
        exact un.frzs b ob xs (down b _ z n)
      · have n := nt b _ z fun φ y => by cases y
        rw [upd_ne n]
        exact un.tbls b ps (down b _ z n)
/-- behind a call in which the cell was known -/
theorem ce_pin {Q : VK} {u : Value} (n : H c = none) (q : s.heap.get? c = some o) (x : CE outer P w (upd H c (PinO c o)) s (fun v H' => H' c = some (PinO c o) ∧ Q v (era H' c)) u s') : CE outer P w H s Q u s' := by
  obtain ⟨v, H', os, bare, un, hok, r, hc, hq⟩ := x
  have up : ∀ b u, H b = some u → b ≠ c ∧ upd H c (PinO c o) b = some u := fun b u z => by
    have m : b ≠ c := ne_of_none z n
    exact ⟨m, by rw [upd_ne m]; exact z⟩
  have un0 : ∀ b, H b = none → b ≠ c → upd H c (PinO c o) b = none := fun b z m => by rw [upd_ne m]; exact z
  refine ⟨v, era H' c, os, bare, ⟨fun b u z m hb hx => ?_, fun b u z m hb hx => ?_, fun b u z m hx => ?_, un.there, fun b xs z => ?_, fun b ob xs z => ?_, fun b ps z => ?_⟩, hok_era hok hc, r, hq⟩
  · by_cases e : b = c
    · rw [e, q] at z
      cases z
      rw [e]
      exact pin_at hok hc
    · exact un.keep b u z (un0 b m e) hb hx
  · by_cases e : b = c
    · rw [e, q] at z
      cases z
      rw [e]
      exact ⟨_, pin_at hok hc⟩
    · exact un.slot b u z (un0 b m e) hb hx
  · by_cases e : b = c
    · rw [e]
      exact era_same
    · rw [era_ne e]
      exact un.free b u z (un0 b m e) hx
  · rw [era_ne (up b _ z).1]
    exact un.tups b xs (up b _ z).2
  · rw [era_ne (up b _ z).1]
    exact un.frzs b ob xs (up b _ z).2
  · rw [era_ne (up b _ z).1]
    exact un.tbls b ps (up b _ z).2
end
/-- a lambda that captures names: what its cells hold at the call -/
structure LOkC (P : Program) (w : World) (K : PySem.W.Frag) (mg : Str → Option Value) (base : Heap) (k : Nat) (f : Addr) (F : NF) (e : Expr) (fr : List Str) (ws : List (Option V)) (sp : Sp) : Prop where
  run : ∀ (A : Around) (outer : List Env) (s : Shared) (H : Hp) (us : List Value) (vs : List V) (Q : VK) (E : XK), Room k A → Env0 P w K mg base A outer s H → H f = some (LamO f F e) → H F.c = some (CodeO F.c F.qual) → CellsAt F.cl fr ws s.heap H → Vals vs us → sp vs H Q E →
    codeAny (model P w) A (.call (.ref f) ⟨us, []⟩) (CR (L2N.CX P w) outer P w H s Q E) s
theorem lokc_of {P : Program} {w : World} {K : PySem.W.Frag} {mg : Str → Option Value} {base : Heap} {N ps fr : List Str} {ws : List (Option V)} {F : NF} {e : Expr} {f : Addr} {k : Nat} {sp : Sp} (S : NScope N ps fr F.scope) (len : ∀ vs H Q E, sp vs H Q E → vs.length = ps.length)
    (hb : ∀ (pm ctv : Value) (us : List Value), us.length = ps.length → bindArgs (PySem.W.kla_fn "<lambda>" F.qual F.params e F.scope F.cl pm (.ref F.c) ctv) ⟨us, []⟩ = pure (ps.zip us))
    (hbody : ∀ (A : Around) (outer : List Env) (s : Shared) (H : Hp) (vs : List V) (Q : VK) (E : XK), Room k (A.deeper (envF F f s.heap.objs.size)) → sp vs H Q E → ∃ t, PE (ncx (L2N.CX P w) P w K mg base N F f A outer s H E) e t ∧ t (startF N vs ws) H Q) :
    LOkC P w K mg base (k + 1) f F e fr ws sp := by
  refine ⟨fun A outer s H us vs Q E hr e0 hf hc C r hsp => ?_⟩
  have hl := len _ _ _ _ hsp
  have lim : s.heap.NoLimit := e0.mod.nolimit.keeps fun b o q => (e0.bs b o q).1
  obtain ⟨od, sl, pm, ctv, atF⟩ := lamO_at e0.hok hf
  refine PySem.W.kla_callFunE hr.depth atF rfl S.co S.gen rfl (codeO_at e0.hok hc) ?_
  rw [hb pm ctv us (by rw [← r.length]; exact hl)]
  refine wpAny_pure (wpAny_newFunctionEnv S.nocell (fun ⟨y, _⟩ hy => S.par y (List.of_mem_zip hy).1) (fun h1 hns hsb => ⟨lim.fresh _ hsb, ?_⟩) S.kind)
  show codeAny _ _ (.expr e (envF F f s.heap.objs.size)) _ _
  have kp : ∀ b o, s.heap.get? b = some o → h1.get? b = some o := fun b o q => hsb.extBut b o (Nat.ne_of_lt (Heap.lt_size q)) (Heap.get?_push_of_some _ q)
  obtain ⟨t, ht, hq⟩ := hbody A outer s H vs Q E (hr.deeper _) hsp
  have J : Inv (ncx (L2N.CX P w) P w K mg base N F f A outer s H E) [] (startF N vs ws) H { s with heap := h1, toks := s.toks + (ps.zip us).length } := inv_startN S hr.hd e0 hl r C hns kp
  refine PySem.W.kla_codeExpr (wpAny_mono (ht.run [] _ _ H Q J hq) (fun v s1 h1' => ?_) fun u s1 z => z)
  obtain ⟨y, H1, J1, ry, q1⟩ := h1'
  exact ⟨y, H1, J1.os, J1.bare, J1.base, J1.hok, ry, q1⟩
/-- .. it may be asked where its one cell is pinned -/
theorem askAt_cap {P : Program} {w : World} {K : PySem.W.Frag} {mg : Str → Option Value} {base : Heap} {k : Nat} {H : Hp} {f c : Addr} {F : NF} {e : Expr} {y : Str} {o : Obj} {u : Value} {v0 : V} {sp : Sp} (h1 : H f = some (LamO f F e)) (h2 : H F.c = some (CodeO F.c F.qual)) (h3 : H c = some (PinO c o))
    (hcl : F.cl = [(y, c)]) (hd : o.data = .cell (some u)) (hu : RelV v0 u) (L : LOkC P w K mg base k f F e [y] [some v0] sp)
    (hsp : ∀ vs H Q E, H c = some (PinO c o) → sp vs H Q E → sp vs (era H c) (fun v H' => Q v (upd H' c (PinO c o))) fun cls d H' => E cls d (upd H' c (PinO c o))) : AskAt P w K mg base k H f sp := by
  refine .inr ⟨F, e, fun H => H f = some (LamO f F e) ∧ H F.c = some (CodeO F.c F.qual) ∧ H c = some (PinO c o), ⟨h1, h2, h3⟩, fun H H' s g => ⟨s _ _ g.1 lamO_tbl, s _ _ g.2.1 codeO_ne, s _ _ g.2.2 pin_tbl⟩, fun H g => g.1, fun A outer s H us vs Q E hr e0 g r q => ?_⟩
  obtain ⟨g1, g2, g3⟩ := g
  have atC := pin_at e0.hok g3
  have nf : f ≠ c := fun z => by
    obtain ⟨od, sl, pm, ctv, at_⟩ := lamO_at e0.hok g1
    rw [z, atC] at at_
    have d : o.data = _ := congrArg Obj.data (Option.some.inj at_)
    rw [hd] at d
    cases d
  have nc : F.c ≠ c := fun z => by
    obtain ⟨⟨oc, vs, t, a1, a2, a3⟩, _⟩ := e0.hok _ _ g2
    rw [z, atC] at a1
    cases a1
    rw [hd] at a2
    cases a2
  have lk : ∀ z a, F.cl.lookup z = some a → z = y ∧ a = c := fun z a q => by
    rw [hcl] at q
    have := PySem.mem_of_lookup q
    have := List.mem_singleton.mp this
    cases this
    exact ⟨rfl, rfl⟩
  have C : CellsAt F.cl [y] [some v0] s.heap (era H c) := by
    refine ⟨rfl, fun z a q => ?_, fun x z a q1 q2 => (lk x a q1).1.trans (lk z a q2).1.symm, fun i z q => ?_⟩
    · obtain ⟨rfl, rfl⟩ := lk z a q
      exact ⟨era_same, _, o, atC, hd⟩
    · cases i with
      | zero =>
        cases q
        refine ⟨c, by rw [hcl]; simp [List.lookup], fun v ev => ?_⟩
        cases ev
        exact ⟨u, hu, o, atC, hd⟩
      | succ i => simp at q
  exact codeAny_mono (L.run A outer s (era H c) us vs _ _ hr (env_era e0 g3) (by rw [era_ne nf]; exact g1) (by rw [era_ne nc]; exact g2) C r (hsp vs H Q E g3 q)) fun rr s' x => cr_pin e0 g3 x
/-- x(..), while the cell of the def's name y (slot j) is pinned -/
def tCap (cells : List (Str × Addr)) (y : Str) (j : Nat) (sp : Sp) (t : TA) : TE := fun σ H Q => ∃ v0, σ[j]? = some (some v0) ∧ t σ H fun vs H1 => ∀ (c : Addr) (o : Obj) (u : Value), cells.lookup y = some c → H1 c = none → o.data = .cell (some u) → RelV v0 u → sp vs (upd H1 c (PinO c o)) (fun v H' => H' c = some (PinO c o) ∧ Q v (era H' c)) L2.E0
theorem pe_cap {X : Cx} {k l j : Nat} {f : Addr} {fd : FuncData} {ps : List Str} {x y : Str} {sp : Sp} {p pos : Pos} {e : Expr} {es : List Expr} {t : TA} (F : FnOk X.prog X.w X.K X.mg X.base L2.CX0 k f fd ps sp) (hm : X.mg x = some (.ref f)) (kp : PySem.W.keepIn X.K (.ref f) = true) (bd : Binds X.K fd ps []) (hr : Room l X.A) (hk : k ≤ l) (hg : Gl X x) (ha : PA X (e :: es) t)
    (hN : X.N[j]? = some y) (hy : X.env.scope.names.lookup y = some .cell) (hfn : X.fn = fun _ => true)
    (hdb : (x == ("__debug__" : Str)) = false := by decide) (he : starEach (e :: es) X.env = (false, eval e X.env) :: starEach es X.env := by rfl) (hpl : (backTo pos (starEach es X.env)).any (·.1) = false := by rfl) :
    PE X (.Call (.Name x p) (e :: es) [] pos) (tCap X.env.cells y j sp t) := by
  refine ⟨fun pins s σ H Q J h => ?_⟩
  obtain ⟨v0, hs, h⟩ := h
  refine wpAny_Call_Name_kw (ld_glob J hg hm ?_ hdb)
  refine PySem.W.callWith_K (h₀ := X.base) J.ok.mod.kin kp (thn (ha.run pos pins s σ H _ J h) fun us s1 ⟨vs, H1, J1, r, q⟩ => ⟨J1.kIn, ?_⟩) he hpl
  obtain ⟨c, hc⟩ := J1.ok.has y (.inl hy)
  obtain ⟨m, hn, hl⟩ := J1.loc
  obtain ⟨u, ru, lu⟩ := hl j y v0 hN hs (.inr (.inl hy))
  have cell : s1.heap.IsCell c (some u) := by
    rcases lu with ⟨z, _⟩ | ⟨_, a', ha', hcell⟩
    · have z' : X.env.scope.names.lookup y = some .local := z
      rw [hy] at z'
      cases z'
    · rw [hc] at ha'
      cases ha'
      exact hcell
  obtain ⟨o, ho, hd⟩ := cell
  have nC := J1.freeC y c hc
  have big : X.s_0.heap.objs.size ≤ c := J1.ok.cab y c (by rw [hfn]) hc
  have nfr : c ∉ frs X.stack := fun z => by
    rcases List.mem_cons.mp (J1.stkSub c z) with e1 | e1
    · obtain ⟨oL, es', ep, eL, dL, _⟩ := hn
      rw [← e1, ho] at eL
      cases eL
      rw [hd] at dL
      cases dL
    · obtain ⟨_, o', e', _⟩ := J1.ok.funs.mem e1
      exact Nat.lt_irrefl _ (Nat.lt_of_lt_of_le (Heap.lt_size e') big)
  have nb : ∀ b ob, X.base.get? b = some ob → b ≠ c := fun b ob z y => by
    rw [y] at z
    exact Nat.lt_irrefl _ (Nat.lt_of_lt_of_le (Heap.lt_size z) (Nat.le_trans J1.ok.bsz big))
  have e0 := J1.env0
  have e1 : Env0 X.prog X.w X.K X.mg X.base X.A X.stack s1 (upd H1 c (PinO c o)) :=
    ⟨e0.frames, e0.mod, fun b ob z => ⟨(e0.bs b ob z).1, by rw [upd_ne (nb b ob z)]; exact (e0.bs b ob z).2⟩, e0.bsz, e0.funs, fun b hb => by
      rw [upd_ne fun z => nfr (by rw [← z]; exact hb)]
      exact e0.frf b hb, hok_pin e0.hok nC ho, e0.bare⟩
  have hsp := q c o u hc nC hd ru
  have hlen : us.length = ps.length := by rw [← r.length]; exact F.len _ _ _ _ hsp
  have hb := bd s1 us J1.kIn (by rw [List.append_nil]; exact hlen)
  rw [List.append_nil] at hb
  refine wpAny_call (codeAny_mono (F.run X.A X.stack s1 _ ⟨us, []⟩ us vs _ L2.E0 (hr.mono hk) e1 hb r hsp) fun rr s2 hq => ?_)
  cases rr with
  | error er => exact False.elim hq
  | ok fl =>
    cases fl with
    | ret u2 => exact J1.after (ce_pin nC ho hq)
    | next => exact False.elim hq
    | brk => exact False.elim hq
    | cont => exact False.elim hq
end PR

namespace PP
open PySem PySem.Spec PyProof.Rows L2 SX PR PL
def topS (i : Nat) : Stmt := PySem.Challenge.pw_padleap_k09_whole_known.main.body.getD i (.Pass ⟨0, 0, 0, 0⟩)
abbrev s_PadError : Stmt := topS 1
abbrev s_BadStanding : Stmt := topS 2
abbrev s_BadPad : Stmt := topS 3
abbrev s_BadCount : Stmt := topS 4
abbrev s_BadNumber : Stmt := topS 5
abbrev s_TooMany : Stmt := topS 6
abbrev s_is_whole : Stmt := topS 10
abbrev s_asked_standing : Stmt := topS 11
abbrev s_asked_small : Stmt := topS 12
abbrev s_movers : Stmt := topS 13
abbrev s_moves : Stmt := topS 14
abbrev s_behind : Stmt := topS 15
abbrev s_moved : Stmt := topS 16
abbrev s_goal_of : Stmt := topS 17
abbrev s_goal : Stmt := topS 18
abbrev s_moves_left : Stmt := topS 19
abbrev s_exchange : Stmt := topS 20
abbrev s_mirrored : Stmt := topS 21
abbrev s_ways_of : Stmt := topS 23
abbrev s_Answer : Stmt := topS 24
abbrev s_Leads : Stmt := topS 25
abbrev s_Leads_init : Stmt := inClass (topS 25) 0
abbrev s_Leads_shows : Stmt := inClass (topS 25) 1
abbrev s_Never : Stmt := topS 26
abbrev s_Never_shows : Stmt := inClass (topS 26) 0
abbrev s_ways : Stmt := topS 28
abbrev s_way_of : Stmt := topS 29
abbrev s_way_by : Stmt := topS 30
abbrev s_led : Stmt := topS 31
abbrev s_come_by_all : Stmt := topS 32
abbrev s_come_by : Stmt := topS 33
abbrev s_stuck : Stmt := topS 34
abbrev s__law_refused : Stmt := topS 36
abbrev s__law_known_right : Stmt := topS 37
abbrev s__law_sixty_right : Stmt := topS 38
abbrev s__law_bad_right : Stmt := topS 39
abbrev s_law : Stmt := topS 40
end PP
/-! ### calls by name; the built-ins that the text does not hide -/
namespace PP
open PySem PySem.Spec PyProof.Rows L2 SX PR PL
section
variable {P : Program} {w : World} {K : PySem.W.Frag} {mg : Str → Option Value} {base : Heap}
/-- a def of the text under its name, its parameters ps -/
structure Df (K : PySem.W.Frag) (mg : Str → Option Value) (x : Str) (st : Stmt) (ps : List Str) : Prop where
  ex : ∃ (f : Addr) (fd : FuncData), L2.Fun K x x st f fd ∧ Binds K fd ps [] ∧ mg x = some (.ref f)
/-- a def that may be called by its name and keeps sp; nothing that is raised leaves it -/
structure Cal (P : Program) (w : World) (K : PySem.W.Frag) (mg : Str → Option Value) (base : Heap) (k : Nat) (x : Str) (sp : Sp) : Prop where
  ex : ∃ (f : Addr) (fd : FuncData) (ps : List Str), FnOk P w K mg base L2.CX0 k f fd ps sp ∧ mg x = some (.ref f) ∧ PySem.W.keepIn K (.ref f) = true ∧ Binds K fd ps []
theorem cal_of {x : Str} {st : Stmt} {N ps : List Str} {k : Nat} {sp : Sp} (D : Df K mg x st ps) (S : FnScope N ps (defScope st)) (len : ∀ vs H Q E, sp vs H Q E → vs.length = ps.length)
    (hbody : ∀ (f : Addr) (cdv : Value) (A : Around) (outer : List Env) (s : Shared) (H : Hp) (vs : List V) (Q : VK) (E : XK), Room k (A.deeper (envOfC x (defScope st) s.heap.objs.size f cdv)) → sp vs H Q E →
      ∃ t, PSs (cxOf L2.CX0 P w K mg base N x (defScope st) f cdv A outer s H E).nox (defBody st) t ∧ t { nx := fun _ H' => Q .non H', rt := Q } (start N vs) H) : Cal P w K mg base (k + 1) x sp := by
  obtain ⟨f, fd, F, b, g⟩ := D.ex
  exact ⟨f, fd, ps, F.ok S len (hbody f), g, F.kp, b⟩
theorem Cal.imp {x : Str} {k : Nat} {sp sp' : Sp} (c : Cal P w K mg base k x sp) (h : ∀ vs H Q E, sp' vs H Q E → sp vs H Q E) : Cal P w K mg base k x sp' := by
  obtain ⟨f, fd, ps, F, g, kp, b⟩ := c.ex
  exact ⟨f, fd, ps, F.imp h, g, kp, b⟩
/-- the built-ins' names that no name of the module hides -/
structure Bl (mg : Str → Option Value) : Prop where
  isi : mg "isinstance" = none
  int : mg "int" = none
  bool : mg "bool" = none
  str : mg "str" = none
  len : mg "len" = none
  all : mg "all" = none
  any : mg "any" = none
  list : mg "list" = none
  range : mg "range" = none
  enum : mg "enumerate" = none
  sum : mg "sum" = none
  abs : mg "abs" = none
  sorted : mg "sorted" = none
  tuple : mg "tuple" = none
  verr : mg "ValueError" = none
end
section
variable {X : Cx} {k j : Nat} {x : Str} {sp : Sp} {p pos : Pos} {e : Expr} {es : List Expr} {t : TA}
theorem pe_c (c : Cal X.prog X.w X.K X.mg X.base k x sp) (hr : Room j X.A) (hk : k ≤ j) (hg : Gl X x) (ha : PA X (e :: es) t)
    (hdb : (x == ("__debug__" : Str)) = false := by decide) (he : starEach (e :: es) X.env = (false, eval e X.env) :: starEach es X.env := by rfl) (hpl : (backTo pos (starEach es X.env)).any (·.1) = false := by rfl) :
    PE X (.Call (.Name x p) (e :: es) [] pos) (tCall sp [] L2.E0 t) := by
  obtain ⟨f, fd, ps, F, hm, kp, b⟩ := c.ex
  exact pe_call F (hr.mono hk) hg hm kp b .nil L2.pass0 ha hdb he hpl
/-- isinstance(e, T), T a built-in type -/
theorem pe_isi {T : String} {a : Expr} {ta : TE} {y : Str} {p1 p2 : Pos} (h1 : X.mg "isinstance" = none) (h2 : X.mg y = none) (g1 : Gl X "isinstance") (g2 : Gl X y) (ha : PE X a ta) (hb : bootBuiltins y = some (.type T))
    (hn : y ≠ "__name__" := by decide) (hd : (y == ("__debug__" : Str)) = false := by decide)
    (s1 : starEach [a, .Name y p2] X.env = (false, eval a X.env) :: starEach [.Name y p2] X.env := by rfl) (s2 : starEach [.Name y p2] X.env = (false, eval (.Name y p2) X.env) :: starEach [] X.env := by rfl) (hpl : (backTo pos (starEach [.Name y p2] X.env)).any (·.1) = false := by rfl) :
    PE X (.Call (.Name "isinstance" p1) [a, .Name y p2] [] pos) (tCB (rIsi X.K) (tCons ta (tCons (tC (.ty T)) tNil))) :=
  pe_callB call_isi g1 h1 (by decide +kernel) (pa_cons ha (pa_cons (pe_bltn (v := .ty T) g2 h2 hb rfl hn hd) pa_nil s2) s1) (he := s1) (hpl := hpl)
end
theorem same_upd {H : Hp} {p : Addr} {o : HO} (h : H p = none) : Same H (upd H p o) := fun b x e => by
  rw [upd_ne (ne_of_none e h)]
  exact e
/-- a new object that was changed further: what stood before stands -/
theorem same_upd2 {H H' : Hp} {p : Addr} {o : HO} (s : Same H H') (h : H p = none) : Same H (upd H' p o) := fun b x e => by
  rw [upd_ne (ne_of_none e h)]
  exact s _ _ e
theorem ifT {c : Bool} {A B : Prop} (hc : c = true) (h : A) : if c = true then A else B := by
  rw [if_pos hc]
  exact h
theorem ifF {c : Bool} {A B : Prop} (hc : c = false) (h : B) : if c = true then A else B := by
  rw [if_neg (by rw [hc]; exact Bool.false_ne_true)]
  exact h
/-- a test with both ways open -/
theorem ifB {c : Bool} {A B : Prop} (h1 : c = true → A) (h2 : c = false → B) : if c = true then A else B := by
  cases c with
  | true => exact ifT rfl (h1 rfl)
  | false => exact ifF rfl (h2 rfl)
theorem s_a : Str.ofString "a" = S [97] := by decide +kernel
theorem s_b : Str.ofString "b" = S [98] := by decide +kernel
theorem s_dot : Str.ofString "." = S [46] := by decide +kernel
theorem s_ab : Str.ofString "ab" = S [97, 98] := by decide +kernel
theorem s_nil : Str.ofString "" = S [] := by decide +kernel
theorem small {n : Nat} (h : n ≤ 1000) : n ≤ sizeLine := Nat.le_of_lt (L2.small1000 h)
theorem dec_str (a b : List Nat) : decide (V.str (S a) = V.str (S b)) = decide (a = b) := by
  by_cases h : a = b
  · subst h; simp
  · rw [decide_eq_false h, decide_eq_false fun e => h (S_inj (V.str.inj e))]
end PP

/-! ### a standing's text -/
namespace PP
open PySem PySem.Spec PyProof.Rows L2 SX PR PL
section
variable {P : Program} {w : World} {K : PySem.W.Frag} {mg : Str → Option Value} {base : Heap}
/-- a standing's text -/
abbrev tx (z : Zp) : V := .str (S (cps z))
end
end PP

/-! ### is_whole -/
namespace PP
open PySem PySem.Spec PyProof.Rows L2 SX PR PL
section
variable {P : Program} {w : World} {K : PySem.W.Frag} {mg : Str → Option Value} {base : Heap}
/-- is_whole(thing), of anything whose type is known -/
def spWhole (K : PySem.W.Frag) : Sp := fun vs H Q _ => ∃ (v : V) (a : String) (r1 r2 : Bool), vs = [v] ∧ TyX K H v (.type a) ∧ kitB a "int" = some r1 ∧ kitB a "bool" = some r2 ∧ Q (.bl (r1 && !r2)) H
theorem sc_whole : FnScope ["thing"] ["thing"] (defScope s_is_whole) := ⟨rfl, rfl, rfl, by decide +kernel, rfl, by decide +kernel, by decide +kernel⟩
theorem c_whole (D : Df K mg "is_whole" s_is_whole ["thing"]) (T : Bl mg) : Cal P w K mg base 1 "is_whole" (spWhole K) := by
  refine cal_of D sc_whole (fun vs H Q E h => ?_) (fun f cdv A outer s H vs Q E hr h => ?_)
  · obtain ⟨v, a, r1, r2, rfl, _⟩ := h
    rfl
  · obtain ⟨v, a, r1, r2, rfl, ty, k1, k2, q⟩ := h
    refine ⟨_, pss_one (ps_ret (pe_and (pe_isi (T := "int") T.isi T.int (by rfl) (by rfl) (pv 0) (by decide +kernel)) (pe_one (pe_not (pe_isi (T := "bool") T.isi T.bool (by rfl) (by rfl) (pv 0) (by decide +kernel)))))), ?_⟩
    refine ⟨v, rfl, v, .ty "int", .type a, .type "int", r1, rfl, .ty _, ty, kit_ty k1, r1, rfl, ?_⟩
    cases r1 with
    | true =>
      refine iteT ?_
      exact ⟨v, rfl, v, .ty "bool", .type a, .type "bool", r2, rfl, .ty _, ty, kit_ty k2, r2, rfl, q⟩
    | false => exact iteF q
end
end PP

/-! ### asked_standing -/
namespace PP
open PySem PySem.Spec PyProof.Rows L2 SX PR PL
section
variable {P : Program} {w : World} {K : PySem.W.Frag} {mg : Str → Option Value} {base : Heap}
/-- asked_standing of a standing: nothing -/
def spAsked : Sp := fun vs H Q _ => ∃ z : Zp, vs = [tx z] ∧ pads z ≤ 60 ∧ ∀ H', Same H H' → Q .non H'
theorem sc_asked : FnScope ["standing", "sign"] ["standing"] (defScope s_asked_standing) := ⟨rfl, rfl, rfl, by decide +kernel, rfl, by decide +kernel, by decide +kernel⟩
theorem cps_in (z : Zp) {i c : Nat} (h : (cps z)[i]? = some c) : c = 97 ∨ c = 98 ∨ c = 46 := by
  have hm := List.mem_of_getElem? h
  unfold cps at hm
  rcases List.mem_append.mp hm with hm | hm
  · obtain ⟨x, _, e⟩ := List.mem_map.mp hm
    cases x <;> simp [sg] at e <;> omega
  · rcases List.mem_cons.mp hm with hm | hm
    · exact .inr (.inr hm)
    · obtain ⟨x, _, e⟩ := List.mem_map.mp hm
      cases x <;> simp [sg] at e <;> omega
theorem cps_count_dot (z : Zp) : (cps z).count 46 = 1 := by
  unfold cps
  rw [List.count_append, List.count_cons, List.count_eq_zero_of_not_mem (map_sg_no _), List.count_eq_zero_of_not_mem (map_sg_no _)]
  rfl
theorem c_asked (D : Df K mg "asked_standing" s_asked_standing ["standing"]) (T : Bl mg) (hM : ∃ t, mg "MOST" = some (.int 60 t)) : Cal P w K mg base 1 "asked_standing" spAsked := by
  obtain ⟨tM, hM⟩ := hM
  refine cal_of D sc_asked (fun vs H Q E h => ?_) (fun f cdv A outer s H vs Q E hr h => ?_)
  · obtain ⟨z, rfl, _⟩ := h
    rfl
  · obtain ⟨z, rfl, hp, q⟩ := h
    have hl : (S (cps z)).length = pads z := by rw [S_len, cps_len]
    have hp1 : 1 ≤ pads z := by unfold pads; omega
    refine ⟨_, pss_cons (ps_if (PW.pt (pw_or (pt_not (pt_val (pe_isi (T := "str") T.isi T.str (by rfl) (by rfl) (pv 0) (by decide +kernel))))
        (pw_or1 (pt_not (pt_chain op_le op_le pe_int (pe_callB call_len_str (by rfl) T.len PySem.boot_len (pa_cons (pv 0) pa_nil)) (pe_glob (v := .int 60) (by rfl) hM ⟨_, rfl⟩)))))) (pss_one ps_never) pss_nil)
      (pss_one (ps_if (PW.pt (pw_or (pt_not (pt_val (pe_callB (cr_all rfl) (by rfl) T.all (by decide +kernel) (pa_cons
          (pe_lc (own := [("sign", 1)]) (g := gName 1) (tt := tYes) (by rfl) sc_asked.nd (pi_str (pv 0)) (blkOk_by (own := [("sign", 1)]) (N := ["standing", "sign"]) (sc := defScope s_asked_standing) (by decide +kernel))
            (fun _ _ _ _ _ => pg_name (i := 1) sc_asked.nd rfl (Or.inl rfl)) (fun _ _ _ _ _ => pts_nil)
            (fun _ _ _ _ _ => pe_cmpR (r := rIn K false) op_in_seq (pv 1) (pe_tup (pa_cons pe_str (pa_cons pe_str (pa_cons pe_str pa_nil)))) (by rfl))) pa_nil))))
        (pw_or1 (pt_cmpR op_ne (pe_m1 PySem.F.slot_str_count PySem.F.type_str_count mt_count (pv 0) pe_str) pe_int (nomark _))))) (pss_one ps_never) pss_nil)), ?_⟩
    refine ⟨tx z, rfl, tx z, .ty "str", .type "str", .type "str", true, rfl, .ty _, .base (.str _), kit_ty (by decide +kernel), true, rfl, ?_⟩
    refine iteF ?_
    refine ⟨tx z, rfl, _, rfl, small (by rw [hl]; omega), 1, _, rfl, rfl, _, rfl, ?_⟩
    refine ifT (decide_eq_true (by rw [hl]; omega)) ?_
    refine ⟨_, 60, rfl, rfl, _, rfl, ?_⟩
    refine ifF (by rw [decide_eq_true (show ((S (cps z)).length : Int) ≤ 60 by rw [hl]; omega)]; rfl) ?_
    -- all([sign in (..) for sign in standing])
    refine ⟨tx z, rfl, S (cps z), rfl, fun D nD => ?_⟩
    refine lc_it (walk_strL (l := cps z)) (fun i H' => Same H H' ∧ H' D = some (.lst (List.replicate i (V.bl true)))) ⟨same_upd nD, upd_same⟩ (fun _ _ _ _ => trivial) ?_ ?_
    · rintro i x H1 H2 hi ⟨s1, h1⟩ ⟨rfl, c, hc, rfl⟩
      refine ⟨rfl, _, rfl, (by show 3 ≤ sizeLine; decide), fun t nt => ⟨t, _, rfl, .inr (SqT.of upd_same), rfl, rfl, ?_⟩⟩
      have nDt : D ≠ t := ne_of_none h1 nt
      refine ⟨_, by rw [upd_ne nDt]; exact h1, ?_, ?_, ?_⟩
      · rw [List.length_replicate]
        exact L2.small1000 (by rw [cps_len] at hi; omega)
      · exact same_upd2 (same_upd2 s1 (s1.free nt)) nD
      · have e : inV (V.str (S [c])) [V.str (Str.ofString "a"), V.str (Str.ofString "b"), V.str (Str.ofString ".")] = true := by
          rw [s_a, s_b, s_dot]
          rcases cps_in z hc with rfl | rfl | rfl <;> decide +kernel
        rw [upd_same, List.replicate_succ']
        show some (HO.lst (List.replicate i (V.bl true) ++ [V.bl (inV (V.str (S [c])) [V.str (Str.ofString "a"), V.str (Str.ofString "b"), V.str (Str.ofString ".")])])) = _
        rw [e]
    · rintro H1 ⟨s1, h1⟩
      refine ⟨D, List.replicate (cps z).length true, rfl, SqL.of (by rw [h1, List.map_replicate]), _, rfl, ?_⟩
      refine ifF (by simp) ?_
      refine ⟨tx z, rfl, ⟨_, rfl⟩, _, _, rfl, rfl, rfl, _, rfl, ?_⟩
      refine ifF ?_ (q _ s1)
      rw [s_dot, count_S, cps_count_dot]
      rfl
end
end PP

/-! ### movers -/
namespace PP
open PySem PySem.Spec PyProof.Rows L2 SX PR PL
section
variable {P : Program} {w : World} {K : PySem.W.Frag} {mg : Str → Option Value} {base : Heap}
abbrev nV (n : Nat) : V := .int (n : Nat)
/-- a new list of the pads whose leapers can move -/
def spMovers : Sp := fun vs H Q _ => ∃ z : Zp, vs = [tx z] ∧ pads z ≤ 60 ∧ ∀ H' p, Same H H' → H p = none → H' p = some (.lst ((movers z).map nV)) → Q (.ref p) H'
theorem sc_movers : FnScope ["standing", "free", "found"] ["standing"] (defScope s_movers) := ⟨rfl, rfl, rfl, by decide +kernel, rfl, by decide +kernel, by decide +kernel⟩
/-- the list so far, one more behind a test -/
def opt (c : Bool) (n : Nat) : List Nat := if c = true then [n] else []
theorem opt_t {c : Bool} {n : Nat} (h : c = true) : opt c n = [n] := if_pos h
theorem opt_f {c : Bool} {n : Nat} (h : c = false) : opt c n = [] := if_neg (by rw [h]; exact Bool.false_ne_true)
theorem opt_len (c : Bool) (n : Nat) : (opt c n).length ≤ 1 := by cases c <;> simp [opt]
theorem len4 (a b c d : List Nat) (h1 : a.length ≤ 1) (h2 : b.length ≤ 1) (h3 : c.length ≤ 1) (h4 : d.length ≤ 1) : ((a ++ b ++ c ++ d).map nV).length < sizeLine := L2.small1000 (by simp; omega)
theorem snoc_nV (l : List Nat) (n : Nat) : l.map nV ++ [nV n] = (l ++ [n]).map nV := by rw [List.map_append]; rfl
theorem c_movers (D : Df K mg "movers" s_movers ["standing"]) : Cal P w K mg base 1 "movers" spMovers := by
  refine cal_of D sc_movers (fun vs H Q E h => ?_) (fun f cdv A outer s H vs Q E hr h => ?_)
  · obtain ⟨z, rfl, _⟩ := h
    rfl
  · obtain ⟨z, rfl, hp, q⟩ := h
    have hl : (S (cps z)).length = pads z := by rw [S_len, cps_len]
    have hlz : (S (cps z)).length ≤ sizeLine := small (by omega)
    have hfr : fr z < pads z := by unfold fr pads; omega
    refine ⟨_, pss_cons (ps_par (i := 1) (j := 2) (by rfl) sc_movers.nd rfl rfl (by decide) rfl rfl (pa_cons (pe_m1 PySem.F.slot_str_index PySem.F.type_str_index mt_sindex (pv 0) pe_str) (pa_cons (pe_lst pa_nil) pa_nil)) (by rfl))
      (C8.pss_cut (ps_if (PW.pt (pw_and (pt_cmpR op_gt (pv 1) pe_int (nomark _)) (pw_and1 (pt_cmpR op_eq (pe_slice sl_str (pv 0) (po_some (pe_op op_sub (pv 1) pe_int)) (po_some (pv 1))) pe_str (nomark _)))))
          (pss_one (ps_expr (pe_bm PySem.F.plainAttrs_list PySem.F.slot_list_append PySem.F.type_list_append mt_append (pv 2) (pa_cons (pe_op op_sub (pv 1) pe_int) pa_nil)))) pss_nil)
      (C8.pss_cut (ps_if (PW.pt (pw_and (pt_cmpR op_gt (pv 1) pe_int (nomark _)) (pw_and1 (pt_cmpR op_eq (pe_item_str (pv 0) (pe_op op_sub (pv 1) pe_int) (fun _ _ => rfl)) pe_str (nomark _)))))
          (pss_one (ps_expr (pe_bm PySem.F.plainAttrs_list PySem.F.slot_list_append PySem.F.type_list_append mt_append (pv 2) (pa_cons (pe_op op_sub (pv 1) pe_int) pa_nil)))) pss_nil)
      (C8.pss_cut (ps_if (pt_cmpR op_eq (pe_slice sl_str (pv 0) (po_some (pe_op op_add (pv 1) pe_int)) (po_some (pe_op op_add (pv 1) pe_int))) pe_str (nomark _))
          (pss_one (ps_expr (pe_bm PySem.F.plainAttrs_list PySem.F.slot_list_append PySem.F.type_list_append mt_append (pv 2) (pa_cons (pe_op op_add (pv 1) pe_int) pa_nil)))) pss_nil)
      (C8.pss_cut (ps_if (pt_cmpR op_eq (pe_slice sl_str (pv 0) (po_some (pe_op op_add (pv 1) pe_int)) (po_some (pe_op op_add (pv 1) pe_int))) pe_str (nomark _))
          (pss_one (ps_expr (pe_bm PySem.F.plainAttrs_list PySem.F.slot_list_append PySem.F.type_list_append mt_append (pv 2) (pa_cons (pe_op op_add (pv 1) pe_int) pa_nil)))) pss_nil)
      (pss_one (ps_ret (pv 2))))))), ?_⟩
    -- free, found = standing.index('.'), []
    obtain ⟨r, hocc⟩ := occ_at (cps z) 46 (fr z) (cps_free z) (fun k hk => cps_before z hk)
    rw [← s_dot] at hocc
    refine ⟨tx z, rfl, ⟨_, rfl⟩, _, _, fr z, r, rfl, rfl, hocc, Nat.zero_le _, fun p np => ⟨_, _, rfl, ?_⟩⟩
    have s0 : Same H (upd H p (.lst [])) := same_upd np
    -- if free > 1 and standing[free - 2:free] == 'ab'
    refine ⟨fun σ' H' => σ' = [some (tx z), some (nV (fr z)), some (.ref p)] ∧ Same H H' ∧ H' p = some (.lst ((opt (c1 z) (fr z - 2)).map nV)), ?_, ?_⟩
    · have fin : c1 z = false → ([some (tx z), some (nV (fr z)), some (V.ref p)] : L2.St) = [some (tx z), some (nV (fr z)), some (.ref p)] ∧ Same H (upd H p (.lst [])) ∧ (upd H p (.lst [])) p = some (.lst ((opt (c1 z) (fr z - 2)).map nV)) := fun e => by
        rw [opt_f e]
        exact ⟨rfl, s0, upd_same⟩
      refine ⟨_, rfl, _, _, rfl, rfl, _, rfl, ifB (fun e => ?_) (fun e => ?_)⟩
      · have h1 : 1 < fr z := by have := of_decide_eq_true e; omega
        refine ⟨tx z, rfl, _, rfl, _, _, rfl, rfl, _, rfl, _, rfl, _, rfl, _, rfl, hlz, rfl, _, rfl, ?_⟩
        have ec : decide (V.str (cutS (S (cps z)) (some ((fr z : Int) - 2)) (some (fr z : Int))) = V.str (Str.ofString "ab")) = c1 z := by
          rw [show ((fr z : Int) - 2) = ((fr z - 2 : Nat) : Int) by omega, cutS_nn, s_ab, dec_str, show fr z - (fr z - 2) = 2 by omega]
          unfold c1
          rw [decide_eq_true h1, Bool.true_and]
        refine ifB (fun e2 => ?_) (fun e2 => fin (ec.symm.trans e2))
        refine ⟨.ref p, rfl, .inl ⟨rfl, _, SqL.of upd_same⟩, _, rfl, _, _, rfl, rfl, p, _, _, rfl, rfl, upd_same, (by decide), ?_⟩
        refine ⟨rfl, same_upd2 s0 np, ?_⟩
        rw [upd_same, opt_t (ec.symm.trans e2)]
        show some (HO.lst [V.int ((fr z : Int) - 2)]) = some (HO.lst [V.int ((fr z - 2 : Nat) : Int)])
        rw [show ((fr z : Int) - 2) = ((fr z - 2 : Nat) : Int) by omega]
      · have h1 : ¬ 1 < fr z := by have := of_decide_eq_false e; omega
        exact ifF rfl (fin (by unfold c1; rw [decide_eq_false h1]; rfl))
    rintro _ H1 ⟨rfl, s1, h1⟩
    -- if free > 0 and standing[free - 1] == 'a'
    refine ⟨fun σ' H' => σ' = [some (tx z), some (nV (fr z)), some (.ref p)] ∧ Same H H' ∧ H' p = some (.lst ((opt (c1 z) (fr z - 2) ++ opt (c2 z) (fr z - 1)).map nV)), ?_, ?_⟩
    · have fin : c2 z = false → ([some (tx z), some (nV (fr z)), some (V.ref p)] : L2.St) = [some (tx z), some (nV (fr z)), some (.ref p)] ∧ Same H H1 ∧ H1 p = some (.lst ((opt (c1 z) (fr z - 2) ++ opt (c2 z) (fr z - 1)).map nV)) := fun e => by
        rw [opt_f e, List.append_nil]
        exact ⟨rfl, s1, h1⟩
      refine ⟨_, rfl, _, _, rfl, rfl, _, rfl, ifB (fun e => ?_) (fun e => ?_)⟩
      · have h0 : 0 < fr z := by have := of_decide_eq_true e; omega
        have ei : ((fr z : Int) - 1) = ((fr z - 1 : Nat) : Int) := by omega
        obtain ⟨c, hc⟩ : ∃ c, (cps z)[fr z - 1]? = some c := ⟨_, List.getElem?_eq_getElem (by rw [cps_len]; omega)⟩
        refine ⟨tx z, rfl, _, rfl, _, _, rfl, rfl, S (cps z), _, c, rfl, rfl, (by omega), (by omega), (by rw [hl]; omega), ?_, rfl, _, rfl, ?_⟩
        · rw [ei, Int.toNat_natCast]
          simpa using hc
        have ec : decide (V.str (⟨#[c]⟩ : Str) = V.str (Str.ofString "a")) = c2 z := by
          rw [s_a, show (⟨#[c]⟩ : Str) = S [c] from rfl, dec_str]
          unfold c2
          rw [decide_eq_true h0, Bool.true_and, hc]
          simp
        refine ifB (fun e2 => ?_) (fun e2 => fin (ec.symm.trans e2))
        refine ⟨.ref p, rfl, .inl ⟨rfl, _, SqL.of h1⟩, _, rfl, _, _, rfl, rfl, p, _, _, rfl, rfl, h1, ?_, ?_⟩
        · have := len4 (opt (c1 z) (fr z - 2)) [] [] [] (opt_len _ _) (by simp) (by simp) (by simp)
          simpa using this
        refine ⟨rfl, same_upd2 s1 np, ?_⟩
        rw [upd_same, opt_t (ec.symm.trans e2), List.map_append]
        show some (HO.lst (_ ++ [V.int ((fr z : Int) - 1)])) = some (HO.lst (_ ++ [V.int ((fr z - 1 : Nat) : Int)]))
        rw [ei]
      · have h0 : ¬ 0 < fr z := by have := of_decide_eq_false e; omega
        exact ifF rfl (fin (by unfold c2; rw [decide_eq_false h0]; rfl))
    rintro _ H2 ⟨rfl, s2, h2⟩
    -- if standing[free + 1:free + 2] == 'b'
    refine ⟨fun σ' H' => σ' = [some (tx z), some (nV (fr z)), some (.ref p)] ∧ Same H H' ∧ H' p = some (.lst ((opt (c1 z) (fr z - 2) ++ opt (c2 z) (fr z - 1) ++ opt (c3 z) (fr z + 1)).map nV)), ?_, ?_⟩
    · refine ⟨tx z, rfl, _, rfl, _, _, rfl, rfl, _, rfl, _, rfl, _, _, rfl, rfl, _, rfl, _, rfl, hlz, rfl, _, rfl, ?_⟩
      have ec : decide (V.str (cutS (S (cps z)) (some ((fr z : Int) + 1)) (some ((fr z : Int) + 2))) = V.str (Str.ofString "b")) = c3 z := by
        rw [show ((fr z : Int) + 1) = ((fr z + 1 : Nat) : Int) by omega, show ((fr z : Int) + 2) = ((fr z + 2 : Nat) : Int) by omega, cutS_nn, s_b, dec_str, show fr z + 2 - (fr z + 1) = 1 by omega]
        rfl
      refine ifB (fun e2 => ?_) (fun e2 => ?_)
      · refine ⟨.ref p, rfl, .inl ⟨rfl, _, SqL.of h2⟩, _, rfl, _, _, rfl, rfl, p, _, _, rfl, rfl, h2, ?_, ?_⟩
        · have := len4 (opt (c1 z) (fr z - 2)) (opt (c2 z) (fr z - 1)) [] [] (opt_len _ _) (opt_len _ _) (by simp) (by simp)
          simpa using this
        refine ⟨rfl, same_upd2 s2 np, ?_⟩
        rw [upd_same, opt_t (ec.symm.trans e2)]
        exact congrArg (fun x => some (HO.lst x)) (snoc_nV _ _)
      · have e3 : c3 z = false := ec.symm.trans e2
        refine ⟨rfl, s2, ?_⟩
        rw [opt_f e3, List.append_nil]
        exact h2
    rintro _ H3 ⟨rfl, s3, h3⟩
    -- if standing[free + 1:free + 3] == 'ab'
    refine ⟨fun σ' H' => σ' = [some (tx z), some (nV (fr z)), some (.ref p)] ∧ Same H H' ∧ H' p = some (.lst ((opt (c1 z) (fr z - 2) ++ opt (c2 z) (fr z - 1) ++ opt (c3 z) (fr z + 1) ++ opt (c4 z) (fr z + 2)).map nV)), ?_, ?_⟩
    · refine ⟨tx z, rfl, _, rfl, _, _, rfl, rfl, _, rfl, _, rfl, _, _, rfl, rfl, _, rfl, _, rfl, hlz, rfl, _, rfl, ?_⟩
      have ec : decide (V.str (cutS (S (cps z)) (some ((fr z : Int) + 1)) (some ((fr z : Int) + 3))) = V.str (Str.ofString "ab")) = c4 z := by
        rw [show ((fr z : Int) + 1) = ((fr z + 1 : Nat) : Int) by omega, show ((fr z : Int) + 3) = ((fr z + 3 : Nat) : Int) by omega, cutS_nn, s_ab, dec_str, show fr z + 3 - (fr z + 1) = 2 by omega]
        rfl
      refine ifB (fun e2 => ?_) (fun e2 => ?_)
      · refine ⟨.ref p, rfl, .inl ⟨rfl, _, SqL.of h3⟩, _, rfl, _, _, rfl, rfl, p, _, _, rfl, rfl, h3, ?_, ?_⟩
        · have := len4 (opt (c1 z) (fr z - 2)) (opt (c2 z) (fr z - 1)) (opt (c3 z) (fr z + 1)) [] (opt_len _ _) (opt_len _ _) (opt_len _ _) (by simp)
          simpa using this
        refine ⟨rfl, same_upd2 s3 np, ?_⟩
        rw [upd_same, opt_t (ec.symm.trans e2)]
        exact congrArg (fun x => some (HO.lst x)) (snoc_nV _ _)
      · have e3 : c4 z = false := ec.symm.trans e2
        refine ⟨rfl, s3, ?_⟩
        rw [opt_f e3, List.append_nil]
        exact h3
    rintro _ H4 ⟨rfl, s4, h4⟩
    have em : opt (c1 z) (fr z - 2) ++ opt (c2 z) (fr z - 1) ++ opt (c3 z) (fr z + 1) ++ opt (c4 z) (fr z + 2) = movers z := (movers_read z).symm
    rw [em] at h4
    exact ⟨.ref p, rfl, q H4 p s4 np h4⟩
end
end PP

/-! ### behind -/
namespace PP
open PySem PySem.Spec PyProof.Rows L2 SX PR PL
section
variable {P : Program} {w : World} {K : PySem.W.Frag} {mg : Str → Option Value} {base : Heap}
/-- the standing behind the move of a pad's leaper -/
def spBehind : Sp := fun vs H Q _ => ∃ (z : Zp) (p : Nat) (y : Zp), vs = [tx z, nV p] ∧ (p, y) ∈ next z ∧ pads z ≤ 60 ∧ ∀ H', Same H H' → Q (tx y) H'
theorem sc_behind : FnScope ["standing", "pad", "signs", "free"] ["standing", "pad"] (defScope s_behind) := ⟨rfl, rfl, rfl, by decide +kernel, rfl, by decide +kernel, by decide +kernel⟩
theorem ixN_of {n j : Nat} (h : j < n) : ixN n (j : Int) = some j := by
  unfold ixN
  rw [if_pos (by omega), if_pos (by omega), Int.toNat_natCast]
abbrev sV (c : Nat) : V := .str (S [c])
theorem sV_map (l : List Nat) : l.map sV = (l.map fun c => S [c]).map V.str := by rw [List.map_map]; rfl
theorem c_behind (D : Df K mg "behind" s_behind ["standing", "pad"]) (T : Bl mg) : Cal P w K mg base 1 "behind" spBehind := by
  refine cal_of D sc_behind (fun vs H Q E h => ?_) (fun f cdv A outer s H vs Q E hr h => ?_)
  · obtain ⟨z, p, y, rfl, _⟩ := h
    rfl
  · obtain ⟨z, p, y, rfl, hy, hp, q⟩ := h
    refine ⟨_, pss_cons (ps_set (i := 2) sc_behind.nd rfl (.inl rfl) (pe_callTy (call_list_txt rfl) (by rfl) T.list (by decide +kernel) (pa_cons (pv 0) pa_nil)))
      (pss_cons (ps_set (i := 3) sc_behind.nd rfl (.inl rfl) (pe_m1 PySem.F.slot_str_index PySem.F.type_str_index mt_sindex (pv 0) pe_str))
      (pss_cons (ps_asg (pe_tup (pa_cons (pe_ix ix_list (pv 2) (pv 1) (fun _ _ => rfl)) (pa_cons pe_str pa_nil))) (pg_tup rfl (pgs_cons (pg_sub (pv 2) (pv 3) set_list) (pgs_cons (pg_sub (pv 2) (pv 1) set_list) pgs_nil))))
      (pss_one (ps_ret (pe_join pe_str (pv 2)))))), ?_⟩
    have hlen := cps_len z
    have hfr : fr z < pads z := by unfold fr pads; omega
    have hpl : p < pads z := next_lt hy
    have hne : p ≠ fr z := next_ne hy
    obtain ⟨c, hc, _, ec⟩ := behind_at hy
    obtain ⟨r, hocc⟩ := occ_at (cps z) 46 (fr z) (cps_free z) (fun k hk => cps_before z hk)
    rw [← s_dot] at hocc
    refine ⟨tx z, rfl, cps z, rfl, small (by omega), fun l nl => ?_⟩
    refine ⟨tx z, rfl, ⟨_, rfl⟩, _, _, fr z, r, rfl, rfl, hocc, ?_⟩
    have hg : ((cps z).map sV)[p]? = some (sV c) := by rw [List.getElem?_map, hc]; rfl
    refine ⟨.ref l, rfl, nV p, rfl, l, (cps z).map sV, (p : Int), sV c, rfl, rfl, SqL.of upd_same, atI_nat hg, (by show 2 ≤ sizeLine; decide), fun t nt => ?_⟩
    have nlt : l ≠ t := fun e => by rw [← e, upd_same] at nt; cases nt
    have nt0 : H t = none := (same_upd nl).free nt
    have hl1 : (upd (upd H l (.lst ((cps z).map sV))) t (.tup [sV c, .str (Str.ofString ".")])) l = some (.lst ((cps z).map sV)) := by
      rw [upd_ne nlt, upd_same]
    refine ⟨t, [sV c, .str (Str.ofString ".")], rfl, SqT.of upd_same, rfl, sV c, [.str (Str.ofString ".")], rfl, ?_⟩
    refine ⟨.ref l, rfl, nV (fr z), rfl, l, _, _, fr z, rfl, rfl, hl1, ixN_of (by rw [List.length_map]; omega), ?_⟩
    refine ⟨.str (Str.ofString "."), [], rfl, ?_⟩
    refine ⟨.ref l, rfl, nV p, rfl, l, _, _, p, rfl, rfl, upd_same, ixN_of (by rw [List.length_set, List.length_map]; omega), rfl, ?_⟩
    have ey : (((cps z).map sV).set (fr z) (sV c)).set p (.str (Str.ofString ".")) = ((cps y).map fun c => S [c]).map V.str := by
      rw [← sV_map, ← ec, s_dot, List.map_set, List.map_set]
    refine ⟨⟨_, rfl⟩, .ref l, rfl, Str.ofString "", l, (cps y).map fun c => S [c], rfl, rfl, .inl (SqL.of (by rw [upd_same, ey])), ?_, ?_⟩
    · have h1 : (cps y).length ≤ 60 := by rw [cps_len, next_pads hy]; exact hp
      have h2 := join_size (cps y) (by omega)
      rw [s_nil, show (S []).length = 0 from rfl, Nat.mul_zero]
      omega
    · rw [s_nil, PR.join_one]
      refine q _ (same_upd2 (same_upd2 (same_upd2 (same_upd nl) nt0) nl) nl)
theorem in_nV (i : Int) (l : List Nat) : inV (.int i) (l.map nV) = l.any fun n => ((n : Int) == i) := by
  unfold inV
  rw [List.any_map]
  rfl
theorem in_nV_of {n : Nat} {l : List Nat} (h : n ∈ l) : inV (nV n) (l.map nV) = true := by
  rw [in_nV]
  exact List.any_eq_true.mpr ⟨n, h, by simp⟩
theorem flat_nV (l : List Nat) : (l.map nV).all flatV = true := by
  rw [List.all_map]
  exact List.all_eq_true.mpr fun _ _ => rfl
end
end PP

/-! ### moves -/
namespace PP
open PySem PySem.Spec PyProof.Rows L2 SX PR PL
section
variable {P : Program} {w : World} {K : PySem.W.Frag} {mg : Str → Option Value} {base : Heap}
/-- moves(standing) of a standing -/
theorem sc_moves : FnScope ["standing"] ["standing"] (defScope s_moves) := ⟨rfl, rfl, rfl, by decide +kernel, rfl, by decide +kernel, by decide +kernel⟩
theorem c_moves (D : Df K mg "moves" s_moves ["standing"]) (ca : Cal P w K mg base 1 "asked_standing" spAsked) (cm : Cal P w K mg base 1 "movers" spMovers) : Cal P w K mg base 2 "moves" spMovers := by
  refine cal_of D sc_moves (fun vs H Q E h => ?_) (fun f cdv A outer s H vs Q E hr h => ?_)
  · obtain ⟨z, rfl, _⟩ := h
    rfl
  · obtain ⟨z, rfl, hp, q⟩ := h
    refine ⟨_, pss_cons (ps_expr (pe_c ca hr (by decide) (by rfl) (pa_cons (pv 0) pa_nil))) (pss_one (ps_ret (pe_c cm hr (by decide) (by rfl) (pa_cons (pv 0) pa_nil)))), ?_⟩
    refine ⟨tx z, rfl, z, rfl, hp, fun H1 s1 => ?_⟩
    exact ⟨tx z, rfl, z, rfl, hp, fun H2 p s2 np hl => q H2 p (s1.trans s2) (s1.free np) hl⟩
end
end PP

/-! ### moved -/
namespace PP
open PySem PySem.Spec PyProof.Rows L2 SX PR PL
section
variable {P : Program} {w : World} {K : PySem.W.Frag} {mg : Str → Option Value} {base : Heap}
theorem sc_moved : FnScope ["standing", "pad"] ["standing", "pad"] (defScope s_moved) := ⟨rfl, rfl, rfl, by decide +kernel, rfl, by decide +kernel, by decide +kernel⟩
theorem c_moved (D : Df K mg "moved" s_moved ["standing", "pad"]) (ca : Cal P w K mg base 1 "asked_standing" spAsked) (cw : Cal P w K mg base 1 "is_whole" (spWhole K)) (cm : Cal P w K mg base 1 "movers" spMovers) (cb : Cal P w K mg base 1 "behind" spBehind) : Cal P w K mg base 2 "moved" spBehind := by
  refine cal_of D sc_moved (fun vs H Q E h => ?_) (fun f cdv A outer s H vs Q E hr h => ?_)
  · obtain ⟨z, p, y, rfl, _⟩ := h
    rfl
  · obtain ⟨z, p, y, rfl, hy, hp, q⟩ := h
    refine ⟨_, pss_cons (ps_expr (pe_c ca hr (by decide) (by rfl) (pa_cons (pv 0) pa_nil)))
      (pss_cons (ps_if (PW.pt (pw_or (pt_not (pt_val (pe_c cw hr (by decide) (by rfl) (pa_cons (pv 1) pa_nil)))) (pw_or1 (pt_cmpR op_notIn_seq (pv 1) (pe_c cm hr (by decide) (by rfl) (pa_cons (pv 0) pa_nil)) (by rfl))))) (pss_one ps_never) pss_nil)
      (pss_one (ps_ret (pe_c cb hr (by decide) (by rfl) (pa_cons (pv 0) (pa_cons (pv 1) pa_nil)))))), ?_⟩
    refine ⟨tx z, rfl, z, rfl, hp, fun H1 s1 => ?_⟩
    refine ⟨nV p, rfl, nV p, "int", true, false, rfl, .base (.int _), by decide +kernel, by decide +kernel, _, rfl, ifF rfl ?_⟩
    refine ⟨nV p, rfl, tx z, rfl, z, rfl, hp, fun H2 m s2 nm hm => ?_⟩
    refine ⟨m, (movers z).map nV, rfl, .inl (SqL.of hm), rfl, flat_nV _, _, rfl, ifF ?_ ?_⟩
    · rw [if_pos rfl, in_nV_of (l := movers z) (n := p) (List.mem_map.mpr ⟨_, hy, rfl⟩)]
      rfl
    · exact ⟨tx z, rfl, nV p, rfl, z, p, y, rfl, hy, hp, fun H3 s3 => q H3 (s1.trans (s2.trans s3))⟩
end
end PP

/-! ### goal_of -/
namespace PP
open PySem PySem.Spec PyProof.Rows L2 SX PR PL
section
variable {P : Program} {w : World} {K : PySem.W.Frag} {mg : Str → Option Value} {base : Heap}
def spGoal : Sp := fun vs H Q _ => ∃ z : Zp, vs = [tx z] ∧ pads z ≤ 60 ∧ ∀ H', Same H H' → Q (tx (goal z)) H'
theorem sc_goal_of : FnScope ["standing"] ["standing"] (defScope s_goal_of) := ⟨rfl, rfl, rfl, by decide +kernel, rfl, by decide +kernel, by decide +kernel⟩
theorem c_goal_of (D : Df K mg "goal_of" s_goal_of ["standing"]) : Cal P w K mg base 1 "goal_of" spGoal := by
  refine cal_of D sc_goal_of (fun vs H Q E h => ?_) (fun f cdv A outer s H vs Q E hr h => ?_)
  · obtain ⟨z, rfl, _⟩ := h
    rfl
  · obtain ⟨z, rfl, hp, q⟩ := h
    have hn := na_nb z
    refine ⟨_, pss_one (ps_ret (pe_op op_add_str (pe_op op_add_str (pe_op op_mul_str pe_str (pe_m1 PySem.F.slot_str_count PySem.F.type_str_count mt_count (pv 0) pe_str)) pe_str) (pe_op op_mul_str pe_str (pe_m1 PySem.F.slot_str_count PySem.F.type_str_count mt_count (pv 0) pe_str)))), ?_⟩
    have eb : Txt.count (S (cps z)) (Str.ofString "b") = (nb z : Nat) := by rw [s_b, count_S, cps_nb]
    have ea : Txt.count (S (cps z)) (Str.ofString "a") = (na z : Nat) := by rw [s_a, count_S, cps_na]
    refine ⟨tx z, rfl, ⟨_, rfl⟩, _, _, rfl, rfl, _, _, rfl, rfl, (by rw [s_b, ← s_b, eb, s_b]; exact mulOk_one 98 (by omega) (by omega)), _, _, rfl, rfl, ?_, tx z, rfl, ⟨_, rfl⟩, _, _, rfl, rfl, _, _, rfl, rfl, (by rw [s_a, ← s_a, ea, s_a]; exact mulOk_one 97 (by omega) (by omega)), _, _, rfl, rfl, ?_, ?_⟩
    · rw [eb, s_b, PR.mul_one 98 (by omega), s_dot, S_len, S_len]
      exact small (by simp; omega)
    · rw [eb, ea, s_b, s_a, PR.mul_one 98 (by omega), PR.mul_one 97 (by omega), s_dot, S_cat, S_len, S_len]
      exact small (by simp; omega)
    · have e : (Txt.mul (Str.ofString "b") (Txt.count (S (cps z)) (Str.ofString "b")) ++ Str.ofString ".") ++ Txt.mul (Str.ofString "a") (Txt.count (S (cps z)) (Str.ofString "a")) = S (cps (goal z)) := by
        rw [eb, ea, s_b, s_a, PR.mul_one 98 (by omega), PR.mul_one 97 (by omega), s_dot, S_cat, S_cat, goal_codes]
        congr 1
        simp
      rw [e]
      exact q H (Same.refl _)
end
end PP

/-! ### goal -/
namespace PP
open PySem PySem.Spec PyProof.Rows L2 SX PR PL
section
variable {P : Program} {w : World} {K : PySem.W.Frag} {mg : Str → Option Value} {base : Heap}
theorem sc_goal : FnScope ["standing"] ["standing"] (defScope s_goal) := ⟨rfl, rfl, rfl, by decide +kernel, rfl, by decide +kernel, by decide +kernel⟩
theorem c_goal (D : Df K mg "goal" s_goal ["standing"]) (ca : Cal P w K mg base 1 "asked_standing" spAsked) (cg : Cal P w K mg base 1 "goal_of" spGoal) : Cal P w K mg base 2 "goal" spGoal := by
  refine cal_of D sc_goal (fun vs H Q E h => ?_) (fun f cdv A outer s H vs Q E hr h => ?_)
  · obtain ⟨z, rfl, _⟩ := h
    rfl
  · obtain ⟨z, rfl, hp, q⟩ := h
    refine ⟨_, pss_cons (ps_expr (pe_c ca hr (by decide) (by rfl) (pa_cons (pv 0) pa_nil))) (pss_one (ps_ret (pe_c cg hr (by decide) (by rfl) (pa_cons (pv 0) pa_nil)))), ?_⟩
    refine ⟨tx z, rfl, z, rfl, hp, fun H1 s1 => ?_⟩
    exact ⟨tx z, rfl, z, rfl, hp, fun H2 s2 => q H2 (s1.trans s2)⟩
end
end PP

/-! ### moves_left -/
namespace PP
open PySem PySem.Spec PyProof.Rows L2 SX PR PL
section
variable {P : Program} {w : World} {K : PySem.W.Frag} {mg : Str → Option Value} {base : Heap}
def spLeft : Sp := fun vs H Q _ => ∃ z : Zp, vs = [tx z] ∧ pads z ≤ 60 ∧ ∀ H', Same H H' → Q (nV (mleft z)) H'
theorem sc_left : FnScope ["standing", "steps", "leaps", "pad", "sign"] ["standing"] (defScope s_moves_left) := ⟨rfl, rfl, rfl, by decide +kernel, rfl, by decide +kernel, by decide +kernel⟩
theorem c_left (D : Df K mg "moves_left" s_moves_left ["standing"]) (T : Bl mg) (ca : Cal P w K mg base 1 "asked_standing" spAsked) : Cal P w K mg base 2 "moves_left" spLeft := by
  refine cal_of D sc_left (fun vs H Q E h => ?_) (fun f cdv A outer s H vs Q E hr h => ?_)
  · obtain ⟨z, rfl, _⟩ := h
    rfl
  · obtain ⟨z, rfl, hp, q⟩ := h
    have nd := sc_left.nd
    have hlen := cps_len z
    have hlz : (S (cps z)).length ≤ sizeLine := small (by rw [S_len]; omega)
    refine ⟨_, pss_cons (ps_expr (pe_c ca hr (by decide) (by rfl) (pa_cons (pv 0) pa_nil)))
      (pss_cons (ps_asg (pe_tup (pa_cons pe_int (pa_cons pe_int pa_nil))) (pg_tup rfl (pgs_cons (pg_name (i := 1) nd rfl (.inl rfl)) (pgs_cons (pg_name (i := 2) nd rfl (.inl rfl)) pgs_nil))))
      (pss_cons (ps_for PassesOwn.never rfl (pi_enumS (by rfl) T.enum (pa_cons (pv 0) pa_nil)) (pg_tup rfl (pgs_cons (pg_name (i := 3) nd rfl (.inl rfl)) (pgs_cons (pg_name (i := 4) nd rfl (.inl rfl)) pgs_nil)))
        (C8.pss_cut (ps_if (pt_cmpR op_eq (pv 4) pe_str (nomark _))
            (pss_cons (ps_set (i := 1) nd rfl (.inl rfl) (pe_op op_sub (pe_op op_add (pe_op op_sub (pe_op op_add (pv 1) (pe_callB call_len_str (by rfl) T.len PySem.boot_len (pa_cons (pv 0) pa_nil))) (pe_m1 PySem.F.slot_str_count PySem.F.type_str_count mt_count (pv 0) pe_str))
              (pe_m1 PySem.F.slot_str_count PySem.F.type_str_count mt_count (pe_slice sl_str (pv 0) po_none (po_some (pv 3))) pe_str)) (pv 3)))
            (pss_one (ps_set (i := 2) nd rfl (.inl rfl) (pe_op op_add (pv 2) (pe_m1 PySem.F.slot_str_count PySem.F.type_str_count mt_count (pe_slice sl_str (pv 0) (po_some (pv 3)) po_none) pe_str))))) pss_nil)
        (pss_one (ps_if (pt_cmpR op_eq (pv 4) pe_str (nomark _))
            (pss_one (ps_set (i := 1) nd rfl (.inl rfl) (pe_op op_sub (pe_op op_add (pv 1) (pv 3)) (pe_m1 PySem.F.slot_str_count PySem.F.type_str_count mt_count (pe_slice sl_str (pv 0) po_none (po_some (pv 3))) pe_str)))) pss_nil))))
      (pss_one (ps_ret (pe_op op_sub (pv 1) (pv 2)))))), ?_⟩
    refine ⟨tx z, rfl, z, rfl, hp, fun H1 s1 => ?_⟩
    refine ⟨(by show 2 ≤ sizeLine; decide), fun t nt => ⟨t, _, rfl, SqT.of upd_same, rfl, .int 0, [.int 0], rfl, .int 0, [], rfl, rfl, ?_⟩⟩
    have s2 : Same H (upd H1 t (.tup [.int 0, .int 0])) := s1.trans (same_upd nt)
    refine ⟨tx z, rfl, cps z, rfl, for_it (walk_enumS (l := cps z)) (fun i σ H' => ∃ y3 y4, σ = [some (tx z), some (.int (upto (stp (cps z)) i)), some (.int (upto (lps (cps z)) i)), y3, y4] ∧ Same H H')
      ⟨none, none, rfl, s2⟩ (fun _ _ _ _ _ => trivial) ?_ ?_⟩
    · rintro i x σ H2 H3 hi ⟨y3, y4, rfl, s3⟩ ⟨Tp, c, rfl, nT, rfl, hc⟩
      refine ⟨Tp, [nV i, sV c], rfl, SqT.of upd_same, rfl, nV i, [sV c], rfl, sV c, [], rfl, rfl, ?_⟩
      have s4 : Same H (upd H2 Tp (.tup [nV i, sV c])) := same_upd2 s3 (s3.free nT)
      have hcut : cutS (S (cps z)) none (some (i : Int)) = S ((cps z).take i) := cutS_to _ _
      have hcut2 : cutS (S (cps z)) (some (i : Int)) none = S ((cps z).drop i) := cutS_from _ _
      refine ⟨fun σ' H' => σ' = [some (tx z), some (.int (upto (stp (cps z)) i + if c = 97 then stp (cps z) i else 0)), some (.int (upto (lps (cps z)) (i + 1))), some (nV i), some (sV c)] ∧ upd H2 Tp (.tup [nV i, sV c]) = H', ?_, ?_⟩
      · refine ⟨sV c, rfl, rfl, _, rfl, ifB (fun e => ?_) (fun e => ?_)⟩
        · rw [s_a, dec_str] at e
          have ec : c = 97 := by simpa using e
          refine ⟨.int _, rfl, tx z, rfl, _, rfl, hlz, _, _, rfl, rfl, tx z, rfl, ⟨_, rfl⟩, _, _, rfl, rfl, _, _, rfl, rfl, tx z, rfl, nV i, rfl, _, rfl, _, rfl, hlz, ⟨_, rfl⟩, _, _, rfl, rfl, _, _, rfl, rfl, nV i, rfl, _, _, rfl, rfl, ?_⟩
          refine ⟨.int _, rfl, tx z, rfl, nV i, rfl, _, rfl, _, rfl, hlz, ⟨_, rfl⟩, _, _, rfl, rfl, _, _, rfl, rfl, ?_, rfl⟩
          have e1 : upto (stp (cps z)) i + ((S (cps z)).length : Int) - Txt.count (S (cps z)) (Str.ofString "a") + Txt.count (cutS (S (cps z)) none (some (i : Int))) (Str.ofString "a") - (i : Int) = upto (stp (cps z)) i + if c = 97 then stp (cps z) i else 0 := by
            rw [if_pos ec, hcut, s_a, count_S, count_S, S_len]
            unfold stp
            rw [if_pos (by rw [hc, ec])]
            omega
          have e2 : upto (lps (cps z)) i + Txt.count (cutS (S (cps z)) (some (i : Int)) none) (Str.ofString "b") = upto (lps (cps z)) (i + 1) := by
            show _ = upto (lps (cps z)) i + lps (cps z) i
            rw [hcut2, s_b, count_S]
            unfold lps
            rw [if_pos (by rw [hc, ec])]
          rw [← e1, ← e2]
          rfl
        · rw [s_a, dec_str] at e
          have ec : c ≠ 97 := by simpa using e
          refine ⟨?_, rfl⟩
          have e2 : upto (lps (cps z)) (i + 1) = upto (lps (cps z)) i := by
            show upto (lps (cps z)) i + lps (cps z) i = _
            unfold lps
            rw [if_neg (by rw [hc]; exact fun z => ec (Option.some.inj z))]
            omega
          rw [if_neg ec, e2, Int.add_zero]
          rfl
      rintro _ _ ⟨rfl, rfl⟩
      refine ⟨sV c, rfl, rfl, _, rfl, ifB (fun e => ?_) (fun e => ?_)⟩
      · rw [s_b, dec_str] at e
        have ec : c = 98 := by simpa using e
        refine ⟨.int _, rfl, nV i, rfl, _, _, rfl, rfl, tx z, rfl, nV i, rfl, _, rfl, _, rfl, hlz, ⟨_, rfl⟩, _, _, rfl, rfl, _, _, rfl, rfl, some (nV i), some (sV c), ?_, s4⟩
        have e1 : (upto (stp (cps z)) i + if c = 97 then stp (cps z) i else 0) + (i : Int) - Txt.count (cutS (S (cps z)) none (some (i : Int))) (Str.ofString "b") = upto (stp (cps z)) (i + 1) := by
          show _ = upto (stp (cps z)) i + stp (cps z) i
          rw [hcut, s_b, count_S, if_neg (by omega)]
          unfold stp
          rw [if_neg (by rw [hc, ec]; decide), if_pos (by rw [hc, ec])]
          omega
        rw [← e1]
        rfl
      · rw [s_b, dec_str] at e
        have ec : c ≠ 98 := by simpa using e
        refine ⟨some (nV i), some (sV c), ?_, s4⟩
        have e1 : (upto (stp (cps z)) i + if c = 97 then stp (cps z) i else 0) = upto (stp (cps z)) (i + 1) := by
          show _ = upto (stp (cps z)) i + stp (cps z) i
          by_cases h : c = 97
          · rw [if_pos h]
          · rw [if_neg h]
            unfold stp
            rw [if_neg (by rw [hc]; exact fun z => h (Option.some.inj z)), if_neg (by rw [hc]; exact fun z => ec (Option.some.inj z))]
        rw [← e1]
    · rintro σ H2 ⟨y3, y4, rfl, s3⟩
      refine ⟨.int _, rfl, .int _, rfl, _, _, rfl, rfl, ?_⟩
      show Q (V.int (upto (stp (cps z)) (cps z).length - upto (lps (cps z)) (cps z).length)) H2
      rw [hlen, left_prog]
      exact q H2 s3
end
end PP

/-! ### exchange -/
namespace PP
open PySem PySem.Spec PyProof.Rows L2 SX PR PL
section
variable {P : Program} {w : World} {K : PySem.W.Frag} {mg : Str → Option Value} {base : Heap}
/-- exchange of two counts -/
def spExch : Sp := fun vs H Q _ => ∃ a b : Int, vs = [.int a, .int b] ∧ 0 ≤ a ∧ 0 ≤ b ∧ IntMulOk a b ∧ Q (.int (a * b + a + b)) H
theorem sc_exch : FnScope ["one", "other"] ["one", "other"] (defScope s_exchange) := ⟨rfl, rfl, rfl, by decide +kernel, rfl, by decide +kernel, by decide +kernel⟩
theorem c_exch (D : Df K mg "exchange" s_exchange ["one", "other"]) (cw : Cal P w K mg base 1 "is_whole" (spWhole K)) : Cal P w K mg base 2 "exchange" spExch := by
  refine cal_of D sc_exch (fun vs H Q E h => ?_) (fun f cdv A outer s H vs Q E hr h => ?_)
  · obtain ⟨a, b, rfl, _⟩ := h
    rfl
  · obtain ⟨a, b, rfl, ha, hb, hm, q⟩ := h
    refine ⟨_, pss_cons (ps_if (PW.pt (pw_or (pt_not (pt_val (pe_c cw hr (by decide) (by rfl) (pa_cons (pv 0) pa_nil)))) (pw_or (pt_not (pt_val (pe_c cw hr (by decide) (by rfl) (pa_cons (pv 1) pa_nil))))
        (pw_or (pt_cmpR op_lt (pv 0) pe_int (nomark _)) (pw_or1 (pt_cmpR op_lt (pv 1) pe_int (nomark _))))))) (pss_one ps_never) pss_nil)
      (pss_one (ps_ret (pe_op op_add (pe_op op_add (pe_op op_mulX (pv 0) (pv 1)) (pv 0)) (pv 1)))), ?_⟩
    refine ⟨.int a, rfl, .int a, "int", true, false, rfl, .base (.int _), by decide +kernel, by decide +kernel, _, rfl, ifF rfl ?_⟩
    refine ⟨.int b, rfl, .int b, "int", true, false, rfl, .base (.int _), by decide +kernel, by decide +kernel, _, rfl, ifF rfl ?_⟩
    refine ⟨.int a, rfl, _, _, rfl, rfl, _, rfl, ifF (decide_eq_false (by omega)) ?_⟩
    refine ⟨.int b, rfl, _, _, rfl, rfl, _, rfl, ifF (decide_eq_false (by omega)) ?_⟩
    exact ⟨.int a, rfl, .int b, rfl, _, _, rfl, rfl, hm, .int a, rfl, _, _, rfl, rfl, .int b, rfl, _, _, rfl, rfl, q⟩
end
end PP

/-! ### mirrored -/
namespace PP
open PySem PySem.Spec PyProof.Rows L2 SX PR PL
section
variable {P : Program} {w : World} {K : PySem.W.Frag} {mg : Str → Option Value} {base : Heap}
/-- mirrored -/
def spMirr : Sp := fun vs H Q _ => ∃ z : Zp, vs = [tx z] ∧ pads z ≤ 60 ∧ ∀ H', Same H H' → Q (tx (mirror z)) H'
theorem sc_mirr : FnScope ["standing", "signs", "sign"] ["standing"] (defScope s_mirrored) := ⟨rfl, rfl, rfl, by decide +kernel, rfl, by decide +kernel, by decide +kernel⟩
/-- the written table of kinds exchanged -/
abbrev swT : List (Key × V) := [(Sum.inr (Str.ofString "a"), .str (Str.ofString "b")), (Sum.inr (Str.ofString "b"), .str (Str.ofString "a")), (Sum.inr (Str.ofString "."), .str (Str.ofString "."))]
theorem sw_get {c : Nat} (h : c = 97 ∨ c = 98 ∨ c = 46) : valV (mergeK [] swT) (Sum.inr (S [c])) = some (sV (sw c)) := by
  rcases h with rfl | rfl | rfl <;> decide +kernel
theorem dget_sw {H : Hp} {d : Addr} {c : Nat} (h : H d = some (.dK (mergeK [] swT))) (hc : c = 97 ∨ c = 98 ∨ c = 46) : DGet H d (sV c) (some (sV (sw c))) := by
  have g := DGet.k (k := Sum.inr (S [c])) h
  rw [sw_get hc] at g
  exact g
theorem c_mirr (D : Df K mg "mirrored" s_mirrored ["standing"]) (ca : Cal P w K mg base 1 "asked_standing" spAsked) : Cal P w K mg base 2 "mirrored" spMirr := by
  refine cal_of D sc_mirr (fun vs H Q E h => ?_) (fun f cdv A outer s H vs Q E hr h => ?_)
  · obtain ⟨z, rfl, _⟩ := h
    rfl
  · obtain ⟨z, rfl, hp, q⟩ := h
    have nd := sc_mirr.nd
    have hlen := cps_len z
    refine ⟨_, pss_cons (ps_expr (pe_c ca hr (by decide) (by rfl) (pa_cons (pv 0) pa_nil)))
      (pss_cons (ps_set (i := 1) nd rfl (.inr rfl) (pe_disp (pps_cons pe_str pe_str (pps_cons pe_str pe_str (pps_cons pe_str pe_str pps_nil))) (by rfl) (by rfl) (fun z => by cases z) (by decide)))
      (pss_one (ps_ret (pe_join pe_str (pe_lc (own := [("sign", 2)]) (g := gName 2) (tt := tYes) (by rfl) nd (pi_str (pe_revS (pv 0))) (blkOk_by (own := [("sign", 2)]) (N := ["standing", "signs", "sign"]) (sc := defScope s_mirrored) (by decide +kernel))
        (fun _ _ _ _ _ => pg_name (i := 2) nd rfl (Or.inl rfl)) (fun _ _ _ _ _ => pts_nil) (fun _ _ _ _ _ => pe_dget (hu_of hr) (pv 1) (pv 2) (fun _ _ => rfl))))))), ?_⟩
    refine ⟨tx z, rfl, z, rfl, hp, fun H1 s1 => ?_⟩
    intro d nd1
    refine ⟨upd_same, swT, rfl, by decide, ?_⟩
    rw [upd_upd]
    obtain ⟨H2, eH⟩ : ∃ H2, upd H1 d (.dK (mergeK [] swT)) = H2 := ⟨_, rfl⟩
    have s2 : Same H H2 := by rw [← eH]; exact same_upd2 s1 (s1.free nd1)
    have hd : H2 d = some (.dK (mergeK [] swT)) := by rw [← eH]; exact upd_same
    rw [eH]
    refine ⟨⟨_, rfl⟩, tx z, rfl, cps z, rfl, small (by omega), S (cps z).reverse, rfl, fun D nD => ?_⟩
    refine lc_it (walk_strL (l := (cps z).reverse)) (fun i H' => Same H2 H' ∧ H' D = some (.lst ((((cps z).reverse.take i).map sw).map sV))) ⟨same_upd nD, upd_same⟩ (fun _ _ _ _ => trivial) ?_ ?_
    · rintro i x H3 _ hi ⟨s3, h3⟩ ⟨rfl, c, hc, rfl⟩
      have hcs : c = 97 ∨ c = 98 ∨ c = 46 := sgs_cps z c (List.mem_reverse.mp (List.mem_of_getElem? hc))
      have hd3 := s3 _ _ hd
      refine ⟨rfl, .ref d, rfl, sV c, rfl, d, sV (sw c), rfl, ?_, _, h3, ?_, same_upd2 s3 nD, ?_⟩
      · exact dget_sw hd3 hcs
      · rw [List.length_map, List.length_map, List.length_take]
        exact L2.small1000 (by rw [List.length_reverse]; omega)
      · rw [upd_same, List.take_succ, hc]
        simp
    · rintro H3 ⟨s3, h3⟩
      rw [List.take_length, ← cps_mirror, sV_map] at h3
      refine ⟨Str.ofString "", D, (cps (mirror z)).map fun c => S [c], rfl, rfl, .inl (SqL.of h3), ?_, ?_⟩
      · have h2 : (cps (mirror z)).length ≤ 60 := by rw [cps_len, mirror_pads]; exact hp
        have h4 := join_size (cps (mirror z)) (by omega)
        rw [s_nil, show (S []).length = 0 from rfl, Nat.mul_zero]
        omega
      · rw [s_nil, PR.join_one]
        exact q _ (s2.trans s3)
end
end PP

/-! ### asked_small -/
namespace PP
open PySem PySem.Spec PyProof.Rows L2 SX PR PL
section
variable {P : Program} {w : World} {K : PySem.W.Frag} {mg : Str → Option Value} {base : Heap}
/-- asked_small of a standing of at most nine pads: nothing -/
def spSmall : Sp := fun vs H Q _ => ∃ z : Zp, vs = [tx z] ∧ pads z ≤ 9 ∧ ∀ H', Same H H' → Q .non H'
theorem sc_small : FnScope ["standing"] ["standing"] (defScope s_asked_small) := ⟨rfl, rfl, rfl, by decide +kernel, rfl, by decide +kernel, by decide +kernel⟩
theorem c_small (D : Df K mg "asked_small" s_asked_small ["standing"]) (T : Bl mg) (hM : ∃ t, mg "SMALL" = some (.int 9 t)) (ca : Cal P w K mg base 1 "asked_standing" spAsked) : Cal P w K mg base 2 "asked_small" spSmall := by
  obtain ⟨tM, hM⟩ := hM
  refine cal_of D sc_small (fun vs H Q E h => ?_) (fun f cdv A outer s H vs Q E hr h => ?_)
  · obtain ⟨z, rfl, _⟩ := h
    rfl
  · obtain ⟨z, rfl, hp, q⟩ := h
    refine ⟨_, pss_cons (ps_expr (pe_c ca hr (by decide) (by rfl) (pa_cons (pv 0) pa_nil)))
      (pss_one (ps_if (pt_cmpR op_gt (pe_callB call_len_str (by rfl) T.len PySem.boot_len (pa_cons (pv 0) pa_nil)) (pe_glob (v := .int 9) (by rfl) hM ⟨_, rfl⟩) (nomark _)) (pss_one ps_never) pss_nil)), ?_⟩
    refine ⟨tx z, rfl, z, rfl, by omega, fun H1 s1 => ?_⟩
    have hl : (S (cps z)).length = pads z := by rw [S_len, cps_len]
    exact ⟨tx z, rfl, _, rfl, small (by omega), _, _, rfl, rfl, _, rfl, ifF (decide_eq_false (by rw [hl]; omega)) (q H1 s1)⟩
end
end PP

/-! ### asked_small; a dict that keeps what is known of standings; ways_of, ways -/
namespace PP
open PySem PySem.Spec PyProof.Rows L2 SX PR PL
/-- a standing as a key -/
abbrev kz (z : Zp) : Key := Sum.inr (S (cps z))
theorem kz_inj {y z : Zp} (h : kz y = kz z) : y = z := cps_inj (S_inj (Sum.inr.inj h))
/-- d is a dict whose keys are standings, each value as R says -/
def Kn (R : Hp → Zp → V → Prop) (H : Hp) (d : Addr) : Prop := ∃ kvs : List (Key × V), H d = some (.dK kvs) ∧ (kvs.map (·.1)).Nodup ∧ ∀ kv ∈ kvs, ∃ z : Zp, pads z ≤ 9 ∧ kv.1 = kz z ∧ R H z kv.2
theorem kn_len {R : Zp → V → Prop} {kvs : List (Key × V)} (hn : (kvs.map (·.1)).Nodup) (h : ∀ kv ∈ kvs, ∃ z : Zp, pads z ≤ 9 ∧ kv.1 = kz z ∧ R z kv.2) : kvs.length < sizeLine := by
  have h1 := nodup_le (l := kvs.map (·.1)) (m := allZ.map kz) hn fun x hx => by
    obtain ⟨kv, hkv, rfl⟩ := List.mem_map.mp hx
    obtain ⟨z, hz, e, _⟩ := h kv hkv
    exact List.mem_map.mpr ⟨z, mem_allZ hz, e.symm⟩
  rw [List.length_map, List.length_map, allZ_len] at h1
  exact Nat.lt_of_le_of_lt h1 (by decide)
theorem kn_get {R : Zp → V → Prop} {kvs : List (Key × V)} (h : ∀ kv ∈ kvs, ∃ z : Zp, pads z ≤ 9 ∧ kv.1 = kz z ∧ R z kv.2) {z : Zp} {v : V} (e : valV kvs (kz z) = some v) : R z v := by
  unfold valV at e
  cases f : kvs.find? (fun kv => decide (kv.1 = kz z)) with
  | none => rw [f] at e; cases e
  | some kv =>
    rw [f] at e
    have hv : kv.2 = v := Option.some.inj e
    obtain ⟨y, _, ey, r⟩ := h kv (List.mem_of_find?_eq_some f)
    have ek : kv.1 = kz z := by
      have := List.find?_some f
      simpa using this
    have : y = z := kz_inj (ey.symm.trans ek)
    rw [← hv, ← this]
    exact r
theorem kn_put {Pk : Key × V → Prop} {kvs : List (Key × V)} {k : Key} {v : V} (hn : (kvs.map (·.1)).Nodup) (h : ∀ kv ∈ kvs, Pk kv) (hv : Pk (k, v)) : ((putK kvs k v).map (·.1)).Nodup ∧ ∀ kv ∈ putK kvs k v, Pk kv := by
  cases e : valV kvs k with
  | none =>
    refine ⟨nd_putK v hn e, fun kv hkv => ?_⟩
    rw [putK_new v e] at hkv
    rcases List.mem_append.mp hkv with m | m
    · exact h kv m
    · rw [List.mem_singleton.mp m]
      exact hv
  | some u =>
    have ha : (kvs.any fun kv => decide (kv.1 = k)) = true := by rw [valV_any, e]; rfl
    have ep : putK kvs k v = kvs.map (fun kv => if kv.1 = k then (kv.1, v) else kv) := by unfold putK; rw [if_pos ha]
    rw [ep]
    constructor
    · have : (kvs.map (fun kv => if kv.1 = k then (kv.1, v) else kv)).map (·.1) = kvs.map (·.1) := by
        rw [List.map_map]
        refine List.map_congr_left fun kv _ => ?_
        show (if kv.1 = k then (kv.1, v) else kv).1 = kv.1
        split <;> rfl
      rw [this]
      exact hn
    · intro kv hkv
      obtain ⟨kv', hm, rfl⟩ := List.mem_map.mp hkv
      by_cases ek : kv'.1 = k
      · rw [if_pos ek, ek]
        exact hv
      · rw [if_neg ek]
        exact h kv' hm
/-- all but d stands as it stood -/
def Sb (d : Addr) (H H' : Hp) : Prop := ∀ b o, b ≠ d → H b = some o → H' b = some o
theorem Sb.refl (d : Addr) (H : Hp) : Sb d H H := fun _ _ _ h => h
theorem Sb.trans {d : Addr} {H H1 H2 : Hp} (a : Sb d H H1) (b : Sb d H1 H2) : Sb d H H2 := fun c o n h => b c o n (a c o n h)
theorem Same.sb {d : Addr} {H H' : Hp} (s : L2.Same H H') : Sb d H H' := fun b o _ h => s b o h
theorem Sb.upd {d : Addr} {H : Hp} {o : HO} : Sb d H (L2.upd H d o) := fun b x n h => by rw [upd_ne n]; exact h
/-- behind a dict that was made new: all stands -/
theorem Sb.same {d : Addr} {H H1 : Hp} {o : HO} (s : Sb d (L2.upd H d o) H1) (h : H d = none) : L2.Same H H1 := fun b x e => by
  have n : b ≠ d := ne_of_none e h
  exact s b x n (by rw [upd_ne n]; exact e)
section
variable {P : Program} {w : World} {K : PySem.W.Frag} {mg : Str → Option Value} {base : Heap}
/-- what ways_of keeps -/
abbrev RW : Hp → Zp → V → Prop := fun _ z v => v = nV (ways z)
theorem kn_sb {d : Addr} {H H' : Hp} (h : Kn RW H d) (e : H' d = H d) : Kn RW H' d := by
  obtain ⟨kvs, h1, h2, h3⟩ := h
  exact ⟨kvs, by rw [e]; exact h1, h2, h3⟩
def spWays (k : Nat) : Sp := fun vs H Q _ => ∃ (z : Zp) (d : Addr), vs = [tx z, .ref d] ∧ pads z ≤ 9 ∧ mleft z ≤ k ∧ Kn RW H d ∧ ∀ H', Sb d H H' → Kn RW H' d → Q (nV (ways z)) H'
theorem sc_ways : FnScope ["standing", "known", "found", "pad"] ["standing", "known"] (defScope s_ways_of) := ⟨rfl, rfl, rfl, by decide +kernel, rfl, by decide +kernel, by decide +kernel⟩
theorem kn_same {d : Addr} {H H' : Hp} (h : Kn RW H d) (s : Same H H') : Kn RW H' d := by
  obtain ⟨kvs, h1, h2, h3⟩ := h
  exact ⟨kvs, s _ _ h1, h2, h3⟩
theorem c_ways (D : Df K mg "ways_of" s_ways_of ["standing", "known"]) (cg : Cal P w K mg base 1 "goal_of" spGoal) (cm : Cal P w K mg base 1 "movers" spMovers) (cb : Cal P w K mg base 1 "behind" spBehind) : ∀ k : Nat, Cal P w K mg base (k + 2) "ways_of" (spWays k) := by
  have main : ∀ (k : Nat) (rec : ∀ z : Zp, mleft z ≤ k → next z ≠ [] → ∃ j, j + 1 ≤ k ∧ Cal P w K mg base (j + 2) "ways_of" (spWays j) ∧ k ≤ j + 1) (c' : k = 0 ∨ Cal P w K mg base (k + 1) "ways_of" (spWays (k - 1))), Cal P w K mg base (k + 2) "ways_of" (spWays k) := by
    intro k _ c'
    have nd := sc_ways.nd
    refine cal_of D sc_ways (fun vs H Q E h => ?_) (fun f cdv A outer s H vs Q E hr h => ?_)
    · obtain ⟨z, d, rfl, _⟩ := h
      rfl
    · obtain ⟨z, d, rfl, hp, hml, kn, q⟩ := h
      have hu := hu_of hr
      -- the call of itself
      have ce : ∃ sp : Sp, Cal P w K mg base (k + 1) "ways_of" sp ∧ ∀ (y : Zp) (p : Nat) (H : Hp) (Q : VK), (p, y) ∈ next z → Kn RW H d → (∀ H', Sb d H H' → Kn RW H' d → Q (nV (ways y)) H') → sp [tx y, .ref d] H Q L2.E0 := by
        rcases c' with rfl | c'
        · have hn : next z = [] := next_none (by omega)
          obtain ⟨fa, fd, F, b, g⟩ := D.ex
          refine ⟨fun _ _ _ _ => False, ⟨fa, fd, ["standing", "known"], ⟨fun _ _ _ _ h => h.elim, fun _ _ _ _ _ _ _ _ _ _ _ _ _ h => h.elim⟩, g, F.kp, b⟩, fun y p H Q hy => ?_⟩
          rw [hn] at hy
          cases hy
        · refine ⟨_, c', fun y p H Q hy hk hq => ?_⟩
          have hm := next_mleft hy
          exact ⟨y, d, rfl, by rw [next_pads hy]; exact hp, by omega, hk, hq⟩
      obtain ⟨sp, cr, hsp⟩ := ce
      refine ⟨_, pss_cons (ps_if (pt_cmp (pc_dnotin hu (pv 0) (pv 1)))
          (C8.pss_cut (ps_set (i := 2) nd rfl (.inl rfl) (pe_ifExp (pt_cmpR op_eq (pv 0) (pe_c cg hr (by omega) (by rfl) (pa_cons (pv 0) pa_nil)) (nomark _)) pe_int pe_int))
          (pss_cons (ps_for PassesOwn.never rfl (pi_list (pe_c cm hr (by omega) (by rfl) (pa_cons (pv 0) pa_nil))) (pg_name (i := 3) nd rfl (.inl rfl))
            (pss_one (ps_set (i := 2) nd rfl (.inl rfl) (pe_op op_add (pv 2) (pe_c cr hr (Nat.le_refl _) (by rfl) (pa_cons (pe_c cb hr (by omega) (by rfl) (pa_cons (pv 0) (pa_cons (pv 3) pa_nil))) (pa_cons (pv 1) pa_nil)))))))
          (pss_one (ps_dput hu (pv 1) (pv 0) (pv 2) rfl)))) pss_nil)
        (pss_one (ps_ret (pe_dget hu (pv 1) (pv 0) (fun _ _ => rfl)))), ?_⟩
      obtain ⟨kvs, hd, hn, hall⟩ := id kn
      refine ⟨tx z, rfl, .ref d, rfl, d, _, rfl, DGet.k (k := kz z) hd, _, rfl, ifB (fun e => ?_) (fun e => ?_)⟩
      · -- not known yet
        refine ⟨fun σ' H' => σ' = [some (tx z), some (.ref d), some (nV (if z = goal z then 1 else 0)), none] ∧ Same H H', ?_, ?_⟩
        · refine ⟨tx z, rfl, tx z, rfl, z, rfl, by omega, fun H1 s1 => ⟨rfl, _, rfl, ifB (fun e1 => ?_) (fun e1 => ?_)⟩⟩
          · rw [dec_str] at e1
            have eg : z = goal z := cps_inj (of_decide_eq_true e1)
            rw [if_pos eg]
            exact ⟨rfl, s1⟩
          · rw [dec_str] at e1
            have eg : ¬ z = goal z := fun h => of_decide_eq_false e1 (congrArg cps h)
            rw [if_neg eg]
            exact ⟨rfl, s1⟩
        rintro _ H1 ⟨rfl, s1⟩
        refine ⟨tx z, rfl, z, rfl, by omega, fun H2 p s2 np hpl => ?_⟩
        have hd2 := (s1.trans s2) _ _ hd
        have npd : p ≠ d := ne_of hpl hd2 (by intro q; cases q)
        refine ⟨p, rfl, ⟨_, SqL.of hpl⟩, for_list (K := K) (a := p) (xs := (movers z).map nV) (fun i σ H' => ∃ y3, σ = [some (tx z), some (.ref d), some (nV ((if z = goal z then 1 else 0) + pref (next z) i)), y3] ∧ Sb d H2 H' ∧ Kn RW H' d)
          ⟨none, rfl, Sb.refl _ _, kn_same kn (s1.trans s2)⟩ (fun i σ H' _ ⟨_, _, sx, _⟩ => SqL.of (sx _ _ npd hpl)) ?_ ?_⟩
        · rintro i x σ H3 hx ⟨y3, rfl, s3, k3⟩
          obtain ⟨⟨pd, y⟩, hq, ex⟩ : ∃ qy : Nat × Zp, (next z)[i]? = some qy ∧ x = nV qy.1 := by
            unfold movers at hx
            rw [List.getElem?_map, List.getElem?_map] at hx
            cases e : (next z)[i]? with
            | none => rw [e] at hx; cases hx
            | some u => rw [e] at hx; exact ⟨u, rfl, (Option.some.inj hx).symm⟩
          subst ex
          have hy : (pd, y) ∈ next z := List.mem_of_getElem? hq
          refine ⟨nV _, rfl, tx z, rfl, nV pd, rfl, z, pd, y, rfl, hy, by omega, fun H4 s4 => ⟨.ref d, rfl, ?_⟩⟩
          refine hsp y pd H4 _ hy (kn_same k3 s4) fun H5 s5 k5 => ?_
          refine ⟨_, _, rfl, rfl, some (nV pd), ?_, s3.trans ((Same.sb s4).trans s5), k5⟩
          rw [pref_succ hq]
          show [some (tx z), some (.ref d), some (V.int (((if z = goal z then 1 else 0) + pref (next z) i : Nat) + (ways y : Nat) : Int)), some (nV pd)] = [some (tx z), some (.ref d), some (V.int (((if z = goal z then 1 else 0) + (pref (next z) i + ways y) : Nat) : Int)), some (nV pd)]
          rw [show (((if z = goal z then 1 else 0) + pref (next z) i : Nat) : Int) + ((ways y : Nat) : Int) = (((if z = goal z then 1 else 0) + (pref (next z) i + ways y) : Nat) : Int) by push_cast; omega]
        · rintro σ H3 ⟨y3, rfl, s3, k3⟩
          have ew : (if z = goal z then 1 else 0) + pref (next z) ((movers z).map nV).length = ways z := by
            unfold movers
            rw [List.length_map, List.length_map]
            unfold pref
            rw [List.take_length, ways_eq z]
          rw [ew]
          obtain ⟨kvs3, hd3, hn3, hall3⟩ := id k3
          have hlt := kn_len (R := fun z v => v = nV (ways z)) hn3 hall3
          obtain ⟨pn, pa⟩ := kn_put (k := kz z) (v := nV (ways z)) hn3 hall3 ⟨z, hp, rfl, rfl⟩
          refine ⟨nV (ways z), rfl, .ref d, rfl, tx z, rfl, d, _, rfl, DPut.k (k := kz z) hd3 hlt, ?_⟩
          refine ⟨.ref d, rfl, tx z, rfl, d, nV (ways z), rfl, ?_, ?_⟩
          · have g := DGet.k (k := kz z) (upd_same (H := H3) (a := d) (o := .dK (putK kvs3 (kz z) (nV (ways z)))))
            rw [valV_put, if_pos rfl] at g
            exact g
          · exact q _ (((Same.sb (s1.trans s2)).trans s3).trans Sb.upd) ⟨_, upd_same, pn, pa⟩
      · -- known
        cases ev : valV kvs (kz z) with
        | none => rw [ev] at e; cases e
        | some v =>
          have hv : v = nV (ways z) := kn_get (R := fun z v => v = nV (ways z)) hall ev
          have g := DGet.k (k := kz z) hd
          rw [ev, hv] at g
          exact ⟨.ref d, rfl, tx z, rfl, d, nV (ways z), rfl, g, q H (Sb.refl _ _) kn⟩
  intro k
  induction k with
  | zero => exact main 0 (fun z hz hn => absurd (next_none (by omega)) hn) (.inl rfl)
  | succ k ih => exact main (k + 1) (fun z hz hn => ⟨k, Nat.le_refl _, ih, Nat.le_refl _⟩) (.inr ih)
/-- a dict just made knows nothing -/
theorem kn_new {R : Hp → Zp → V → Prop} {H : Hp} {d : Addr} (h : H d = some (.dK [])) : Kn R H d := ⟨[], h, List.nodup_nil, fun _ hm => nomatch hm⟩
theorem sb_same {d : Addr} {H H1 H2 : Hp} (s : Same H H1) (h : H d = none) (t : Sb d H1 H2) : Same H H2 := fun b o e => t b o (ne_of_none e h) (s b o e)
theorem kn_ne {R : Hp → Zp → V → Prop} {H : Hp} {d p : Addr} {xs : List V} (k : Kn R H d) (h : H p = some (.lst xs)) : p ≠ d := by
  obtain ⟨kvs, hd, _⟩ := k
  exact ne_of h hd (by intro q; cases q)
/-- an item of the list of moves, by its place -/
theorem mover_ix {z : Zp} {i : Nat} {x : V} (hx : ((movers z).map nV)[i]? = some x) : ∃ (pd : Nat) (y : Zp), (next z)[i]? = some (pd, y) ∧ x = nV pd ∧ (pd, y) ∈ next z := by
  unfold movers at hx
  rw [List.getElem?_map, List.getElem?_map] at hx
  cases e : (next z)[i]? with
  | none => rw [e] at hx; cases hx
  | some u => rw [e] at hx; exact ⟨u.1, u.2, rfl, (Option.some.inj hx).symm, List.mem_of_getElem? e⟩
end
end PP

/-! ### ways -/
namespace PP
open PySem PySem.Spec PyProof.Rows L2 SX PR PL
section
variable {P : Program} {w : World} {K : PySem.W.Frag} {mg : Str → Option Value} {base : Heap}
def spMany : Sp := fun vs H Q _ => ∃ z : Zp, vs = [tx z] ∧ pads z ≤ 9 ∧ ∀ H', Same H H' → Q (nV (ways z)) H'
theorem sc_waysA : FnScope ["standing"] ["standing"] (defScope s_ways) := ⟨rfl, rfl, rfl, by decide +kernel, rfl, by decide +kernel, by decide +kernel⟩
theorem c_waysA (D : Df K mg "ways" s_ways ["standing"]) (ca : Cal P w K mg base 2 "asked_small" spSmall) (cw : Cal P w K mg base 26 "ways_of" (spWays 24)) : Cal P w K mg base 27 "ways" spMany := by
  refine cal_of D sc_waysA (fun vs H Q E h => ?_) (fun f cdv A outer s H vs Q E hr h => ?_)
  · obtain ⟨z, rfl, _⟩ := h
    rfl
  · obtain ⟨z, rfl, hp, q⟩ := h
    refine ⟨_, pss_cons (ps_expr (pe_c ca hr (by decide) (by rfl) (pa_cons (pv 0) pa_nil))) (pss_one (ps_ret (pe_c cw hr (by decide) (by rfl) (pa_cons (pv 0) (pa_cons pe_dnewK pa_nil))))), ?_⟩
    refine ⟨tx z, rfl, z, rfl, hp, fun H1 s1 => ⟨tx z, rfl, fun d nd => ⟨z, d, rfl, hp, mleft_le9 hp, kn_new upd_same, fun H2 s2 _ => ?_⟩⟩⟩
    exact q H2 (s1.trans (s2.same nd))
end
end PP

/-! ### way_of -/
namespace PP
open PySem PySem.Spec PyProof.Rows L2 SX PR PL
section
variable {P : Program} {w : World} {K : PySem.W.Frag} {mg : Str → Option Value} {base : Heap}
def spWayOf : Sp := fun vs H Q _ => ∃ (z : Zp) (n : Nat) (wy : List Nat), vs = [tx z, nV n] ∧ pads z ≤ 9 ∧ (wl z)[n]? = some wy ∧ ∀ H' p, Same H H' → H p = none → H' p = some (.lst (wy.map nV)) → Q (.ref p) H'
theorem sc_wayof : FnScope ["standing", "number", "known", "found", "here", "pad", "many"] ["standing", "number"] (defScope s_way_of) := ⟨rfl, rfl, rfl, by decide +kernel, rfl, by decide +kernel, by decide +kernel⟩
theorem c_wayof (D : Df K mg "way_of" s_way_of ["standing", "number"]) (cg : Cal P w K mg base 1 "goal_of" spGoal) (cm : Cal P w K mg base 1 "movers" spMovers) (cb : Cal P w K mg base 1 "behind" spBehind) (cw : Cal P w K mg base 26 "ways_of" (spWays 24)) :
    Cal P w K mg base 27 "way_of" spWayOf := by
  refine cal_of D sc_wayof (fun vs H Q E h => ?_) (fun f cdv A outer s H vs Q E hr h => ?_)
  · obtain ⟨z, n, wy, rfl, _⟩ := h
    rfl
  · obtain ⟨z0, n0, wy, rfl, hp0, hw0, q⟩ := h
    have nd := sc_wayof.nd
    have hlen0 : wy.length ≤ 24 := by
      rw [wl_len 24 z0 (mleft_le9 hp0) wy (List.mem_of_getElem? hw0)]
      exact mleft_le9 hp0
    refine ⟨_, pss_cons (ps_par3 (i := 2) (j := 3) (l := 4) (by rfl) nd rfl rfl rfl (by decide) (by decide) (by decide) rfl rfl rfl (pa_cons pe_dnewK (pa_cons (pe_lst pa_nil) (pa_cons (pv 0) pa_nil))) (by rfl))
      (pss_cons (ps_while PassesOwn.never (pt_cmpR op_ne (pv 4) (pe_c cg hr (by decide) (by rfl) (pa_cons (pv 4) pa_nil)) (nomark _))
        (pss_one (ps_for PassesOwn.never rfl (pi_list (pe_c cm hr (by decide) (by rfl) (pa_cons (pv 4) pa_nil))) (pg_name (i := 5) nd rfl (.inl rfl))
          (pss_cons (ps_set (i := 6) nd rfl (.inl rfl) (pe_c cw hr (by decide) (by rfl) (pa_cons (pe_c cb hr (by decide) (by rfl) (pa_cons (pv 4) (pa_cons (pv 5) pa_nil))) (pa_cons (pv 2) pa_nil))))
          (pss_cons (ps_if (pt_cmpR op_lt (pv 1) (pv 6) (nomark _))
            (pss_cons (ps_expr (pe_bm PySem.F.plainAttrs_list PySem.F.slot_list_append PySem.F.type_list_append mt_append (pv 3) (pa_cons (pv 5) pa_nil)))
            (pss_cons (ps_set (i := 4) nd rfl (.inl rfl) (pe_c cb hr (by decide) (by rfl) (pa_cons (pv 4) (pa_cons (pv 5) pa_nil)))) (pss_one ps_break))) pss_nil)
          (pss_one (ps_set (i := 1) nd rfl (.inl rfl) (pe_op op_sub (pv 1) (pv 6)))))))))
      (pss_one (ps_ret (pv 3)))), ?_⟩
    intro d ndd
    refine ⟨Nat.zero_le _, fun fl nfl => ⟨tx z0, rfl, _, _, _, rfl, ?_⟩⟩
    have nfl0 : H fl = none := (same_upd ndd).free nfl
    have ndf : d ≠ fl := fun e => by rw [← e, upd_same] at nfl; cases nfl
    let W : Nat → L2.St → Hp → Prop := fun m σ H' => ∃ (z : Zp) (n : Nat) (pre rest : List Nat) (y5 y6 : Option V), m = mleft z ∧ σ = [some (tx z0), some (nV n), some (.ref d), some (.ref fl), some (tx z), y5, y6] ∧ pads z ≤ 9 ∧ (wl z)[n]? = some rest ∧ pre ++ rest = wy ∧ H' fl = some (.lst (pre.map nV)) ∧ Kn RW H' d ∧ Same H H'
    refine ⟨W, ⟨mleft z0, z0, n0, [], wy, none, none, rfl, rfl, hp0, hw0, rfl, upd_same, ⟨[], by rw [upd_ne ndf]; exact upd_same, List.nodup_nil, fun _ hm => nomatch hm⟩, same_upd2 (same_upd ndd) nfl0⟩, ?_⟩
    rintro m σ H1 ⟨z, n, pre, rest, y5, y6, rfl, rfl, hp, hw, hpr, hfl, kn, s1⟩
    have hnlt : n < ways z := (List.getElem?_eq_some_iff.mp hw).1
    refine ⟨tx z, rfl, tx z, rfl, z, rfl, by omega, fun H2 s2 => ⟨rfl, _, rfl, ifB (fun e => ?_) (fun e => ?_)⟩⟩
    · rw [dec_str] at e
      have hz : z ≠ goal z := fun h => by
        rw [decide_eq_true (congrArg cps h)] at e
        cases e
      refine ⟨fun σ' H' => ∃ m', m' < mleft z ∧ W m' σ' H', fun _ _ h => h, ?_⟩
      refine ⟨tx z, rfl, z, rfl, by omega, fun H3 p s3 np hpl => ?_⟩
      have kn3 := kn_same kn (s2.trans s3)
      have hfl3 := (s2.trans s3) _ _ hfl
      have npf : fl ≠ p := ne_of_none (s2 _ _ hfl) np
      have st3 : Same H H3 := s1.trans (s2.trans s3)
      refine ⟨p, rfl, ⟨_, SqL.of hpl⟩, for_list (K := K) (a := p) (xs := (movers z).map nV) (fun i σ H' => ∃ (n' : Nat) (y5 y6 : Option V), n' + pref (next z) i = n ∧ σ = [some (tx z0), some (nV n'), some (.ref d), some (.ref fl), some (tx z), y5, y6] ∧ H' p = some (.lst ((movers z).map nV)) ∧ H' fl = some (.lst (pre.map nV)) ∧ Kn RW H' d ∧ Same H H')
        ⟨n, y5, y6, rfl, rfl, hpl, hfl3, kn3, st3⟩ (fun i σ H' _ ⟨_, _, _, _, _, h, _⟩ => SqL.of h) ?_ ?_⟩
      · rintro i x σ H4 hx ⟨n', y5, y6, hn', rfl, hp4, hfl4, kn4, st4⟩
        obtain ⟨pd, y, hq, rfl, hy⟩ := mover_ix hx
        have hpy : pads y ≤ 9 := by rw [next_pads hy]; exact hp
        refine ⟨tx z, rfl, nV pd, rfl, z, pd, y, rfl, hy, by omega, fun H5 s5 => ⟨.ref d, rfl, y, d, rfl, hpy, mleft_le9 hpy, kn_same kn4 s5, fun H6 s6 kn6 => ?_⟩⟩
        have hp6 : H6 p = some (.lst ((movers z).map nV)) := s6 _ _ (kn_ne kn4 hp4) (s5 _ _ hp4)
        have hfl6 : H6 fl = some (.lst (pre.map nV)) := s6 _ _ (kn_ne kn4 hfl4) (s5 _ _ hfl4)
        have st6 : Same H H6 := sb_same (st4.trans s5) ndd s6
        refine ⟨nV n', rfl, nV (ways y), rfl, _, _, rfl, rfl, _, rfl, ifB (fun e2 => ?_) (fun e2 => ?_)⟩
        · have hlt : n' < ways y := by have := of_decide_eq_true e2; omega
          obtain ⟨w', hw1, hw2⟩ := way_at hz hq (n := n) (by omega) (by show n - pref (next z) i < ways y; omega)
          have en : n - pref (next z) i = n' := by omega
          rw [en] at hw1
          have er : rest = pd :: w' := by rw [hw] at hw2; exact Option.some.inj hw2
          refine ⟨.ref fl, rfl, .inl ⟨rfl, _, SqL.of hfl6⟩, nV pd, rfl, fl, _, _, rfl, rfl, hfl6, ?_, ?_⟩
          · rw [List.length_map]
            have : pre.length ≤ wy.length := by rw [← hpr, List.length_append]; omega
            exact L2.small1000 (by omega)
          refine ⟨tx z, rfl, nV pd, rfl, z, pd, y, rfl, hy, by omega, fun H7 s7 => ?_⟩
          have hml := next_mleft hy
          have kn7 : Kn RW (upd H6 fl (.lst (pre.map nV ++ [nV pd]))) d := kn_sb kn6 (upd_ne (kn_ne kn6 hfl6).symm)
          refine ⟨mleft y, by omega, y, n', pre ++ [pd], w', _, _, rfl, rfl, hpy, hw1, by rw [← hpr, er]; simp, ?_, kn_same kn7 s7, (same_upd2 st6 nfl0).trans s7⟩
          have := s7 _ _ (upd_same (H := H6) (a := fl) (o := .lst (pre.map nV ++ [nV pd])))
          rw [this, snoc_nV]
        · have hge : ways y ≤ n' := by have := of_decide_eq_false e2; omega
          refine ⟨nV n', rfl, nV (ways y), rfl, _, _, rfl, rfl, n' - ways y, some (nV pd), some (nV (ways y)), ?_, ?_, hp6, hfl6, kn6, st6⟩
          · rw [pref_succ hq]
            show n' - ways y + (pref (next z) i + ways y) = n
            omega
          · rw [show nV (n' - ways y) = V.int ((n' : Int) - (ways y : Nat)) by show V.int _ = V.int _; rw [show ((n' - ways y : Nat) : Int) = (n' : Int) - (ways y : Nat) by omega]]
            rfl
      · rintro σ H4 ⟨n', y5, y6, hn', _⟩
        have hall : pref (next z) ((movers z).map nV).length = ways z := by
          unfold movers
          rw [List.length_map, List.length_map]
          exact pref_all z hz
        exact absurd hn' (by omega)
    · rw [dec_str] at e
      have hz : z = goal z := by
        refine cps_inj ?_
        cases h : decide (cps z = cps (goal z)) with
        | true => exact of_decide_eq_true h
        | false => rw [h] at e; cases e
      rw [wl_goal hz] at hw
      have hr0 : rest = [] := by
        cases n with
        | zero => exact (Option.some.inj hw).symm
        | succ n => simp at hw
      rw [hr0, List.append_nil] at hpr
      subst hpr
      exact ⟨.ref fl, rfl, q H2 fl (s1.trans s2) nfl0 (s2 _ _ hfl)⟩
end
end PP

/-! ### way_by -/
namespace PP
open PySem PySem.Spec PyProof.Rows L2 SX PR PL
section
variable {P : Program} {w : World} {K : PySem.W.Frag} {mg : Str → Option Value} {base : Heap}
theorem sc_wayby : FnScope ["standing", "number"] ["standing", "number"] (defScope s_way_by) := ⟨rfl, rfl, rfl, by decide +kernel, rfl, by decide +kernel, by decide +kernel⟩
theorem c_wayby (D : Df K mg "way_by" s_way_by ["standing", "number"]) (ca : Cal P w K mg base 2 "asked_small" spSmall) (ch : Cal P w K mg base 1 "is_whole" (spWhole K)) (cw : Cal P w K mg base 26 "ways_of" (spWays 24)) (cy : Cal P w K mg base 27 "way_of" spWayOf) :
    Cal P w K mg base 28 "way_by" spWayOf := by
  refine cal_of D sc_wayby (fun vs H Q E h => ?_) (fun f cdv A outer s H vs Q E hr h => ?_)
  · obtain ⟨z, n, wy, rfl, _⟩ := h
    rfl
  · obtain ⟨z, n, wy, rfl, hp, hw, q⟩ := h
    have hnlt : n < ways z := (List.getElem?_eq_some_iff.mp hw).1
    refine ⟨_, pss_cons (ps_expr (pe_c ca hr (by decide) (by rfl) (pa_cons (pv 0) pa_nil)))
      (pss_cons (ps_if (PW.pt (pw_or (pt_not (pt_val (pe_c ch hr (by decide) (by rfl) (pa_cons (pv 1) pa_nil)))) (pw_or1 (pt_not (pt_chain op_le op_lt pe_int (pv 1) (pe_c cw hr (by decide) (by rfl) (pa_cons (pv 0) (pa_cons pe_dnewK pa_nil)))))))) (pss_one ps_never) pss_nil)
      (pss_one (ps_ret (pe_c cy hr (by decide) (by rfl) (pa_cons (pv 0) (pa_cons (pv 1) pa_nil)))))), ?_⟩
    refine ⟨tx z, rfl, z, rfl, hp, fun H1 s1 => ?_⟩
    refine ⟨nV n, rfl, nV n, "int", true, false, rfl, .base (.int _), by decide +kernel, by decide +kernel, _, rfl, ifF rfl ?_⟩
    refine ⟨nV n, rfl, _, _, rfl, rfl, _, rfl, ifT (decide_eq_true (by omega)) ?_⟩
    refine ⟨tx z, rfl, fun d nd => ⟨z, d, rfl, hp, mleft_le9 hp, kn_new upd_same, fun H2 s2 _ => ⟨_, _, rfl, rfl, _, rfl, ifF ?_ ?_⟩⟩⟩
    · rw [decide_eq_true (show (n : Int) < (ways z : Nat) by omega)]
      rfl
    · have st2 := s1.trans (s2.same nd)
      exact ⟨tx z, rfl, nV n, rfl, z, n, wy, rfl, hp, hw, fun H3 p s3 np hl => q H3 p (st2.trans s3) (st2.free np) hl⟩
end
end PP

/-! ### own classes: methods by name, making; Leads and Never as the top has left them -/
namespace PP
open PySem PySem.Spec PyProof.Rows L2 SX PR PL
section
variable {P : Program} {w : World} {K : PySem.W.Frag} {mg : Str → Option Value} {base : Heap}
/-- a method of the text -/
structure Dm (K : PySem.W.Frag) (C : Addr) (m qual : Str) (st : Stmt) (ps : List Str) : Prop where
  ex : ∃ (f : Addr) (fd : FuncData), L2.Fun K m qual st f fd ∧ Binds K fd ps [] ∧ Meth K C m f
/-- .. that keeps sp -/
structure Mtd (P : Program) (w : World) (K : PySem.W.Frag) (mg : Str → Option Value) (base : Heap) (k : Nat) (C : Addr) (m : Str) (sp : Sp) : Prop where
  ex : ∃ (f : Addr) (fd : FuncData) (ps : List Str), FnOk P w K mg base L2.CX0 k f fd ps sp ∧ Meth K C m f ∧ Binds K fd ps []
theorem mtd_of {C : Addr} {m qual : Str} {st : Stmt} {N ps : List Str} {k : Nat} {sp : Sp} (D : Dm K C m qual st ps) (S : FnScope N ps (defScope st)) (len : ∀ vs H Q E, sp vs H Q E → vs.length = ps.length)
    (hbody : ∀ (f : Addr) (cdv : Value) (A : Around) (outer : List Env) (s : Shared) (H : Hp) (vs : List V) (Q : VK) (E : XK), Room k (A.deeper (envOfC qual (defScope st) s.heap.objs.size f cdv)) → sp vs H Q E →
      ∃ t, PSs (cxOf L2.CX0 P w K mg base N qual (defScope st) f cdv A outer s H E).nox (defBody st) t ∧ t { nx := fun _ H' => Q .non H', rt := Q } (start N vs) H) : Mtd P w K mg base (k + 1) C m sp := by
  obtain ⟨f, fd, F, b, g⟩ := D.ex
  exact ⟨f, fd, ps, F.ok S len (hbody f), g, b⟩
/-- a class by its name that may be made, its __init__ keeps sp -/
structure Mkr (P : Program) (w : World) (K : PySem.W.Frag) (mg : Str → Option Value) (base : Heap) (k : Nat) (x : Str) (C : Addr) (sp : Sp) : Prop where
  ex : ∃ (f : Addr) (fd : FuncData) (ps : List Str), FnOk P w K mg base L2.CX0 k f fd ps sp ∧ Mk K C f ∧ mg x = some (.ref C) ∧ Binds K fd ps []
/-- the class's __init__ as it stands -/
structure Di (K : PySem.W.Frag) (mg : Str → Option Value) (x : Str) (C : Addr) (qual : Str) (st : Stmt) (ps : List Str) : Prop where
  ex : ∃ (f : Addr) (fd : FuncData), L2.Fun K "__init__" qual st f fd ∧ Binds K fd ps [] ∧ Mk K C f ∧ mg x = some (.ref C)
theorem mkr_of {x : Str} {C : Addr} {qual : Str} {st : Stmt} {N ps : List Str} {k : Nat} {sp : Sp} (D : Di K mg x C qual st ps) (S : FnScope N ps (defScope st)) (len : ∀ vs H Q E, sp vs H Q E → vs.length = ps.length)
    (hbody : ∀ (f : Addr) (cdv : Value) (A : Around) (outer : List Env) (s : Shared) (H : Hp) (vs : List V) (Q : VK) (E : XK), Room k (A.deeper (envOfC qual (defScope st) s.heap.objs.size f cdv)) → sp vs H Q E →
      ∃ t, PSs (cxOf L2.CX0 P w K mg base N qual (defScope st) f cdv A outer s H E).nox (defBody st) t ∧ t { nx := fun _ H' => Q .non H', rt := Q } (start N vs) H) : Mkr P w K mg base (k + 1) x C sp := by
  obtain ⟨f, fd, F, b, M, g⟩ := D.ex
  exact ⟨f, fd, ps, F.ok S len (hbody f), M, g, b⟩
theorem cls_some {K : PySem.W.Frag} {D : Addr} {b : Value} {r : Bool} (h : PySem.W.mroIn K D b = some r) : (PySem.W.clsIn K D).isSome = true := by
  unfold PySem.W.mroIn at h
  cases e : PySem.W.clsIn K D with
  | none => rw [e] at h; cases h
  | some _ => rfl
theorem kit_self {K : PySem.W.Frag} {C : Addr} : PySem.W.kitOne K (.ref C) (.ref C) = some true := if_pos (beq_self_eq_true _)
theorem kit_own {K : PySem.W.Frag} {C D : Addr} {b : Bool} (ht : PySem.W.typeIn K (.ref D) = some (.type "type")) (hc : PySem.W.mroIn K D (.type "object") = some true) (hs : PySem.W.subIn K (.ref C) (.ref D) = some b) (hd : PySem.W.subIn K (.ref D) (.ref D) = some true) : PySem.W.kitOne K (.ref C) (.ref D) = some b := by
  by_cases e : C = D
  · subst e
    rw [hd] at hs
    rw [← hs]
    exact kit_self
  · have hn : ((Value.ref C == Value.ref D)) = false := by simpa using e
    unfold PySem.W.kitOne
    rw [hn]
    show (if ((PySem.W.clsIn K D).isSome && PySem.W.typeIn K (.ref D) == some (.type "type")) = true then PySem.W.subIn K (.ref C) (.ref D) else none) = some b
    rw [cls_some hc, ht, if_pos (by simp)]
    exact hs
/-- Answer, Leads, Never as the top has left them -/
structure Ans (K : PySem.W.Frag) (mg : Str → Option Value) (A L N : Addr) : Prop where
  iL : C8.InsC K L
  iN : C8.InsC K N
  mA : mg "Answer" = some (.ref A)
  mL : mg "Leads" = some (.ref L)
  mN : mg "Never" = some (.ref N)
  noP : NoAttr K L "pads"
  mkN : Mk0 K N
  LA : PySem.W.kitOne K (.ref L) (.ref A) = some true
  NA : PySem.W.kitOne K (.ref N) (.ref A) = some true
  LN : PySem.W.kitOne K (.ref L) (.ref N) = some false
  NL : PySem.W.kitOne K (.ref N) (.ref L) = some false
end
section
variable {X : Cx} {k j : Nat} {C : Addr} {x m : Str} {sp : Sp} {p pos apos : Pos} {e o : Expr} {es : List Expr} {t : TA} {ta : TE}
theorem pe_m {pl : Sem Bool} (he : PE X o ta) (cl : Cls X.K C) (c : Mtd X.prog X.w X.K X.mg X.base k C m sp) (hr : Room j X.A) (hk : k ≤ j) (ha : PA X (e :: es) t)
    (hst : starEach (e :: es) X.env = (false, eval e X.env) :: starEach es X.env := by rfl) (hpl : (backTo pos (starEach es X.env)).any (·.1) = false := by rfl)
    (ht : eval (.Call (.Attribute o m apos) (e :: es) [] pos) X.env = (do
      let ov ← eval o X.env
      standAt apos.atName
      let (f, first) ← holding [ov] (getMethod ov m pl)
      callWith pos f first (backTo pos (starEach (e :: es) X.env)) (backToKw pos (keywordEach [] X.env))) := by rfl) :
    PE X (.Call (.Attribute o m apos) (e :: es) [] pos) (tMeth C m sp [] L2.E0 ta t) := by
  obtain ⟨f, fd, ps, F, M, b⟩ := c.ex
  exact pe_meth (pl := pl) he cl M F (hr.mono hk) b .nil L2.pass0 ha hst hpl ht
theorem pe_mkr (c : Mkr X.prog X.w X.K X.mg X.base k x C sp) (hr : Room j X.A) (hk : k + 1 ≤ j) (hg : Gl X x) (ha : PA X (e :: es) t)
    (hdb : (x == ("__debug__" : Str)) = false := by decide) (he : starEach (e :: es) X.env = (false, eval e X.env) :: starEach es X.env := by rfl) (hpl : (backTo pos (starEach es X.env)).any (·.1) = false := by rfl) :
    PE X (.Call (.Name x p) (e :: es) [] pos) (tMake C sp [] L2.E0 t) := by
  obtain ⟨f, fd, ps, F, M, hm, b⟩ := c.ex
  exact pe_make M F (hr.mono hk) hg hm b .nil L2.pass0 ha hdb he hpl
/-- isinstance(e, C), C an own class -/
theorem pe_isO {a : Expr} {y : Str} {p1 p2 : Pos} (h1 : X.mg "isinstance" = none) (h2 : X.mg y = some (.ref C)) (g1 : Gl X "isinstance") (g2 : Gl X y) (ha : PE X a ta)
    (hd : (y == ("__debug__" : Str)) = false := by decide)
    (s1 : starEach [a, .Name y p2] X.env = (false, eval a X.env) :: starEach [.Name y p2] X.env := by rfl) (s2 : starEach [.Name y p2] X.env = (false, eval (.Name y p2) X.env) :: starEach [] X.env := by rfl) (hpl : (backTo pos (starEach [.Name y p2] X.env)).any (·.1) = false := by rfl) :
    PE X (.Call (.Name "isinstance" p1) [a, .Name y p2] [] pos) (tCB (rIsi X.K) (tCons ta (tCons (tC (.ref C)) tNil))) :=
  pe_callB call_isi g1 h1 (by decide +kernel) (pa_cons ha (pa_cons (pe_glob (v := .ref C) g2 h2 rfl hd) pa_nil s2) s1) (he := s1) (hpl := hpl)
end
section
variable {P : Program} {w : World} {K : PySem.W.Frag} {mg : Str → Option Value} {base : Heap}
theorem InsC.ty {C a dx : Addr} {H : Hp} {fs : List (Str × V)} (c : C8.InsC K C) (h : H a = some (.ins C dx fs)) : TyX K H (.ref a) (.ref C) := .base (.ins h c.cl c.ha c.hn c.htk c.hm)
/-- a Leads stands at p, its field at q -/
abbrev fP (q : Addr) : List (Str × V) := [("pads", .ref q)]
theorem no_shows (q : Addr) : (fP q).lookup ("shows" : Str) = none := by
  have h : (("shows" : Str) == ("pads" : Str)) = false := by decide +kernel
  show (match ("shows" : Str) == ("pads" : Str) with | true => some (V.ref q) | false => List.lookup ("shows" : Str) ([] : List (Str × V))) = none
  rw [h]
  rfl
def spInitL (K : PySem.W.Frag) (L : Addr) : Sp := fun vs H Q _ => ∃ (p dx a : Addr) (xs : List V), vs = [.ref p, .ref a] ∧ H p = some (.ins L dx []) ∧ SqL K H a xs ∧ ∀ q, H q = none → Q .non (upd (upd H q (.lst xs)) p (.ins L dx (fP q)))
theorem sc_initL : FnScope ["self", "pads"] ["self", "pads"] (defScope s_Leads_init) := ⟨rfl, rfl, rfl, by decide +kernel, rfl, by decide +kernel, by decide +kernel⟩
theorem c_initL {A L N : Addr} (Y : Ans K mg A L N) (T : Bl mg) (D : Di K mg "Leads" L "Leads.__init__" s_Leads_init ["self", "pads"]) : Mkr P w K mg base 1 "Leads" L (spInitL K L) := by
  refine mkr_of D sc_initL (fun vs H Q E h => ?_) (fun f cdv A outer s H vs Q E hr h => ?_)
  · obtain ⟨p, dx, a, xs, rfl, _⟩ := h
    rfl
  · obtain ⟨p, dx, a, xs, rfl, hp, hS, q⟩ := h
    refine ⟨_, pss_one (ps_fld (pv 0) (pe_callTy call_list_of (by rfl) T.list (by decide +kernel) (pa_cons (pv 1) pa_nil)) rfl), ?_⟩
    refine ⟨.ref a, rfl, a, xs, rfl, .inl hS, fun l nl => ⟨.ref p, rfl, p, L, dx, [], rfl, ?_, Y.iL.cl, Y.noP, (by show 0 < 1000; decide), q l nl⟩⟩
    rw [upd_ne (ne_of_none hp nl)]
    exact hp
theorem int_at {ns : List Int} {i : Nat} {x : V} (h : (ns.map V.int)[i]? = some x) : ∃ n, x = .int n ∧ ns[i]? = some n := by
  rw [List.getElem?_map] at h
  cases e : ns[i]? with
  | none => rw [e] at h; cases h
  | some n => rw [e] at h; exact ⟨n, (Option.some.inj h).symm, rfl⟩
end
end PP

/-! ### the answers' own words -/
namespace PP
open PySem PySem.Spec PyProof.Rows L2 SX PR PL
section
variable {P : Program} {w : World} {K : PySem.W.Frag} {mg : Str → Option Value} {base : Heap}
def spShowsL (K : PySem.W.Frag) (L : Addr) : Sp := fun vs H Q _ => ∃ (p dx q : Addr) (ns : List Int) (z : Zp), vs = [.ref p, tx z] ∧ pads z ≤ 60 ∧ H p = some (.ins L dx (fP q)) ∧ SqL K H q (ns.map V.int) ∧ ∀ H', Same H H' → Q (.bl (leadsB z ns)) H'
theorem sc_showsL : FnScope ["self", "standing", "here", "pad"] ["self", "standing"] (defScope s_Leads_shows) := ⟨rfl, rfl, rfl, by decide +kernel, rfl, by decide +kernel, by decide +kernel⟩
theorem c_showsL {A L N : Addr} (Y : Ans K mg A L N) (D : Dm K L "shows" "Leads.shows" s_Leads_shows ["self", "standing"]) (cg : Cal P w K mg base 1 "goal_of" spGoal) (cm : Cal P w K mg base 1 "movers" spMovers) (cb : Cal P w K mg base 1 "behind" spBehind) : Mtd P w K mg base 2 L "shows" (spShowsL K L) := by
  refine mtd_of D sc_showsL (fun vs H Q E h => ?_) (fun f cdv A outer s H vs Q E hr h => ?_)
  · obtain ⟨p, dx, q, ns, z, rfl, _⟩ := h
    rfl
  · obtain ⟨p, dx, qa, ns, z, rfl, hz, hp, hS, q⟩ := h
    have nd := sc_showsL.nd
    refine ⟨_, pss_cons (ps_set (i := 2) nd rfl (.inl rfl) (pv 1))
      (pss_cons (ps_for PassesOwn.never rfl (pi_list (pe_fld (pv 0) rfl)) (pg_name (i := 3) nd rfl (.inl rfl))
        (pss_cons (ps_if (pt_cmpR op_notIn_seq (pv 3) (pe_c cm hr (by decide) (by rfl) (pa_cons (pv 2) pa_nil)) (by rfl)) (pss_one (ps_ret pe_bl)) pss_nil)
        (pss_one (ps_set (i := 2) nd rfl (.inl rfl) (pe_c cb hr (by decide) (by rfl) (pa_cons (pv 2) (pa_cons (pv 3) pa_nil)))))))
      (pss_one (ps_ret (pe_cmpR op_eq (pv 2) (pe_c cg hr (by decide) (by rfl) (pa_cons (pv 1) pa_nil)) (nomark _))))), ?_⟩
    refine ⟨tx z, rfl, .ref p, rfl, p, L, dx, _, _, rfl, hp, Y.iL.cl, Y.noP, rfl, qa, rfl, ⟨_, hS⟩, for_list (K := K) (a := qa) (xs := ns.map V.int) (fun i σ H' => ∃ (y : Zp) (y3 : Option V), σ = [some (.ref p), some (tx z), some (tx y), y3] ∧ runI z (ns.take i) = some y ∧ Same H H')
      ⟨z, none, rfl, rfl, Same.refl _⟩ (fun i σ H' _ ⟨_, _, _, _, sx⟩ => sx.seq hS) ?_ ?_⟩
    · rintro i x σ H1 hx ⟨y, y3, rfl, hrun, s1⟩
      obtain ⟨n, rfl, hn⟩ := int_at hx
      obtain ⟨_, hpy⟩ := runI_same _ hrun
      refine ⟨.int n, rfl, tx y, rfl, y, rfl, by omega, fun H2 m s2 nm hm => ⟨m, (movers y).map nV, rfl, .inl (SqL.of hm), rfl, flat_nV _, _, rfl, ?_⟩⟩
      have ein : inV (.int n) ((movers y).map nV) = (stepI y n).isSome := by rw [in_nV, stepI_isSome]
      refine ifB (fun e => ?_) (fun e => ?_)
      · have e' : (stepI y n).isSome = false := by
          rw [← ein]
          simpa using e
        have hs : stepI y n = none := by
          cases h : stepI y n with
          | none => rfl
          | some _ => rw [h] at e'; cases e'
        rw [leadsB_stop hrun hn hs] at q
        exact q H2 (s1.trans s2)
      · have e' : (stepI y n).isSome = true := by
          rw [← ein]
          simpa using e
        obtain ⟨y', hs⟩ := Option.isSome_iff_exists.mp e'
        obtain ⟨pd, en, hy'⟩ := stepI_mem hs
        subst en
        refine ⟨tx y, rfl, nV pd, rfl, y, pd, y', rfl, hy', by omega, fun H3 s3 => ⟨y', _, rfl, ?_, s1.trans (s2.trans s3)⟩⟩
        rw [runI_turn hrun hn, hs]
    · rintro σ H1 ⟨y, y3, rfl, hrun, s1⟩
      rw [List.length_map, List.take_length] at hrun
      refine ⟨tx y, rfl, tx z, rfl, z, rfl, hz, fun H2 s2 => ⟨rfl, ?_⟩⟩
      have eb : decide (tx y = tx (goal z)) = leadsB z ns := by
        rw [leadsB_end hrun, dec_str]
        by_cases h : y = goal z
        · rw [decide_eq_true (congrArg cps h), decide_eq_true h]
        · rw [decide_eq_false fun e => h (cps_inj e), decide_eq_false h]
      rw [← eb] at q
      exact q H2 (s1.trans s2)
def spShowsN (N : Addr) : Sp := fun vs H Q _ => ∃ (p : Addr) (z : Zp), vs = [.ref p, tx z] ∧ pads z ≤ 9 ∧ ∀ H', Same H H' → Q (.bl (decide (ways z = 0))) H'
theorem sc_showsN : FnScope ["self", "standing"] ["self", "standing"] (defScope s_Never_shows) := ⟨rfl, rfl, rfl, by decide +kernel, rfl, by decide +kernel, by decide +kernel⟩
theorem c_showsN {N : Addr} (D : Dm K N "shows" "Never.shows" s_Never_shows ["self", "standing"]) (cw : Cal P w K mg base 26 "ways_of" (spWays 24)) : Mtd P w K mg base 27 N "shows" (spShowsN N) := by
  refine mtd_of D sc_showsN (fun vs H Q E h => ?_) (fun f cdv A outer s H vs Q E hr h => ?_)
  · obtain ⟨p, z, rfl, _⟩ := h
    rfl
  · obtain ⟨p, z, rfl, hz, q⟩ := h
    refine ⟨_, pss_one (ps_ret (pe_cmpR op_eq (pe_c cw hr (by decide) (by rfl) (pa_cons (pv 1) (pa_cons pe_dnewK pa_nil))) pe_int (nomark _))), ?_⟩
    refine ⟨tx z, rfl, fun d nd => ⟨z, d, rfl, hz, mleft_le9 hz, kn_new upd_same, fun H2 s2 _ => ⟨rfl, ?_⟩⟩⟩
    have eb : decide (nV (ways z) = V.int 0) = decide (ways z = 0) := by
      by_cases h : ways z = 0
      · rw [decide_eq_true h, h]; rfl
      · rw [decide_eq_false h, decide_eq_false fun e => h (by have := V.int.inj e; omega)]
    rw [← eb] at q
    exact q H2 (s2.same nd)
end
end PP

/-! ### led -/
namespace PP
open PySem PySem.Spec PyProof.Rows L2 SX PR PL
section
variable {P : Program} {w : World} {K : PySem.W.Frag} {mg : Str → Option Value} {base : Heap}
def spLed (L N : Addr) : Sp := fun vs H Q _ => ∃ z : Zp, vs = [tx z] ∧ pads z ≤ 9 ∧
  (∀ H' p dx q wy, (wl z)[0]? = some wy → Same H H' → H p = none → H q = none → p ≠ q → H' p = some (.ins L dx (fP q)) → H' q = some (.lst (wy.map nV)) → Q (.ref p) H') ∧
  (ways z = 0 → ∀ H' p dx, Same H H' → H p = none → H' p = some (.ins N dx []) → Q (.ref p) H')
theorem sc_led : FnScope ["standing"] ["standing"] (defScope s_led) := ⟨rfl, rfl, rfl, by decide +kernel, rfl, by decide +kernel, by decide +kernel⟩
theorem c_led {A L N : Addr} (Y : Ans K mg A L N) (D : Df K mg "led" s_led ["standing"]) (ca : Cal P w K mg base 2 "asked_small" spSmall) (cw : Cal P w K mg base 26 "ways_of" (spWays 24)) (cy : Cal P w K mg base 27 "way_of" spWayOf) (ci : Mkr P w K mg base 1 "Leads" L (spInitL K L)) :
    Cal P w K mg base 28 "led" (spLed L N) := by
  refine cal_of D sc_led (fun vs H Q E h => ?_) (fun f cdv A outer s H vs Q E hr h => ?_)
  · obtain ⟨z, rfl, _⟩ := h
    rfl
  · obtain ⟨z, rfl, hp, qL, qN⟩ := h
    refine ⟨_, pss_cons (ps_expr (pe_c ca hr (by decide) (by rfl) (pa_cons (pv 0) pa_nil)))
      (pss_one (ps_ret (pe_ifExp (pt_cmpR op_gt (pe_c cw hr (by decide) (by rfl) (pa_cons (pv 0) (pa_cons pe_dnewK pa_nil))) pe_int (nomark _))
        (pe_mkr ci hr (by decide) (by rfl) (pa_cons (pe_c cy hr (by decide) (by rfl) (pa_cons (pv 0) (pa_cons pe_int pa_nil))) pa_nil)) (pe_makeO Y.mkN (by rfl) Y.mN)))), ?_⟩
    refine ⟨tx z, rfl, z, rfl, hp, fun H1 s1 => ⟨tx z, rfl, fun d nd => ⟨z, d, rfl, hp, mleft_le9 hp, kn_new upd_same, fun H2 s2 _ => ⟨_, _, rfl, rfl, _, rfl, ifB (fun e => ?_) (fun e => ?_)⟩⟩⟩⟩
    · have hpos : 0 < ways z := by have := of_decide_eq_true e; omega
      obtain ⟨wy, hwy⟩ := ways_lt hpos
      have st2 := s1.trans (s2.same nd)
      refine ⟨tx z, rfl, z, 0, wy, rfl, hp, hwy, fun H3 a s3 na ha => ?_⟩
      intro x dx nx ndx nex
      have sx : Same H3 (upd (upd H3 dx (.own x)) x (.ins L dx [])) := (same_upd ndx).trans (same_upd (by rw [upd_ne nex.symm]; exact nx))
      refine ⟨x, dx, a, _, rfl, upd_same, SqL.of (sx _ _ ha), fun qa nq => ⟨rfl, ?_⟩⟩
      have st3 := st2.trans (s3.trans sx)
      have nxq : x ≠ qa := fun e => by rw [← e, upd_same] at nq; cases nq
      refine qL _ x dx qa wy hwy ?_ ((st2.trans s3).free nx) (st3.free nq) nxq upd_same ?_
      · exact same_upd2 (same_upd2 st3 (st3.free nq)) ((st2.trans s3).free nx)
      · rw [upd_ne nxq.symm, upd_same]
    · have h0 : ways z = 0 := by have := of_decide_eq_false e; omega
      have st2 := s1.trans (s2.same nd)
      intro x dx nx ndx nex
      have sx : Same H2 (upd (upd H2 dx (.own x)) x (.ins N dx [])) := (same_upd ndx).trans (same_upd (by rw [upd_ne nex.symm]; exact nx))
      exact qN h0 _ x dx (st2.trans sx) (st2.free nx) upd_same
end
end PP

/-! ### lists compared -/
namespace PP
open PySem PySem.Spec PyProof.Rows L2 SX PR PL
section
variable {K : PySem.W.Frag} {H : Hp}
abbrev dI (ns : List Int) : PyData := .list (ns.map PyData.int)
theorem dpAll_ints : ∀ ns : List Int, DpAll K H (ns.map V.int) (ns.map PyData.int)
  | [] => .nil
  | n :: r => .cons (.int n) (dpAll_ints r)
theorem dp_ints {a : Addr} {ns : List Int} (h : SqL K H a (ns.map V.int)) : Dp K H (.ref a) (dI ns) := .lst h (dpAll_ints ns)
theorem canLay_ints : ∀ ns : List Int, PyData.canLayAll0 (ns.map PyData.int) = true
  | [] => rfl
  | n :: r => by
    have := canLay_ints r
    simp [PyData.canLayAll0, PyData.canLay0, this]
theorem depth_ints : ∀ ns : List Int, PyData.depthAll (ns.map PyData.int) ≤ 1
  | [] => by simp [PyData.depthAll]
  | n :: r => by
    have := depth_ints r
    simp [PyData.depthAll, PyData.depth]
    omega
theorem shaped_ints (ns : List Int) : SeqAt.shaped (dI ns) = true := by
  unfold SeqAt.shaped
  rw [Bool.and_eq_true]
  refine ⟨?_, decide_eq_true ?_⟩
  · simpa [PyData.canLay0] using canLay_ints ns
  · have := depth_ints ns
    simp [PyData.depth]
    omega
theorem eqvAll_ints : ∀ ms ns : List Int, PyData.eqvAll (ms.map PyData.int) (ns.map PyData.int) = decide (ms = ns)
  | [], [] => by simp [PyData.eqvAll]
  | [], n :: r => by simp [PyData.eqvAll]
  | m :: r, [] => by simp [PyData.eqvAll]
  | m :: r, n :: q => by
    have := eqvAll_ints r q
    simp only [List.map_cons, PyData.eqvAll, PyData.eqv, this]
    by_cases h1 : m = n <;> by_cases h2 : r = q <;> simp [h1, h2]
theorem eqv_ints (ms ns : List Int) : PyData.eqv (dI ms) (dI ns) = decide (ms = ns) := by
  rw [PyData.eqv]
  exact eqvAll_ints ms ns
def zs (l : List Nat) : List Int := l.map fun n : Nat => (n : Int)
theorem nV_ints (l : List Nat) : l.map nV = (zs l).map V.int := by unfold zs; rw [List.map_map]; rfl
theorem zs_inj : ∀ {l m : List Nat}, zs l = zs m → l = m
  | [], [], _ => rfl
  | [], _ :: _, h => by simp [zs] at h
  | _ :: _, [], h => by simp [zs] at h
  | x :: r, y :: q, h => by
    simp only [zs, List.map_cons, List.cons.injEq] at h
    rw [zs_inj (l := r) (m := q) h.2, show x = y by omega]
theorem zs_len (l : List Nat) : (zs l).length = l.length := by simp [zs]
theorem eqv_nats (l m : List Nat) : PyData.eqv (dI (zs l)) (dI (zs m)) = decide (l = m) := by
  rw [eqv_ints]
  by_cases h : l = m
  · subst h; simp
  · rw [decide_eq_false h, decide_eq_false fun e => h (zs_inj e)]
theorem dp_nats {a : Addr} {l : List Nat} (h : H a = some (.lst (l.map nV))) : Dp K H (.ref a) (dI (zs l)) := dp_ints (SqL.of (by rw [h, nV_ints]))
end
end PP

/-! ### lists of lists -/
namespace PP
open PySem PySem.Spec PyProof.Rows L2 SX PR PL
theorem pr_append {α β : Type} {F : α → β → Prop} : ∀ {l1 l2 : List α} {m1 m2 : List β}, Paired F l1 m1 → Paired F l2 m2 → Paired F (l1 ++ l2) (m1 ++ m2)
  | _, _, _, _, .nil, h => h
  | _, _, _, _, .cons a t, h => .cons a (pr_append t h)
theorem pr_len {α β : Type} {F : α → β → Prop} : ∀ {l : List α} {m : List β}, Paired F l m → l.length = m.length
  | _, _, .nil => rfl
  | _, _, .cons _ t => by rw [List.length_cons, List.length_cons, pr_len t]
theorem pr_get {α β : Type} {F : α → β → Prop} : ∀ {l : List α} {m : List β} {i : Nat} {b : β}, Paired F l m → m[i]? = some b → ∃ a, l[i]? = some a ∧ F a b
  | _, _, _, _, .nil, e => by simp at e
  | _, _, 0, _, .cons r _, e => by simp at e; subst e; exact ⟨_, rfl, r⟩
  | _, _, i + 1, b, .cons _ t, e => by
    obtain ⟨a, h1, h2⟩ := pr_get (i := i) (b := b) t (by simpa using e)
    exact ⟨a, by simpa using h1, h2⟩
theorem pr_get2 {α β : Type} {F : α → β → Prop} : ∀ {l : List α} {m : List β} {i : Nat} {a : α}, Paired F l m → l[i]? = some a → ∃ b, m[i]? = some b ∧ F a b
  | _, _, _, _, .nil, e => by simp at e
  | _, _, 0, _, .cons r _, e => by simp at e; subst e; exact ⟨_, rfl, r⟩
  | _, _, i + 1, a, .cons _ t, e => by
    obtain ⟨b, h1, h2⟩ := pr_get2 (i := i) (a := a) t (by simpa using e)
    exact ⟨b, by simpa using h1, h2⟩
theorem pr_imp {α β : Type} {F G : α → β → Prop} : ∀ {l : List α} {m : List β}, Paired F l m → (∀ a b, F a b → G a b) → Paired G l m
  | _, _, .nil, _ => .nil
  | _, _, .cons r t, f => .cons (f _ _ r) (pr_imp t f)
/-- at p a list of lists of pads -/
def LL (H : Hp) (p : Addr) (ws : List (List Nat)) : Prop := ∃ qs : List Addr, H p = some (.lst (qs.map V.ref)) ∧ Paired (fun q wy => H q = some (.lst (wy.map nV))) qs ws
theorem LL.same {H H' : Hp} {p : Addr} {ws : List (List Nat)} (h : LL H p ws) (s : Same H H') : LL H' p ws := by
  obtain ⟨qs, h1, h2⟩ := h
  exact ⟨qs, s _ _ h1, pr_imp h2 fun q wy e => s _ _ e⟩
theorem LL.sb {H H' : Hp} {p d : Addr} {ws : List (List Nat)} {kvs : List (Key × V)} (h : LL H p ws) (hd : H d = some (.dK kvs)) (s : Sb d H H') : LL H' p ws := by
  obtain ⟨qs, h1, h2⟩ := h
  exact ⟨qs, s _ _ (ne_of h1 hd (by intro q; cases q)) h1, pr_imp h2 fun q wy e => s _ _ (ne_of e hd (by intro q; cases q)) e⟩
end PP

/-! ### lists of lists compared; lists of truths -/
namespace PP
open PySem PySem.Spec PyProof.Rows L2 SX PR PL
section
variable {K : PySem.W.Frag} {H : Hp}
abbrev dLL (ws : List (List Nat)) : PyData := .list (ws.map fun wy => dI (zs wy))
theorem dpAll_LL : ∀ {qs : List Addr} {ws : List (List Nat)}, Paired (fun q wy => H q = some (.lst (wy.map nV))) qs ws → DpAll K H (qs.map V.ref) (ws.map fun wy => dI (zs wy))
  | _, _, .nil => .nil
  | _, _, .cons h t => .cons (dp_nats h) (dpAll_LL t)
theorem dp_LL {p : Addr} {ws : List (List Nat)} (h : LL H p ws) : Dp K H (.ref p) (dLL ws) := by
  obtain ⟨qs, h1, h2⟩ := h
  exact .lst (SqL.of h1) (dpAll_LL h2)
theorem canLay_LL : ∀ ws : List (List Nat), PyData.canLayAll0 (ws.map fun wy => dI (zs wy)) = true
  | [] => rfl
  | w :: r => by
    have h1 := canLay_LL r
    have h2 := canLay_ints (zs w)
    simp [PyData.canLayAll0, PyData.canLay0, h1, h2]
theorem depth_LL : ∀ ws : List (List Nat), PyData.depthAll (ws.map fun wy => dI (zs wy)) ≤ 2
  | [] => by simp [PyData.depthAll]
  | w :: r => by
    have h1 := depth_LL r
    have h2 := depth_ints (zs w)
    simp [PyData.depthAll, PyData.depth]
    omega
theorem shaped_LL (ws : List (List Nat)) : SeqAt.shaped (dLL ws) = true := by
  unfold SeqAt.shaped
  rw [Bool.and_eq_true]
  refine ⟨?_, decide_eq_true ?_⟩
  · simpa [PyData.canLay0] using canLay_LL ws
  · have := depth_LL ws
    simp [PyData.depth]
    omega
theorem eqv_LL_nil (ws : List (List Nat)) : PyData.eqv (dLL ws) (dI (zs [])) = decide (ws = []) := by
  rw [PyData.eqv]
  cases ws with
  | nil => simp [PyData.eqvAll, zs]
  | cons w r => simp [PyData.eqvAll, zs]
theorem eqv_bb {a b c d : Bool} (h1 : a = c) (h2 : b = d) : (!PyData.eqv (.list [.bool a, .bool b]) (.list [.bool c, .bool d])) = false := by
  subst h1 h2
  cases a <;> cases b <;> decide +kernel
theorem shaped_bb (a b : Bool) : SeqAt.shaped (.list [.bool a, .bool b]) = true := by cases a <;> cases b <;> decide +kernel
theorem Room.u65 {k : Nat} {A : Around} (r : L2.Room k A) : A.units + 65 < cLine := by have := r.un; omega
end
end PP

/-! ### lists of texts compared; a dict that keeps standings -/
namespace PP
open PySem PySem.Spec PyProof.Rows L2 SX PR PL
section
variable {K : PySem.W.Frag} {H : Hp}
abbrev dT (l : List Zp) : PyData := .list (l.map fun z => PyData.str (S (cps z)))
theorem dpAll_T : ∀ l : List Zp, DpAll K H (l.map tx) (l.map fun z => PyData.str (S (cps z)))
  | [] => .nil
  | z :: r => .cons (.str _) (dpAll_T r)
theorem dp_T {p : Addr} {l : List Zp} (h : H p = some (.lst (l.map tx))) : Dp K H (.ref p) (dT l) := .lst (SqL.of h) (dpAll_T l)
theorem strOk_z (z : Zp) : PyData.strOk (S (cps z)) = true := by
  unfold PyData.strOk
  rw [← Array.all_toList]
  refine List.all_eq_true.mpr fun c hc => ?_
  have hc' : c ∈ cps z := by simpa using hc
  rcases sgs_cps z c hc' with e | e | e <;> (rw [e]; decide)
theorem canLay_T : ∀ l : List Zp, PyData.canLayAll0 (l.map fun z => PyData.str (S (cps z))) = true
  | [] => rfl
  | z :: r => by
    have h1 := canLay_T r
    have h2 := strOk_z z
    simp [PyData.canLayAll0, PyData.canLay0, h1, h2]
theorem depth_T : ∀ l : List Zp, PyData.depthAll (l.map fun z => PyData.str (S (cps z))) ≤ 1
  | [] => by simp [PyData.depthAll]
  | z :: r => by
    have h1 := depth_T r
    simp [PyData.depthAll, PyData.depth]
    omega
theorem shaped_T (l : List Zp) : SeqAt.shaped (dT l) = true := by
  unfold SeqAt.shaped
  rw [Bool.and_eq_true]
  refine ⟨?_, decide_eq_true ?_⟩
  · simpa [PyData.canLay0] using canLay_T l
  · have := depth_T l
    simp [PyData.depth]
    omega
theorem S_eq (a b : List Nat) : (S a == S b) = decide (a = b) := by
  by_cases h : a = b
  · subst h; simp
  · rw [decide_eq_false h]
    exact beq_eq_false_iff_ne.mpr fun e => h (S_inj e)
theorem eqvAll_T : ∀ l m : List Zp, PyData.eqvAll (l.map fun z => PyData.str (S (cps z))) (m.map fun z => PyData.str (S (cps z))) = decide (l = m)
  | [], [] => by simp [PyData.eqvAll]
  | [], n :: r => by simp [PyData.eqvAll]
  | m :: r, [] => by simp [PyData.eqvAll]
  | y :: r, z :: q => by
    have ih := eqvAll_T r q
    simp only [List.map_cons, PyData.eqvAll, PyData.eqv, ih, S_eq]
    by_cases h1 : y = z
    · subst h1
      by_cases h2 : r = q <;> simp [h2]
    · have : ¬ cps y = cps z := fun e => h1 (cps_inj e)
      simp [h1, this]
theorem eqv_T (l m : List Zp) : PyData.eqv (dT l) (dT m) = decide (l = m) := by
  rw [PyData.eqv]
  exact eqvAll_T l m
/-- the dict that found is -/
abbrev kd (fs : List Zp) : List (Key × V) := fs.map fun y => (kz y, V.bl true)
theorem kd_in {fs : List Zp} {x : Zp} (h : x ∈ fs) : valV (kd fs) (kz x) = some (.bl true) := by
  unfold valV
  cases e : (kd fs).find? (fun kv => decide (kv.1 = kz x)) with
  | none =>
    have := List.find?_eq_none.mp e (kz x, V.bl true) (List.mem_map.mpr ⟨x, h, rfl⟩)
    simp at this
  | some kv =>
    obtain ⟨y, _, ey⟩ := List.mem_map.mp (List.mem_of_find?_eq_some e)
    rw [← ey]
    rfl
theorem kd_out {fs : List Zp} {x : Zp} (h : x ∉ fs) : valV (kd fs) (kz x) = none := by
  unfold valV
  have e : (kd fs).find? (fun kv => decide (kv.1 = kz x)) = none := by
    refine List.find?_eq_none.mpr fun kv hkv => ?_
    obtain ⟨y, hy, ey⟩ := List.mem_map.mp hkv
    rw [← ey]
    have : ¬ kz y = kz x := fun e => h (kz_inj e ▸ hy)
    simp [this]
  rw [e]
  rfl
theorem kd_put {fs : List Zp} {x : Zp} (h : x ∉ fs) : putK (kd fs) (kz x) (.bl true) = kd (fs ++ [x]) := by
  rw [putK_new _ (kd_out h)]
  show _ = (fs ++ [x]).map _
  rw [List.map_append]
  rfl
theorem snoc_cases {α : Type} (l : List α) (h : l ≠ []) : ∃ m x, l = m ++ [x] := by
  refine ⟨l.dropLast, l.getLast h, ?_⟩
  exact (List.dropLast_concat_getLast h).symm
theorem movers_nil (y : Zp) : movers y = [] ↔ next y = [] := by
  unfold movers
  exact List.map_eq_nil_iff
theorem tx_at {ws : List Zp} {i : Nat} {x : V} (hx : (ws.map tx)[i]? = some x) : ∃ y, ws[i]? = some y ∧ x = tx y := by
  rw [List.getElem?_map] at hx
  cases e : ws[i]? with
  | none => rw [e] at hx; cases hx
  | some u => rw [e] at hx; exact ⟨u, rfl, (Option.some.inj hx).symm⟩
theorem flat_tx (ws : List Zp) : (ws.map tx).all flatV = true := by
  rw [List.all_map]
  exact List.all_eq_true.mpr fun _ _ => rfl
theorem in_tx {x : Zp} {ws : List Zp} (h : x ∈ ws) : inV (tx x) (ws.map tx) = true := by
  unfold inV
  rw [List.any_map]
  refine List.any_eq_true.mpr ⟨x, h, ?_⟩
  show eqV (tx x) (tx x) = true
  simp [eqV]
end
end PP

/-! ### come_by_all, come_by, stuck -/
namespace PP
open PySem PySem.Spec PyProof.Rows L2 SX PR PL
section
variable {P : Program} {w : World} {K : PySem.W.Frag} {mg : Str → Option Value} {base : Heap}
def spAll : Sp := fun vs H Q _ => ∃ z : Zp, vs = [tx z] ∧ pads z ≤ 9 ∧ ∀ H' p ws, Same H H' → H p = none → IsRch z ws → (ws.map cps).Pairwise (· < ·) → H' p = some (.lst (ws.map tx)) → Q (.ref p) H'
abbrev nmAll : List Str := ["standing", "found", "line", "here", "pad", "there"]
theorem sc_comeall : FnScope nmAll ["standing"] (defScope s_come_by_all) := ⟨rfl, rfl, rfl, by decide +kernel, rfl, by decide +kernel, by decide +kernel⟩
theorem big4097 {n : Nat} (h : n ≤ 4097) : n < sizeLine := Nat.lt_of_le_of_lt h (by decide)
theorem c_comeall (D : Df K mg "come_by_all" s_come_by_all ["standing"]) (T : Bl mg) (cm : Cal P w K mg base 1 "movers" spMovers) (cb : Cal P w K mg base 1 "behind" spBehind) : Cal P w K mg base 2 "come_by_all" spAll := by
  refine cal_of D sc_comeall (fun vs H Q E h => ?_) (fun f cdv A outer s H vs Q E hr h => ?_)
  · obtain ⟨z, rfl, _⟩ := h
    rfl
  · obtain ⟨z, rfl, hz, q⟩ := h
    have nd := sc_comeall.nd
    refine ⟨_, (pss_cons (ps_par (i := 1) (j := 2) (by rfl) nd rfl rfl (by decide) rfl rfl (pa_cons (pe_disp (pps_cons (pv 0) pe_bl pps_nil) (by rfl) (by rfl) (fun z => by cases z) (by decide)) (pa_cons (pe_lst (pa_cons (pv 0) pa_nil)) pa_nil)) (by rfl))
      (pss_cons (ps_while PassesOwn.never (pt_cmpR (op_neD hr.units) (pv 2) (pe_lst pa_nil) (nomark _))
      (pss_cons (ps_set (i := 3) nd rfl (.inl rfl) (pe_bm0 PySem.F.plainAttrs_list PySem.F.slot_list_pop PySem.F.type_list_pop mt_pop (pv 2)))
      (pss_one (ps_for PassesOwn.never rfl (pi_list (pe_c cm hr (by decide) (by rfl) (pa_cons (pv 3) pa_nil))) (pg_name (i := 4) nd rfl (.inl rfl))
      (pss_cons (ps_set (i := 5) nd rfl (.inl rfl) (pe_c cb hr (by decide) (by rfl) (pa_cons (pv 3) (pa_cons (pv 4) pa_nil))))
      (pss_one (ps_if (pt_cmp (pc_dnotin (hu_of hr) (pv 5) (pv 1)))
      (pss_cons (ps_dput (hu_of hr) (pv 1) (pv 5) pe_bl rfl)
      (pss_one (ps_expr (pe_bm PySem.F.plainAttrs_list PySem.F.slot_list_append PySem.F.type_list_append mt_append (pv 2) (pa_cons (pv 5) pa_nil)))))
      pss_nil)))))))
      (pss_one (ps_ret (pe_callB cr_sortedT (by rfl) T.sorted (by decide +kernel) (pa_cons (pe_callTy (call_listD rfl) (by rfl) T.list (by decide +kernel) (pa_cons (pv 1) pa_nil)) pa_nil)))))), ?_⟩
    intro d nd1
    refine ⟨tx z, rfl, upd_same, [(kz z, V.bl true)], rfl, (by show 1 ≤ 15; decide), ?_⟩
    generalize e1 : upd (upd H d _) d _ = H1
    have s1 : Same H H1 := by rw [← e1]; exact same_upd2 (same_upd nd1) nd1
    have hd1 : H1 d = some (.dK (kd [z])) := by rw [← e1]; exact upd_same
    refine ⟨tx z, rfl, (by show 1 ≤ sizeLine; decide), fun l nl => ⟨_, _, rfl, ?_⟩⟩
    have nl0 : H l = none := s1.free nl
    have ndl : d ≠ l := ne_of_none hd1 nl
    let W : Nat → L2.St → Hp → Prop := fun m σ H' => ∃ (fs ln : List Zp) (y3 y4 y5 : Option V), m = 2 * (4097 - fs.length) + ln.length ∧ σ = [some (tx z), some (.ref d), some (.ref l), y3, y4, y5] ∧ H' d = some (.dK (kd fs)) ∧ H' l = some (.lst (ln.map tx)) ∧ Sk z fs ln ∧ Same H H'
    refine ⟨W, ⟨_, [z], [z], none, none, none, rfl, rfl, by rw [upd_ne ndl]; exact hd1, upd_same, Sk.start z, same_upd2 s1 nl0⟩, ?_⟩
    rintro m σ H2 ⟨fs, ln, y3, y4, y5, rfl, rfl, hd2, hl2, sk, s2⟩
    refine ⟨.ref l, rfl, Nat.zero_le _, fun e ne => ⟨dT ln, dT [], dp_T ((same_upd ne) _ _ hl2), dp_T upd_same, shaped_T _, shaped_T _, _, rfl, ifB (fun e1 => ?_) (fun e1 => ?_)⟩⟩
    · rw [eqv_T] at e1
      have hne : ln ≠ [] := by simpa using e1
      obtain ⟨ln0, h, rfl⟩ := snoc_cases ln hne
      generalize e3 : upd H2 e _ = H3
      have s23 : Same H2 H3 := by rw [← e3]; exact same_upd ne
      have hd3 := s23 _ _ hd2
      have hl3 := s23 _ _ hl2
      have s3 := s2.trans s23
      refine ⟨fun σ' H' => ∃ m', m' < 2 * (4097 - fs.length) + (ln0 ++ [h]).length ∧ W m' σ' H', fun _ _ h => h, ?_⟩
      refine ⟨.ref l, rfl, .inl ⟨rfl, _, SqL.of hl3⟩, l, _, tx h, rfl, rfl, hl3, by simp, ?_⟩
      generalize e4 : upd H3 l _ = H4
      have hl4 : H4 l = some (.lst (ln0.map tx)) := by rw [← e4, upd_same]; simp
      have hd4 : H4 d = some (.dK (kd fs)) := by rw [← e4, upd_ne ndl]; exact hd3
      have s4 : Same H H4 := by rw [← e4]; exact same_upd2 s3 nl0
      have hh9 : pads h ≤ 9 := by rw [(sk.rc h (sk.sub h (by simp))).pads]; exact hz
      refine ⟨tx h, rfl, h, rfl, by omega, fun H5 p s45 np hp => ?_⟩
      refine ⟨p, rfl, ⟨_, SqL.of hp⟩, for_list (K := K) (a := p) (xs := (movers h).map nV) (fun i σ H' => ∃ (fs' ln' : List Zp) (y4 y5 : Option V), σ = [some (tx z), some (.ref d), some (.ref l), some (tx h), y4, y5] ∧ H' d = some (.dK (kd fs')) ∧ H' l = some (.lst (ln'.map tx)) ∧ H' p = some (.lst ((movers h).map nV)) ∧ Ski z h i fs' ln' ∧ 2 * (4097 - fs'.length) + ln'.length < 2 * (4097 - fs.length) + (ln0 ++ [h]).length ∧ Same H H')
        ⟨fs, ln0, _, _, rfl, s45 _ _ hd4, s45 _ _ hl4, hp, sk.pop, by rw [List.length_append]; show _ < _ + (_ + 1); omega, s4.trans s45⟩ (fun i σ H' _ ⟨_, _, _, _, _, _, _, h, _⟩ => SqL.of h) ?_ ?_⟩
      · rintro i x σ H6 hx ⟨fs', ln', y4, y5, rfl, hd6, hl6, hp6, si, hm, s6⟩
        obtain ⟨pd, y, hq, rfl, hy⟩ := mover_ix hx
        refine ⟨tx h, rfl, nV pd, rfl, h, pd, y, rfl, hy, by omega, fun H7 s67 => ?_⟩
        have hd7 := s67 _ _ hd6
        have hl7 := s67 _ _ hl6
        have hp7 := s67 _ _ hp6
        have s7 := s6.trans s67
        have g := DGet.k (k := kz y) hd7
        by_cases hin : y ∈ fs'
        · rw [kd_in hin] at g
          exact ⟨tx y, rfl, .ref d, rfl, d, _, rfl, g, _, rfl, ifF rfl ⟨fs', ln', _, _, rfl, hd7, hl7, hp7, si.old hq hin, hm, s7⟩⟩
        · rw [kd_out hin] at g
          have sn := si.new hq hin
          have h97 := len9 hz sn.nd sn.rc
          have h98 : ln'.length ≤ 4097 := by
            have h1 := si.le
            rw [List.length_append] at h97
            omega
          have hfl : (kd fs').length < sizeLine := by
            rw [List.length_append] at h97
            rw [List.length_map]
            exact big4097 (by have : ([y] : List Zp).length = 1 := rfl; omega)
          refine ⟨tx y, rfl, .ref d, rfl, d, _, rfl, g, _, rfl, ifT rfl ?_⟩
          refine ⟨.ref d, rfl, tx y, rfl, d, _, rfl, DPut.k (k := kz y) hd7 hfl, ?_⟩
          rw [kd_put hin]
          generalize e8 : upd H7 d _ = H8
          have hd8 : H8 d = some (.dK (kd (fs' ++ [y]))) := by rw [← e8]; exact upd_same
          have hl8 : H8 l = some (.lst (ln'.map tx)) := by rw [← e8, upd_ne ndl.symm]; exact hl7
          have hp8 : H8 p = some (.lst ((movers h).map nV)) := by rw [← e8, upd_ne (ne_of hp7 hd7 (by intro q; cases q))]; exact hp7
          have s8 : Same H H8 := by rw [← e8]; exact same_upd2 s7 nd1
          have npl : p ≠ l := (ne_of_none hl4 np).symm
          refine ⟨.ref l, rfl, .inl ⟨rfl, _, SqL.of hl8⟩, tx y, rfl, l, _, _, rfl, rfl, hl8, ?_, ?_⟩
          · rw [List.length_map]
            exact Nat.lt_of_le_of_lt h98 (by decide)
          refine ⟨fs' ++ [y], ln' ++ [y], _, _, rfl, by rw [upd_ne ndl]; exact hd8, by rw [upd_same, List.map_append]; rfl, by rw [upd_ne npl]; exact hp8, sn, ?_, same_upd2 s8 nl0⟩
          have h99 : fs'.length + 1 ≤ 4097 := by rw [List.length_append] at h97; exact h97
          have h1 : (fs' ++ [y]).length = fs'.length + 1 := by simp
          have h2 : (ln' ++ [y]).length = ln'.length + 1 := by simp
          rw [h1, h2]
          omega
      · rintro σ H6 ⟨fs', ln', y4, y5, rfl, hd6, hl6, hp6, si, hm, s6⟩
        refine ⟨_, hm, fs', ln', _, _, _, rfl, rfl, hd6, hl6, si.done ?_, s6⟩
        unfold movers
        rw [List.length_map, List.length_map]
        exact Nat.le_refl _
    · rw [eqv_T] at e1
      have hln : ln = [] := by simpa using e1
      subst hln
      generalize e3 : upd H2 e _ = H3
      have s23 : Same H2 H3 := by rw [← e3]; exact same_upd ne
      have hd3 := s23 _ _ hd2
      have s3 := s2.trans s23
      have ra := sk.all
      refine ⟨.ref d, rfl, d, _, rfl, .inl hd3, fun p np => ?_⟩
      generalize e4 : upd H3 p _ = H4
      have s34 : Same H3 H4 := by rw [← e4]; exact same_upd np
      have hp4 : H4 p = some (.lst ((fs.map fun z => S (cps z)).map V.str)) := by
        rw [← e4, upd_same, List.map_map, List.map_map]
        rfl
      refine ⟨p, fs.map fun z => S (cps z), rfl, SqL.of hp4, fun ys p2 perm srt np2 => ?_⟩
      obtain ⟨ws, rfl, pw, hs⟩ := sorted_zs perm srt ra.nd
      have s4 := s3.trans s34
      refine q _ p2 ws (same_upd2 s4 (s4.free np2)) (s4.free np2) ⟨pw.nodup_iff.mpr ra.nd, fun y => (pw.mem_iff).trans (ra.mem y)⟩ hs ?_
      rw [upd_same, List.map_map]
      rfl
/-- come_by -/
def spCome : Sp := fun vs H Q _ => ∃ z : Zp, vs = [tx z] ∧ pads z ≤ 9 ∧ ∀ H', Same H H' → Q (nV (rset z).length) H'
theorem sc_comeby : FnScope ["standing"] ["standing"] (defScope s_come_by) := ⟨rfl, rfl, rfl, by decide +kernel, rfl, by decide +kernel, by decide +kernel⟩
theorem c_come (D : Df K mg "come_by" s_come_by ["standing"]) (T : Bl mg) (ca : Cal P w K mg base 2 "asked_small" spSmall) (cl : Cal P w K mg base 2 "come_by_all" spAll) : Cal P w K mg base 3 "come_by" spCome := by
  refine cal_of D sc_comeby (fun vs H Q E h => ?_) (fun f cdv A outer s H vs Q E hr h => ?_)
  · obtain ⟨z, rfl, _⟩ := h
    rfl
  · obtain ⟨z, rfl, hz, q⟩ := h
    refine ⟨_, pss_cons (ps_expr (pe_c ca hr (by decide) (by rfl) (pa_cons (pv 0) pa_nil))) (pss_one (ps_ret (pe_callB call_len_seq (by rfl) T.len PySem.boot_len (pa_cons (pe_c cl hr (by decide) (by rfl) (pa_cons (pv 0) pa_nil)) pa_nil)))), ?_⟩
    refine ⟨tx z, rfl, z, rfl, hz, fun H1 s1 => ⟨tx z, rfl, z, rfl, hz, fun H2 p ws s2 np ra _ hp => ⟨p, _, rfl, .inl (SqL.of hp), ?_⟩⟩⟩
    rw [List.length_map, ra.count]
    exact q H2 (s1.trans s2)
/-- stuck -/
def spStuck : Sp := fun vs H Q _ => ∃ z : Zp, vs = [tx z] ∧ pads z ≤ 9 ∧ ∀ H' p ws, Same H H' → H p = none → IsStk z ws → H' p = some (.lst (ws.map tx)) → ws.length ≤ 4097 → Q (.ref p) H'
theorem sc_stuck : FnScope ["standing", "some"] ["standing"] (defScope s_stuck) := ⟨rfl, rfl, rfl, by decide +kernel, rfl, by decide +kernel, by decide +kernel⟩
theorem c_stuck (D : Df K mg "stuck" s_stuck ["standing"]) (T : Bl mg) (ca : Cal P w K mg base 2 "asked_small" spSmall) (cl : Cal P w K mg base 2 "come_by_all" spAll) (cm : Cal P w K mg base 1 "movers" spMovers) (cg : Cal P w K mg base 1 "goal_of" spGoal) : Cal P w K mg base 3 "stuck" spStuck := by
  refine cal_of D sc_stuck (fun vs H Q E h => ?_) (fun f cdv A outer s H vs Q E hr h => ?_)
  · obtain ⟨z, rfl, _⟩ := h
    rfl
  · obtain ⟨z, rfl, hz, q⟩ := h
    have nd := sc_stuck.nd
    refine ⟨_, (pss_cons (ps_expr (pe_c ca hr (by decide) (by rfl) (pa_cons (pv 0) pa_nil)))
      (pss_one (ps_ret (pe_lc (own := [("some", 1)]) (g := gName 1) (by rfl) nd (pi_list (pe_c cl hr (by decide) (by rfl) (pa_cons (pv 0) pa_nil))) (blkOk_by (own := [("some", 1)]) (N := ["standing", "some"]) (sc := defScope s_stuck) (by decide +kernel)) (fun _ _ _ _ _ => pg_name (i := 1) nd rfl (Or.inl rfl)) (fun _ _ _ _ _ => (pts_one (PW.pt (pw_and (pt_cmpR (r := rEqD K) (op_eqD hr.units) (pe_c cm hr (by decide) (by rfl) (pa_cons (pv 1) pa_nil)) (pe_lst pa_nil) (nomark _)) (pw_and1 (pt_cmpR op_ne (pv 1) (pe_c cg hr (by decide) (by rfl) (pa_cons (pv 1) pa_nil)) (nomark _))))))) (fun _ _ _ _ _ => (pv 1)))))), ?_⟩
    refine ⟨tx z, rfl, z, rfl, hz, fun H1 s1 => ⟨tx z, rfl, z, rfl, hz, fun H2 p ws s2 np ra hs hp => ⟨p, rfl, ⟨_, SqL.of hp⟩, fun Dl nD => ?_⟩⟩⟩
    have st2 := s1.trans s2
    have h97 := ra.le hz
    refine lc_it (walk_list (K := K) (a := p) (xs := ws.map tx)) (fun i H' => Same H2 H' ∧ H' Dl = some (.lst (((ws.take i).filter isStuck).map tx))) ⟨same_upd nD, upd_same⟩ (fun i H' _ ⟨sa, _⟩ => SqL.of (sa _ _ hp)) ?_ ?_
    · rintro i x H3 _ hi ⟨s3, h3⟩ ⟨rfl, hx⟩
      obtain ⟨y, hy, rfl⟩ : ∃ y, ws[i]? = some y ∧ x = tx y := by
        rw [List.getElem?_map] at hx
        cases e : ws[i]? with
        | none => rw [e] at hx; cases hx
        | some u => rw [e] at hx; exact ⟨u, rfl, (Option.some.inj hx).symm⟩
      have hy9 : pads y ≤ 9 := by rw [((ra.mem y).mp (List.mem_of_getElem? hy)).pads]; exact hz
      have yes : isStuck y = true → ((ws.take (i + 1)).filter isStuck).map tx = ((ws.take i).filter isStuck).map tx ++ [tx y] := fun e => by
        rw [List.take_succ, hy, List.filter_append, List.map_append]
        simp [e]
      have no : isStuck y = false → ((ws.take (i + 1)).filter isStuck).map tx = ((ws.take i).filter isStuck).map tx := fun e => by
        rw [List.take_succ, hy, List.filter_append, List.map_append]
        simp [e]
      refine ⟨rfl, tx y, rfl, y, rfl, by omega, fun H4 pm s4 npm hpm => ⟨Nat.zero_le _, fun e ne => ⟨dI (zs (movers y)), dI (zs []), dp_nats ((same_upd ne) _ _ hpm), dp_nats upd_same, shaped_ints _, shaped_ints _, _, rfl, ifB (fun e1 => ?_) (fun e1 => ?_)⟩⟩⟩
      · rw [eqv_nats] at e1
        have hn : next y = [] := (movers_nil y).mp (by simpa using e1)
        refine ⟨tx y, rfl, tx y, rfl, y, rfl, by omega, fun H5 s5 => ⟨rfl, _, rfl, ifB (fun e2 => ?_) (fun e2 => ?_)⟩⟩
        · rw [dec_str] at e2
          have hg : y ≠ goal y := fun h => by rw [decide_eq_true (congrArg cps h)] at e2; cases e2
          have es : isStuck y = true := by unfold isStuck; rw [decide_eq_true hn, decide_eq_true hg]; rfl
          refine ⟨tx y, rfl, _, (s4.trans ((same_upd ne).trans s5)) _ _ h3, ?_, same_upd2 (s3.trans (s4.trans ((same_upd ne).trans s5))) nD, ?_⟩
          · rw [List.length_map]
            have h1 := List.length_filter_le isStuck (ws.take i)
            rw [List.length_take] at h1
            exact big4097 (by omega)
          · rw [upd_same, yes es]
        · rw [dec_str] at e2
          have hg : y = goal y := by
            refine cps_inj ?_
            cases h : decide (cps y = cps (goal y)) with
            | true => exact of_decide_eq_true h
            | false => rw [h] at e2; cases e2
          have es : isStuck y = false := by unfold isStuck; rw [decide_eq_false (p := y ≠ goal y) fun n => n hg, Bool.and_false]
          refine ⟨s3.trans (s4.trans ((same_upd ne).trans s5)), ?_⟩
          rw [no es]
          exact (s4.trans ((same_upd ne).trans s5)) _ _ h3
      · rw [eqv_nats] at e1
        have hn : next y ≠ [] := fun h => by rw [decide_eq_true ((movers_nil y).mpr h)] at e1; cases e1
        have es : isStuck y = false := by unfold isStuck; rw [decide_eq_false hn]; rfl
        refine ⟨s3.trans (s4.trans (same_upd ne)), ?_⟩
        rw [no es]
        exact (s4.trans (same_upd ne)) _ _ h3
    · rintro H3 ⟨s3, h3⟩
      rw [List.length_map, List.take_length] at h3
      refine q H3 Dl (ws.filter isStuck) (st2.trans s3) (st2.free nD) ⟨?_, fun y => ?_⟩ h3 ?_
      · exact List.Pairwise.sublist (List.filter_sublist.map cps) hs
      · rw [List.mem_filter, ra.mem]
      · exact Nat.le_trans (List.length_filter_le _ _) h97
end
end PP

/-! ### defs that refuse: what leaves them is of the class C, and has no context -/
namespace PP
open PySem PySem.Spec PyProof.Rows L2 SX PR PL
theorem takesN0 {X : Cx} : L2N.Takes X (fun _ _ _ _ => False) := fun _ _ x => by
  obtain ⟨_, _, _, _, _, _, _, _, _, _, _, _, _, _, _, _, z⟩ := x
  exact z.elim
/-- a class of errors of the text, under its name -/
structure Er (K : PySem.W.Frag) (mg : Str → Option Value) (x : Str) (C : Addr) : Prop where
  g : mg x = some (.ref C)
  k : PySem.W.keepIn K (.ref C) = true
  e : PySem.W.excIn K C [.type "ValueError", .type "Exception", .type "BaseException", .type "object"] "ValueError.__new__" = true
  s : PySem.W.subIn K (.ref C) (.type "BaseException") = some true
  t : PySem.W.typeIn K (.ref C) = some (.type "type")
section
variable {P : Program} {w : World} {K : PySem.W.Frag} {mg : Str → Option Value} {base : Heap}
/-- a def that may be called by its name and keeps sp; what it raises has no context -/
structure CalN (P : Program) (w : World) (K : PySem.W.Frag) (mg : Str → Option Value) (base : Heap) (k : Nat) (x : Str) (sp : Sp) : Prop where
  ex : ∃ (f : Addr) (fd : FuncData) (ps : List Str), FnOk P w K mg base (L2N.CX P w) k f fd ps sp ∧ mg x = some (.ref f) ∧ PySem.W.keepIn K (.ref f) = true ∧ Binds K fd ps []
theorem calN_of {x : Str} {st : Stmt} {N ps : List Str} {k : Nat} {sp : Sp} (D : Df K mg x st ps) (S : FnScope N ps (defScope st)) (len : ∀ vs H Q E, sp vs H Q E → vs.length = ps.length)
    (hbody : ∀ (f : Addr) (cdv : Value) (A : Around) (outer : List Env) (s : Shared) (H : Hp) (vs : List V) (Q : VK) (E : XK), Room k (A.deeper (envOfC x (defScope st) s.heap.objs.size f cdv)) → L2N.Takes (cxOf (L2N.CX P w) P w K mg base N x (defScope st) f cdv A outer s H E) (fun cls d _ H => E cls d H) → sp vs H Q E →
      ∃ t, PSs (cxOf (L2N.CX P w) P w K mg base N x (defScope st) f cdv A outer s H E) (defBody st) t ∧ t { nx := fun _ H' => Q .non H', rt := Q } (start N vs) H) : CalN P w K mg base (k + 1) x sp := by
  obtain ⟨f, fd, F, b, g⟩ := D.ex
  obtain ⟨oc, od, kV, doc, pm, an, cdv, ct, osl, rfl, lk, hcd⟩ := F.ex
  exact ⟨f, _, ps, fn_of lk hcd S len fun A outer s H vs Q E hr hsp => hbody f cdv A outer s H vs Q E hr (L2N.takes_of rfl rfl rfl rfl) hsp, g, F.kp, b⟩
end
section
variable {X : Cx} {k j : Nat} {x : Str} {sp : Sp} {p pos : Pos} {e : Expr} {es : List Expr} {t : TA} {W : WX} {E : XK}
theorem pe_cN (c : CalN X.prog X.w X.K X.mg X.base k x sp) (tk : L2N.Takes X (fun cls d _ H => E cls d H)) (hr : Room j X.A) (hk : k ≤ j) (hg : Gl X x) (ha : PA X (e :: es) t)
    (hdb : (x == ("__debug__" : Str)) = false := by decide) (he : starEach (e :: es) X.env = (false, eval e X.env) :: starEach es X.env := by rfl) (hpl : (backTo pos (starEach es X.env)).any (·.1) = false := by rfl) :
    PE X (.Call (.Name x p) (e :: es) [] pos) (tCall sp [] E t) := by
  obtain ⟨f, fd, ps, F, hm, kp, b⟩ := c.ex
  exact pe_call F (hr.mono hk) hg hm kp b .nil (L2N.passes_call tk fun _ _ _ _ h => h) ha hdb he hpl
/-- raise X('m') -/
theorem ps_rz {C : Addr} {m : Str} {i : Nat} {p2 pos2 : Pos} (hc : X.calm = true) (tk : L2N.Takes X W) (r : Er X.K X.mg x C) (hg : Gl X x) (hdb : (x == ("__debug__" : Str)) = false := by decide) :
    PS X (.Raise (some (.Call (.Name x p) [.Constant (.str m) i p2] [] pos)) none pos2) (fun _ σ H => W (.ref C) none σ H) :=
  L2N.ps_raise hc tk (L2N.pmk_own PySem.F.excBase_ValueError r.e r.g r.k (raises_own r.s r.t) hg hdb)
end
/-- a sign of a standing -/
def okc (c : Nat) : Bool := inV (V.str (S [c])) [V.str (Str.ofString "a"), V.str (Str.ofString "b"), V.str (Str.ofString ".")]
/-- the text l is a standing -/
def okl (l : List Nat) : Bool := decide (1 ≤ l.length) && decide (l.length ≤ 60) && l.all okc && decide (l.count 46 = 1)
/-- v is no standing -/
inductive BadS (K : PySem.W.Frag) (H : Hp) : V → Prop
  | ty {v : V} {a : String} (t : TyX K H v (.type a)) (k : kitB a "str" = some false) : BadS K H v
  | tx {l : List Nat} (n : l.length ≤ 1000) (h : okl l = false) : BadS K H (.str (S l))
section
variable {P : Program} {w : World} {K : PySem.W.Frag} {mg : Str → Option Value} {base : Heap}
/-- what is no standing is refused -/
def spBadS (K : PySem.W.Frag) (C : Addr) : Sp := fun vs H _ E => ∃ v, vs = [v] ∧ BadS K H v ∧ ∀ H', Same H H' → E (.ref C) none H'
theorem n_asked {C : Addr} (D : Df K mg "asked_standing" s_asked_standing ["standing"]) (T : Bl mg) (hM : ∃ t, mg "MOST" = some (.int 60 t)) (R : Er K mg "BadStanding" C) : CalN P w K mg base 1 "asked_standing" (spBadS K C) := by
  obtain ⟨tM, hM⟩ := hM
  refine calN_of D sc_asked (fun vs H Q E h => ?_) (fun f cdv A outer s H vs Q E hr tk h => ?_)
  · obtain ⟨v, rfl, _⟩ := h
    rfl
  · obtain ⟨v, rfl, hv, q⟩ := h
    refine ⟨_, pss_cons (ps_if (PW.pt (pw_or (pt_not (pt_val (pe_isi (T := "str") T.isi T.str (by rfl) (by rfl) (pv 0) (by decide +kernel))))
        (pw_or1 (pt_not (pt_chain op_le op_le pe_int (pe_callB call_len_str (by rfl) T.len PySem.boot_len (pa_cons (pv 0) pa_nil)) (pe_glob (v := .int 60) (by rfl) hM ⟨_, rfl⟩)))))) (pss_one (ps_rz rfl tk R (by rfl))) pss_nil)
      (pss_one (ps_if (PW.pt (pw_or (pt_not (pt_val (pe_callB (cr_all rfl) (by rfl) T.all (by decide +kernel) (pa_cons
          (pe_lc (own := [("sign", 1)]) (g := gName 1) (tt := tYes) (by rfl) sc_asked.nd (pi_str (pv 0)) (blkOk_by (own := [("sign", 1)]) (N := ["standing", "sign"]) (sc := defScope s_asked_standing) (by decide +kernel))
            (fun _ _ _ _ _ => pg_name (i := 1) sc_asked.nd rfl (Or.inl rfl)) (fun _ _ _ _ _ => pts_nil)
            (fun _ _ _ _ _ => pe_cmpR (r := rIn K false) op_in_seq (pv 1) (pe_tup (pa_cons pe_str (pa_cons pe_str (pa_cons pe_str pa_nil)))) (by rfl))) pa_nil))))
        (pw_or1 (pt_cmpR op_ne (pe_m1 PySem.F.slot_str_count PySem.F.type_str_count mt_count (pv 0) pe_str) pe_int (nomark _))))) (pss_one (ps_rz rfl tk R (by rfl))) pss_nil)), ?_⟩
    cases hv with
    | ty t k =>
      exact ⟨v, rfl, v, .ty "str", _, .type "str", false, rfl, .ty _, t, kit_ty k, false, rfl, iteT (q _ (Same.refl _))⟩
    | @tx l n hb =>
      refine ⟨_, rfl, _, .ty "str", .type "str", .type "str", true, rfl, .ty _, .base (.str _), kit_ty (by decide +kernel), true, rfl, ?_⟩
      refine iteF ?_
      have hl : (S l).length = l.length := S_len _
      refine ⟨_, rfl, _, rfl, small (by rw [hl]; exact n), 1, _, rfl, rfl, _, rfl, ?_⟩
      refine ifB (fun h1 => ?_) (fun h1 => ⟨_, rfl, iteT (q _ (Same.refl _))⟩)
      have h1 : 1 ≤ l.length := by
        have := of_decide_eq_true h1
        rw [hl] at this
        omega
      refine ⟨_, 60, rfl, rfl, _, rfl, ?_⟩
      refine ifB (fun h2 => q _ (Same.refl _)) fun h2 => ?_
      have h2 : l.length ≤ 60 := by
        have := of_decide_eq_true (by simpa using h2 : decide (((S l).length : Int) ≤ 60) = true)
        rw [hl] at this
        omega
      refine ⟨_, rfl, S l, rfl, fun D nD => ?_⟩
      refine lc_it (walk_strL (l := l)) (fun i H' => Same H H' ∧ H' D = some (.lst (((l.take i).map okc).map V.bl))) ⟨same_upd nD, upd_same⟩ (fun _ _ _ _ => trivial) ?_ ?_
      · rintro i x H1 H2 hi ⟨s1, g1⟩ ⟨rfl, c, hc, rfl⟩
        refine ⟨rfl, _, rfl, (by show 3 ≤ sizeLine; decide), fun t nt => ⟨t, _, rfl, .inr (SqT.of upd_same), rfl, rfl, ?_⟩⟩
        have nDt : D ≠ t := ne_of_none g1 nt
        refine ⟨_, by rw [upd_ne nDt]; exact g1, ?_, ?_, ?_⟩
        · exact L2.small1000 (by simp; omega)
        · exact same_upd2 (same_upd2 s1 (s1.free nt)) nD
        · rw [upd_same, List.take_succ, hc]
          show some (HO.lst (((l.take i).map okc).map V.bl ++ [V.bl (okc c)])) = _
          simp
      · rintro H1 ⟨s1, g1⟩
        refine ⟨D, l.map okc, rfl, SqL.of (by rw [g1, List.take_length]), _, rfl, ?_⟩
        refine ifB (fun h3 => q _ s1) fun h3 => ?_
        refine ⟨_, rfl, ⟨_, rfl⟩, _, _, rfl, rfl, rfl, _, rfl, ?_⟩
        refine ifB (fun h4 => q _ s1) fun h4 => ?_
        exfalso
        rw [s_dot, count_S] at h4
        have h3 : l.all okc = true := by simpa using h3
        have h4 : l.count 46 = 1 := by
          have : ((l.count 46 : Nat) : Int) = 1 := by simpa using h4
          omega
        unfold okl at hb
        rw [h3, h4, decide_eq_true h1, decide_eq_true h2] at hb
        cases hb
end
end PP

/-! ### the doors, asked what they refuse -/
namespace PP
open PySem PySem.Spec PyProof.Rows L2 SX PR PL
/-- what a door of one parameter refuses, by which class -/
def spRz (R : Hp → V → Addr → Prop) : Sp := fun vs H _ E => ∃ v C, vs = [v] ∧ R H v C ∧ ∀ H', Same H H' → E (.ref C) none H'
def spRz2 (R : Hp → V → V → Addr → Prop) : Sp := fun vs H _ E => ∃ v u C, vs = [v, u] ∧ R H v u C ∧ ∀ H', Same H H' → E (.ref C) none H'
/-- no standing, or too many pads -/
def RBig (K : PySem.W.Frag) (C0 C4 : Addr) : Hp → V → Addr → Prop := fun H v C => (C = C0 ∧ BadS K H v) ∨ (C = C4 ∧ ∃ z : Zp, v = tx z ∧ 10 ≤ pads z ∧ pads z ≤ 60)
/-- no whole number -/
def NW (K : PySem.W.Frag) (H : Hp) (u : V) : Prop := ∃ (a : String) (r1 r2 : Bool), TyX K H u (.type a) ∧ kitB a "int" = some r1 ∧ kitB a "bool" = some r2 ∧ (r1 && !r2) = false
/-- no standing; no pad of one that can move -/
def RMoved (K : PySem.W.Frag) (C0 C1 : Addr) : Hp → V → V → Addr → Prop := fun H v u C => (C = C0 ∧ BadS K H v) ∨ (C = C1 ∧ ∃ z : Zp, v = tx z ∧ pads z ≤ 60 ∧ (NW K H u ∨ ∃ n : Int, u = .int n ∧ inV (.int n) ((movers z).map nV) = false))
/-- no counts -/
def RExch (K : PySem.W.Frag) (C2 : Addr) : Hp → V → V → Addr → Prop := fun H v u C => C = C2 ∧ (NW K H v ∨ ∃ n : Int, v = .int n ∧ (NW K H u ∨ ∃ m : Int, u = .int m ∧ (n < 0 ∨ m < 0)))
/-- no small standing; no number of a way -/
def RWay (K : PySem.W.Frag) (C0 C3 C4 : Addr) : Hp → V → V → Addr → Prop := fun H v u C => RBig K C0 C4 H v C ∨ (C = C3 ∧ ∃ z : Zp, v = tx z ∧ pads z ≤ 9 ∧ (NW K H u ∨ ∃ n : Int, u = .int n ∧ (n < 0 ∨ (ways z : Int) ≤ n)))
open LamX in
theorem tyx_ext {K : PySem.W.Frag} {H H' : Hp} {v : V} {t : Value} (s : ExtN H H') (h : TyX K H v t) : TyX K H' v t := by
  cases h with
  | base h =>
    refine .base ?_
    cases h with
    | non => exact .non
    | bl x => exact .bl x
    | int i => exact .int i
    | str x => exact .str x
    | flt x => exact .flt x
    | lst e => exact .lst (s _ _ e fun _ z => by cases z)
    | frz e => exact .frz (s _ _ e fun _ z => by cases z)
    | tup e => exact .tup (s _ _ e fun _ z => by cases z)
    | dK e => exact .dK (s _ _ e fun _ z => by cases z)
    | dT e => exact .dT (s _ _ e fun _ z => by cases z)
    | ins e cl ha hn htk hm => exact .ins (s _ _ e fun _ z => by cases z) cl ha hn htk hm
  | byt b => exact .byt b
  | set e => exact .set (s _ _ e fun _ z => by cases z)
  | kList e c => exact .kList e c
  | kTuple e c => exact .kTuple e c
  | kDict e c => exact .kDict e c
  | fTuple e => exact .fTuple (s _ _ e fun _ z => by cases z)
  | fDict e => exact .fDict (s _ _ e fun _ z => by cases z)
theorem tyx_same {K : PySem.W.Frag} {H H' : Hp} {v : V} {t : Value} (s : Same H H') (h : TyX K H v t) : TyX K H' v t := tyx_ext (LamX.ExtN.of s) h
open LamX in
theorem bads_ext {K : PySem.W.Frag} {H H' : Hp} {v : V} (s : ExtN H H') (h : BadS K H v) : BadS K H' v := by
  cases h with
  | ty t k => exact .ty (tyx_ext s t) k
  | tx n h => exact .tx n h
open LamX in
theorem nw_ext {K : PySem.W.Frag} {H H' : Hp} {v : V} (s : ExtN H H') (h : NW K H v) : NW K H' v := by
  obtain ⟨a, r1, r2, t, h⟩ := h
  exact ⟨a, r1, r2, tyx_ext s t, h⟩
section
variable {P : Program} {w : World} {K : PySem.W.Frag} {mg : Str → Option Value} {base : Heap} {C0 C1 C2 C3 C4 : Addr}
theorem n_small (D : Df K mg "asked_small" s_asked_small ["standing"]) (T : Bl mg) (hM : ∃ t, mg "SMALL" = some (.int 9 t)) (R : Er K mg "TooMany" C4) (na : CalN P w K mg base 1 "asked_standing" (spBadS K C0)) (ca : Cal P w K mg base 1 "asked_standing" spAsked) :
    CalN P w K mg base 2 "asked_small" (spRz (RBig K C0 C4)) := by
  obtain ⟨tM, hM⟩ := hM
  refine calN_of D sc_small (fun vs H Q E h => ?_) (fun f cdv A outer s H vs Q E hr tk h => ?_)
  · obtain ⟨v, C, rfl, _⟩ := h
    rfl
  · obtain ⟨v, C, rfl, hv, q⟩ := h
    refine ⟨_, pss_cons (ps_expr (pe_either (pe_cN na tk hr (by decide) (by rfl) (pa_cons (pv 0) pa_nil)) (pe_c ca hr (by decide) (by rfl) (pa_cons (pv 0) pa_nil))))
      (pss_one (ps_if (pt_cmpR op_gt (pe_callB call_len_str (by rfl) T.len PySem.boot_len (pa_cons (pv 0) pa_nil)) (pe_glob (v := .int 9) (by rfl) hM ⟨_, rfl⟩) (nomark _)) (pss_one (ps_rz rfl tk R (by rfl))) pss_nil)), ?_⟩
    rcases hv with ⟨rfl, hb⟩ | ⟨rfl, z, rfl, h1, h2⟩
    · exact .inl ⟨v, rfl, v, rfl, hb, fun H1 s1 => q H1 s1⟩
    · refine .inr ⟨tx z, rfl, z, rfl, by omega, fun H1 s1 => ?_⟩
      have hl : (S (cps z)).length = pads z := by rw [S_len, cps_len]
      exact ⟨tx z, rfl, _, rfl, small (by omega), _, _, rfl, rfl, _, rfl, ifT (decide_eq_true (by rw [hl]; omega)) (q H1 s1)⟩
theorem n_moved (D : Df K mg "moved" s_moved ["standing", "pad"]) (R : Er K mg "BadPad" C1) (na : CalN P w K mg base 1 "asked_standing" (spBadS K C0)) (ca : Cal P w K mg base 1 "asked_standing" spAsked) (cw : Cal P w K mg base 1 "is_whole" (spWhole K)) (cm : Cal P w K mg base 1 "movers" spMovers) :
    CalN P w K mg base 2 "moved" (spRz2 (RMoved K C0 C1)) := by
  refine calN_of D (N := ["standing", "pad"]) ⟨rfl, rfl, rfl, by decide +kernel, rfl, by decide +kernel, by decide +kernel⟩ (fun vs H Q E h => ?_) (fun f cdv A outer s H vs Q E hr tk h => ?_)
  · obtain ⟨v, u, C, rfl, _⟩ := h
    rfl
  · obtain ⟨v, u, C, rfl, hv, q⟩ := h
    refine ⟨_, pss_cons (ps_expr (pe_either (pe_cN na tk hr (by decide) (by rfl) (pa_cons (pv 0) pa_nil)) (pe_c ca hr (by decide) (by rfl) (pa_cons (pv 0) pa_nil))))
      (pss_cons (ps_if (PW.pt (pw_or (pt_not (pt_val (pe_c cw hr (by decide) (by rfl) (pa_cons (pv 1) pa_nil)))) (pw_or1 (pt_cmpR op_notIn_seq (pv 1) (pe_c cm hr (by decide) (by rfl) (pa_cons (pv 0) pa_nil)) (by rfl))))) (pss_one (ps_rz rfl tk R (by rfl))) pss_nil)
      (pss_one ps_never)), ?_⟩
    rcases hv with ⟨rfl, hb⟩ | ⟨rfl, z, rfl, hp, hn⟩
    · exact .inl ⟨v, rfl, v, rfl, hb, fun H1 s1 => q H1 s1⟩
    · refine .inr ⟨tx z, rfl, z, rfl, by omega, fun H1 s1 => ?_⟩
      rcases hn with ⟨a, r1, r2, t, k1, k2, e⟩ | ⟨n, rfl, e⟩
      · exact ⟨u, rfl, u, a, r1, r2, rfl, tyx_same s1 t, k1, k2, _, rfl, ifT (by rw [e]; rfl) (q H1 s1)⟩
      · refine ⟨.int n, rfl, .int n, "int", true, false, rfl, .base (.int _), by decide +kernel, by decide +kernel, _, rfl, ifF rfl ?_⟩
        refine ⟨.int n, rfl, tx z, rfl, z, rfl, hp, fun H2 m s2 nm hm => ?_⟩
        refine ⟨m, (movers z).map nV, rfl, .inl (SqL.of hm), rfl, flat_nV _, _, rfl, ifT ?_ (q _ (s1.trans s2))⟩
        rw [if_pos rfl, e]
        rfl
theorem n_exch (D : Df K mg "exchange" s_exchange ["one", "other"]) (R : Er K mg "BadCount" C2) (cw : Cal P w K mg base 1 "is_whole" (spWhole K)) : CalN P w K mg base 2 "exchange" (spRz2 (RExch K C2)) := by
  refine calN_of D (N := ["one", "other"]) ⟨rfl, rfl, rfl, by decide +kernel, rfl, by decide +kernel, by decide +kernel⟩ (fun vs H Q E h => ?_) (fun f cdv A outer s H vs Q E hr tk h => ?_)
  · obtain ⟨v, u, C, rfl, _⟩ := h
    rfl
  · obtain ⟨v, u, C, rfl, ⟨rfl, hv⟩, q⟩ := h
    refine ⟨_, pss_cons (ps_if (PW.pt (pw_or (pt_not (pt_val (pe_c cw hr (by decide) (by rfl) (pa_cons (pv 0) pa_nil)))) (pw_or (pt_not (pt_val (pe_c cw hr (by decide) (by rfl) (pa_cons (pv 1) pa_nil))))
        (pw_or (pt_cmpR op_lt (pv 0) pe_int (nomark _)) (pw_or1 (pt_cmpR op_lt (pv 1) pe_int (nomark _))))))) (pss_one (ps_rz rfl tk R (by rfl))) pss_nil)
      (pss_one ps_never), ?_⟩
    have q := q H (Same.refl _)
    rcases hv with ⟨a, r1, r2, t, k1, k2, e⟩ | ⟨n, rfl, hv⟩
    · exact ⟨v, rfl, v, a, r1, r2, rfl, t, k1, k2, _, rfl, ifT (by rw [e]; rfl) q⟩
    · refine ⟨.int n, rfl, .int n, "int", true, false, rfl, .base (.int _), by decide +kernel, by decide +kernel, _, rfl, ifF rfl ?_⟩
      rcases hv with ⟨a, r1, r2, t, k1, k2, e⟩ | ⟨m, rfl, hv⟩
      · exact ⟨u, rfl, u, a, r1, r2, rfl, t, k1, k2, _, rfl, ifT (by rw [e]; rfl) q⟩
      · refine ⟨.int m, rfl, .int m, "int", true, false, rfl, .base (.int _), by decide +kernel, by decide +kernel, _, rfl, ifF rfl ?_⟩
        refine ⟨.int n, rfl, _, _, rfl, rfl, _, rfl, ifB (fun _ => q) fun h1 => ?_⟩
        have h1 := of_decide_eq_false h1
        exact ⟨.int m, rfl, _, _, rfl, rfl, _, rfl, ifT (decide_eq_true (by omega)) q⟩
theorem n_wayby (D : Df K mg "way_by" s_way_by ["standing", "number"]) (R : Er K mg "BadNumber" C3) (na : CalN P w K mg base 2 "asked_small" (spRz (RBig K C0 C4))) (ca : Cal P w K mg base 2 "asked_small" spSmall) (ch : Cal P w K mg base 1 "is_whole" (spWhole K)) (cw : Cal P w K mg base 26 "ways_of" (spWays 24)) :
    CalN P w K mg base 27 "way_by" (spRz2 (RWay K C0 C3 C4)) := by
  refine calN_of D (N := ["standing", "number"]) ⟨rfl, rfl, rfl, by decide +kernel, rfl, by decide +kernel, by decide +kernel⟩ (fun vs H Q E h => ?_) (fun f cdv A outer s H vs Q E hr tk h => ?_)
  · obtain ⟨v, u, C, rfl, _⟩ := h
    rfl
  · obtain ⟨v, u, C, rfl, hv, q⟩ := h
    refine ⟨_, pss_cons (ps_expr (pe_either (pe_cN na tk hr (by decide) (by rfl) (pa_cons (pv 0) pa_nil)) (pe_c ca hr (by decide) (by rfl) (pa_cons (pv 0) pa_nil))))
      (pss_cons (ps_if (PW.pt (pw_or (pt_not (pt_val (pe_c ch hr (by decide) (by rfl) (pa_cons (pv 1) pa_nil)))) (pw_or1 (pt_not (pt_chain op_le op_lt pe_int (pv 1) (pe_c cw hr (by decide) (by rfl) (pa_cons (pv 0) (pa_cons pe_dnewK pa_nil)))))))) (pss_one (ps_rz rfl tk R (by rfl))) pss_nil)
      (pss_one ps_never)), ?_⟩
    rcases hv with hb | ⟨rfl, z, rfl, hp, hn⟩
    · exact .inl ⟨v, rfl, v, C, rfl, hb, fun H1 s1 => q H1 s1⟩
    · refine .inr ⟨tx z, rfl, z, rfl, by omega, fun H1 s1 => ?_⟩
      rcases hn with ⟨a, r1, r2, t, k1, k2, e⟩ | ⟨n, rfl, e⟩
      · exact ⟨u, rfl, u, a, r1, r2, rfl, tyx_same s1 t, k1, k2, _, rfl, ifT (by rw [e]; rfl) (q H1 s1)⟩
      · refine ⟨.int n, rfl, .int n, "int", true, false, rfl, .base (.int _), by decide +kernel, by decide +kernel, _, rfl, ifF rfl ?_⟩
        refine ⟨.int n, rfl, _, _, rfl, rfl, _, rfl, ifB (fun h1 => ?_) fun h1 => ⟨_, rfl, iteT (q _ s1)⟩⟩
        have h1 := of_decide_eq_true h1
        refine ⟨tx z, rfl, fun d nd => ⟨z, d, rfl, hp, mleft_le9 hp, kn_new upd_same, fun H2 s2 _ => ⟨_, _, rfl, rfl, _, rfl, ifT ?_ (q _ (s1.trans (s2.same nd)))⟩⟩⟩
        rw [decide_eq_false (show ¬ (n : Int) < (ways z : Nat) by omega)]
        rfl
/-- a door that looks at its standing first -/
theorem n_door {x : Str} {st : Stmt} {rest : List Stmt} {p1 p2 p3 p4 : Pos} (D : Df K mg x st ["standing"]) (S : FnScope ["standing"] ["standing"] (defScope st))
    (hb : defBody st = .Expr (.Call (.Name "asked_standing" p1) [.Name "standing" p2] [] p3) p4 :: rest) (hg : (defScope st).names.lookup ("asked_standing" : Str) = some .globalImplicit) (hv : Vis (defScope st) "standing")
    (na : CalN P w K mg base 1 "asked_standing" (spBadS K C0)) : CalN P w K mg base 2 x (spBadS K C0) := by
  refine calN_of D S (fun vs H Q E h => ?_) (fun f cdv A outer s H vs Q E hr tk h => ?_)
  · obtain ⟨v, rfl, _⟩ := h
    rfl
  · obtain ⟨v, rfl, hv', q⟩ := h
    rw [hb]
    refine ⟨_, pss_cons (ps_expr (pe_cN na tk hr (by decide) ?_ (pa_cons (pe_var (i := 0) rfl hv) pa_nil))) pss_never, ?_⟩
    · exact hg
    · exact ⟨v, rfl, v, rfl, hv', q⟩
theorem n_doorS {x : Str} {st : Stmt} {rest : List Stmt} {p1 p2 p3 p4 : Pos} (D : Df K mg x st ["standing"]) (S : FnScope ["standing"] ["standing"] (defScope st))
    (hb : defBody st = .Expr (.Call (.Name "asked_small" p1) [.Name "standing" p2] [] p3) p4 :: rest) (hg : (defScope st).names.lookup ("asked_small" : Str) = some .globalImplicit) (hv : Vis (defScope st) "standing")
    (na : CalN P w K mg base 2 "asked_small" (spRz (RBig K C0 C4))) : CalN P w K mg base 3 x (spRz (RBig K C0 C4)) := by
  refine calN_of D S (fun vs H Q E h => ?_) (fun f cdv A outer s H vs Q E hr tk h => ?_)
  · obtain ⟨v, C, rfl, _⟩ := h
    rfl
  · obtain ⟨v, C, rfl, hv', q⟩ := h
    rw [hb]
    refine ⟨_, pss_cons (ps_expr (pe_cN na tk hr (by decide) ?_ (pa_cons (pe_var (i := 0) rfl hv) pa_nil))) pss_never, ?_⟩
    · exact hg
    · exact ⟨v, rfl, v, C, rfl, hv', q⟩
theorem n_moves (D : Df K mg "moves" s_moves ["standing"]) (na : CalN P w K mg base 1 "asked_standing" (spBadS K C0)) : CalN P w K mg base 2 "moves" (spBadS K C0) :=
  n_door D ⟨rfl, rfl, rfl, by decide +kernel, rfl, by decide +kernel, by decide +kernel⟩ rfl rfl (.inl rfl) na
theorem n_goal (D : Df K mg "goal" s_goal ["standing"]) (na : CalN P w K mg base 1 "asked_standing" (spBadS K C0)) : CalN P w K mg base 2 "goal" (spBadS K C0) :=
  n_door D ⟨rfl, rfl, rfl, by decide +kernel, rfl, by decide +kernel, by decide +kernel⟩ rfl rfl (.inl rfl) na
theorem n_mirr (D : Df K mg "mirrored" s_mirrored ["standing"]) (na : CalN P w K mg base 1 "asked_standing" (spBadS K C0)) : CalN P w K mg base 2 "mirrored" (spBadS K C0) :=
  n_door D ⟨rfl, rfl, rfl, by decide +kernel, rfl, by decide +kernel, by decide +kernel⟩ rfl rfl (.inl rfl) na
theorem n_left (D : Df K mg "moves_left" s_moves_left ["standing"]) (na : CalN P w K mg base 1 "asked_standing" (spBadS K C0)) : CalN P w K mg base 2 "moves_left" (spBadS K C0) :=
  n_door D ⟨rfl, rfl, rfl, by decide +kernel, rfl, by decide +kernel, by decide +kernel⟩ rfl rfl (.inl rfl) na
theorem n_led (D : Df K mg "led" s_led ["standing"]) (na : CalN P w K mg base 2 "asked_small" (spRz (RBig K C0 C4))) : CalN P w K mg base 3 "led" (spRz (RBig K C0 C4)) :=
  n_doorS D ⟨rfl, rfl, rfl, by decide +kernel, rfl, by decide +kernel, by decide +kernel⟩ rfl rfl (.inl rfl) na
theorem n_ways (D : Df K mg "ways" s_ways ["standing"]) (na : CalN P w K mg base 2 "asked_small" (spRz (RBig K C0 C4))) : CalN P w K mg base 3 "ways" (spRz (RBig K C0 C4)) :=
  n_doorS D ⟨rfl, rfl, rfl, by decide +kernel, rfl, by decide +kernel, by decide +kernel⟩ rfl rfl (.inl rfl) na
theorem n_come (D : Df K mg "come_by" s_come_by ["standing"]) (na : CalN P w K mg base 2 "asked_small" (spRz (RBig K C0 C4))) : CalN P w K mg base 3 "come_by" (spRz (RBig K C0 C4)) :=
  n_doorS D ⟨rfl, rfl, rfl, by decide +kernel, rfl, by decide +kernel, by decide +kernel⟩ rfl rfl (.inl rfl) na
theorem n_stuck (D : Df K mg "stuck" s_stuck ["standing"]) (na : CalN P w K mg base 2 "asked_small" (spRz (RBig K C0 C4))) : CalN P w K mg base 3 "stuck" (spRz (RBig K C0 C4)) :=
  n_doorS D ⟨rfl, rfl, rfl, by decide +kernel, rfl, by decide +kernel, by decide +kernel⟩ rfl rfl (.inl rfl) na
end
end PP

/-! ### _law_refused -/
namespace PP
open PySem PySem.Spec PyProof.Rows L2 SX PR PL LamX
/-- the classes of errors under their names -/
structure Ks (K : PySem.W.Frag) (mg : Str → Option Value) (Pd C0 C1 C2 C3 C4 : Addr) : Prop where
  gP : mg "PadError" = some (.ref Pd)
  g0 : mg "BadStanding" = some (.ref C0)
  g1 : mg "BadPad" = some (.ref C1)
  g2 : mg "BadCount" = some (.ref C2)
  g3 : mg "BadNumber" = some (.ref C3)
  g4 : mg "TooMany" = some (.ref C4)
/-- an error of the class D is of the n-th class alone -/
structure Kd (K : PySem.W.Frag) (Pd C0 C1 C2 C3 C4 D : Addr) (n : Int) : Prop where
  ex : ExcC K D
  m : PySem.W.exmOne K (.ref D) (.ref Pd) = some true
  k0 : PySem.W.kitOne K (.ref D) (.ref C0) = some (decide ((0 : Int) = n))
  k1 : PySem.W.kitOne K (.ref D) (.ref C1) = some (decide ((1 : Int) = n))
  k2 : PySem.W.kitOne K (.ref D) (.ref C2) = some (decide ((2 : Int) = n))
  k3 : PySem.W.kitOne K (.ref D) (.ref C3) = some (decide ((3 : Int) = n))
  k4 : PySem.W.kitOne K (.ref D) (.ref C4) = some (decide ((4 : Int) = n))
  kv : PySem.W.kitOne K (.ref D) (.type "ValueError") = some true
theorem pss_cls {X : Cx} {K : PySem.W.Frag} {sts : List Stmt} {cls : Value} {d : Option Addr} {t : Addr → TS} (h : ∀ D, cls = .ref D → d = none → ExcC K D → PSs X sts (t D)) : PSs X sts (fun E σ H => ∃ D, cls = .ref D ∧ d = none ∧ ExcC K D ∧ t D E σ H) :=
  ⟨fun pins s σ H E J ⟨D, e1, e2, e3, ht⟩ => (h D e1 e2 e3).run pins s σ H E J ht⟩
theorem bl_of {Q : VK} {b : Bool} {H : Hp} (e : b = true) (q : Q (.bl true) H) : Q (.bl b) H := by
  rw [e]
  exact q
theorem zn_at {cls : Value} {d : Option Addr} {D : Addr} {oe : Obj} (e1 : cls = .ref D) (e2 : d = none) (hz : L2N.Zn cls d oe) : Zc (.ref D) none oe := by
  subst e1 e2
  exact hz.zc
theorem pe_lcS {X : Cx} {elt : Expr} {x : Str} {i n kk : Nat} {a : Addr} {oe : Obj} {cls : Value} {d : Option Addr} {pn : List (Addr × Obj)} {scope : Scope} {px p pc pos pos' : Pos} {te : TE} (hz : L2N.Zn cls d oe) (hf : ∃ vs, oe.data = .fields vs)
    (hN : X.N.Nodup) (hg : Gl X "range") (hm : X.mg "range" = none) (hn : n ≤ 1000) (ok : BlkOk X.N X.env.scope scope [(x, i)])
    (ht : ∀ (s : Shared) (H : Hp) (C : Addr) (cl : List (Str × Addr)) (fp : List Addr), PG ((X.suite a ((a, oe) :: pn)).blk s H scope (compEnvC scope cl C X.env) fp) (.Name x px) (gName i))
    (he : ∀ (s : Shared) (H : Hp) (C : Addr) (cl : List (Str × Addr)) (fp : List Addr), PE ((X.suite a ((a, oe) :: pn)).blk s H scope (compEnvC scope cl C X.env) fp) elt te)
    (hst : starEach [.Constant (.int (n : Int)) kk pc] X.env = [(false, eval (.Constant (.int (n : Int)) kk pc) X.env)] := by rfl)
    (hs : ∀ y, foldedSetIterable (.Call (.Name "range" p) [.Constant (.int (n : Int)) kk pc] [] pos) X.env y = pure y := by intro _; rfl) :
    PE (X.suite a ((a, oe) :: pn)) (.ListComp elt [⟨.Name x px, .Call (.Name "range" p) [.Constant (.int (n : Int)) kk pc] [] pos, [], 0⟩] scope pos') (tLcR n i te) := by
  obtain ⟨vs, hv⟩ := hf
  exact pe_lcR (X := X.suite a ((a, oe) :: pn)) (a1 := a) (o1 := oe) rfl List.mem_cons_self hv (hz.2.2 vs hv) hN hg hm hn ok ht he hst hs
section
variable {P : Program} {w : World} {K : PySem.W.Frag} {mg : Str → Option Value} {base : Heap} {Pd C0 C1 C2 C3 C4 : Addr} {lv : Nat}
/-- f, asked v at this heap, raises the class C -/
def Refuses (P : Program) (w : World) (K : PySem.W.Frag) (mg : Str → Option Value) (base : Heap) (k : Nat) (C : Addr) (H : Hp) (f : Addr) (v : V) : Prop :=
  ∃ sp, AskAt P w K mg base k H f sp ∧ ∀ (Q : VK) (E : XK), (∀ H', Same H H' → E (.ref C) none H') → sp [v] H Q E
def spRef (P : Program) (w : World) (K : PySem.W.Frag) (mg : Str → Option Value) (base : Heap) (k : Nat) (Pd C0 C1 C2 C3 C4 : Addr) : Sp := fun vs H Q _ => ∃ (f : Addr) (v : V) (n : Int) (C : Addr), vs = [.ref f, v, .int n] ∧ Refuses P w K mg base k C H f v ∧ Kd K Pd C0 C1 C2 C3 C4 C n ∧ ∀ H', Same H H' → Q (.bl true) H'
abbrev nmRef : List Str := ["_law_ask", "_law_thing", "_law_due", "error", "_law_kinds", "_law_kind"]
theorem sc_ref : FnScope nmRef ["_law_ask", "_law_thing", "_law_due"] (defScope s__law_refused) := ⟨rfl, rfl, rfl, by decide +kernel, rfl, by decide +kernel, by decide +kernel⟩
theorem c_ref (D : Df K mg "_law_refused" s__law_refused ["_law_ask", "_law_thing", "_law_due"]) (T : Bl mg) (Y : Ks K mg Pd C0 C1 C2 C3 C4) : Cal P w K mg base (lv + 1) "_law_refused" (spRef P w K mg base lv Pd C0 C1 C2 C3 C4) := by
  refine cal_of D sc_ref (fun vs H Q E h => ?_) (fun f cdv A outer s H vs Q E hr h => ?_)
  · obtain ⟨f, v, n, C, rfl, _⟩ := h
    rfl
  · obtain ⟨f, v, n, C, rfl, ⟨sp, ask, hsp⟩, kd, q⟩ := h
    refine ⟨_, pss_cons (L2N.ps_try_as (i := 3) rfl rfl sc_ref.nd rfl rfl ⟨rfl, by decide, .inl Y.gP⟩ takesN0 (fun W pn xe tk _ => pss_one (ps_expr (te := tAsk P w K mg base lv 0 1 W) (pe_ask (i := 0) (j := 1) (k := lv) tk hr (Nat.le_refl _) rfl (.inl rfl) rfl (.inl rfl))))
      (fun a oe cls d pn hz hf => pss_cls (K := K) (cls := cls) (d := d) fun D e1 e2 ec =>
        pss_cons (ps_set (i := 4) sc_ref.nd rfl (.inl rfl) (pe_lst (pa_cons (pe_callB (call_isE (D := D) ec (zn_at e1 e2 hz) hf) (by rfl) T.isi (by decide +kernel) (pa_cons (pv 3) (pa_cons (pe_glob (v := .ref C0) (by rfl) Y.g0 rfl) pa_nil)))
          (pa_cons (pe_callB (call_isE (D := D) ec (zn_at e1 e2 hz) hf) (by rfl) T.isi (by decide +kernel) (pa_cons (pv 3) (pa_cons (pe_glob (v := .ref C1) (by rfl) Y.g1 rfl) pa_nil)))
          (pa_cons (pe_callB (call_isE (D := D) ec (zn_at e1 e2 hz) hf) (by rfl) T.isi (by decide +kernel) (pa_cons (pv 3) (pa_cons (pe_glob (v := .ref C2) (by rfl) Y.g2 rfl) pa_nil))) pa_nil)))))
        (pss_cons (ps_set (i := 4) sc_ref.nd rfl (.inl rfl) (pe_op op_cat (pv 4) (pe_lst (pa_cons (pe_callB (call_isE (D := D) ec (zn_at e1 e2 hz) hf) (by rfl) T.isi (by decide +kernel) (pa_cons (pv 3) (pa_cons (pe_glob (v := .ref C3) (by rfl) Y.g3 rfl) pa_nil)))
          (pa_cons (pe_callB (call_isE (D := D) ec (zn_at e1 e2 hz) hf) (by rfl) T.isi (by decide +kernel) (pa_cons (pv 3) (pa_cons (pe_glob (v := .ref C4) (by rfl) Y.g4 rfl) pa_nil)))
          (pa_cons (pe_callB (call_isE (D := D) ec (zn_at e1 e2 hz) hf) (by rfl) T.isi (by decide +kernel) (pa_cons (pv 3) (pa_cons (pe_bltn (v := .ty "ValueError") (by rfl) T.verr (by decide +kernel) rfl) pa_nil))) pa_nil))))))
        (pss_one (ps_ret (pe_cmpR (r := rEqD K) (op_eqD (show _ from hr.units)) (pv 4) (pe_op op_cat
          (pe_lcS (i := 5) (n := 5) (te := tOp rEq (tVar 5) (tVar 2)) hz hf sc_ref.nd rfl T.range (by decide) (blkOk_by (own := [("_law_kind", 5)]) (N := nmRef) (sc := defScope s__law_refused) (by decide +kernel)) (fun _ _ _ _ _ => pg_name (i := 5) sc_ref.nd rfl (Or.inl rfl)) (fun _ _ _ _ _ => pe_cmpR op_eq (pv 5) (pv 2) (nomark _)))
          (pe_lst (pa_cons pe_bl pa_nil))) (nomark _)))))))
      (pss_one (ps_ret pe_bl)), ?_⟩
    refine ⟨f, sp, v, rfl, rfl, ask, hsp _ _ fun H1 s1 => ⟨true, kd.m, fun _ a na => ⟨C, rfl, rfl, kd.ex, ?_⟩, fun z => nomatch z⟩⟩
    refine ⟨_, rfl, _, _, _, rfl, fun u h => h, kd.k0, _, rfl, _, _, _, rfl, fun u h => h, kd.k1, _, rfl, _, _, _, rfl, fun u h => h, kd.k2, (by show 3 ≤ sizeLine; decide), fun p np => ?_⟩
    refine ⟨_, rfl, _, rfl, _, _, _, rfl, fun u h => h, kd.k3, _, rfl, _, _, _, rfl, fun u h => h, kd.k4, _, rfl, _, _, _, rfl, fun u h => h, kd.kv, (by show 3 ≤ sizeLine; decide), fun p2 np2 => ?_⟩
    have n12 : p ≠ p2 := ne_of_none upd_same np2
    refine ⟨p, p2, _, _, rfl, rfl, by rw [upd_ne n12]; exact upd_same, upd_same, (by show 3 + 3 ≤ sizeLine; decide), fun p3 np3 => ?_⟩
    refine ⟨_, rfl, fun L nL => ⟨fun k H' => Same (upd (upd (upd H1 p _) p2 _) p3 _) H' ∧ H' L = some (.lst ((List.range k).map fun i : Nat => V.bl (decide ((i : Int) = n)))), ⟨same_upd nL, upd_same⟩, ?_, ?_⟩⟩
    · rintro k H4 hk ⟨s4, h4⟩
      refine ⟨_, rfl, _, rfl, rfl, _, h4, ?_, ?_, ?_⟩
      · exact L2.small1000 (by simp; omega)
      · exact same_upd2 s4 nL
      · rw [upd_same, List.range_succ, List.map_append, dec_int]
        show some (HO.lst (_ ++ [V.bl ((k : Int) == n)])) = some (HO.lst (_ ++ [V.bl (decide ((k : Int) = n))]))
        rw [Bool.beq_eq_decide_eq]
    · rintro H4 ⟨s4, h4⟩
      refine ⟨(by show 1 ≤ sizeLine; decide), fun p4 np4 => ?_⟩
      have n4 : L ≠ p4 := ne_of_none h4 np4
      refine ⟨L, p4, _, _, rfl, rfl, by rw [upd_ne n4]; exact h4, upd_same, (by simp; show 6 ≤ sizeLine; decide), fun p5 np5 => ?_⟩
      have s5 := fun o => s4.trans ((same_upd np4).trans (same_upd (o := o) np5))
      refine ⟨_, _, .lst (SqL.of (s5 _ _ _ upd_same)) (.cons (.bl _) (.cons (.bl _) (.cons (.bl _) (.cons (.bl _) (.cons (.bl _) (.cons (.bl _) .nil)))))), .lst (SqL.of upd_same) (.cons (.bl _) (.cons (.bl _) (.cons (.bl _) (.cons (.bl _) (.cons (.bl _) (.cons (.bl _) .nil)))))), rfl, rfl, ?_⟩
      have e : ∀ b0 b1 b2 b3 b4 : Bool, PyData.eqv (.list [.bool b0, .bool b1, .bool b2, .bool b3, .bool b4, .bool true]) (.list [.bool b0, .bool b1, .bool b2, .bool b3, .bool b4, .bool true]) = true := by decide
      exact bl_of (e _ _ _ _ _) (q _ (s1.trans ((same_upd np).trans ((same_upd np2).trans ((same_upd np3).trans (s5 _))))))
end
end PP

/-! ### what may be asked, and what refuses what -/
namespace PP
open PySem PySem.Spec PyProof.Rows L2 SX PR PL LamX NdefX
section
variable {P : Program} {w : World} {K : PySem.W.Frag} {mg : Str → Option Value} {base : Heap} {C0 C1 C2 C3 C4 : Addr} {k : Nat} {g x : Str} {F : NF} {f : Addr} {e0 : Expr} {v0 : V} {p1 p2 p4 : Pos} {R2 : Hp → V → V → Addr → Prop}
theorem lok_mono {j : Nat} {e : Expr} {sp : Sp} (L : LOk P w K mg base j f F e sp) (h : j ≤ k) : LOk P w K mg base k f F e sp := ⟨fun A outer s H us vs Q E hr => L.run A outer s H us vs Q E (hr.mono h)⟩
/-- lambda x: g(x, e0) -/
theorem lkA (c : CalN P w K mg base k g (spRz2 R2)) (h0 : ∀ X : Cx, PE X e0 (tC v0)) (S : NScope [x] [x] [] F.scope) (hcl : F.cl = [])
    (hb : ∀ (pm ctv : Value) (us : List Value), us.length = [x].length → bindArgs (PySem.W.kla_fn "<lambda>" F.qual F.params (.Call (.Name g p1) [.Name x p2, e0] [] p4) F.scope F.cl pm (.ref F.c) ctv) ⟨us, []⟩ = pure ([x].zip us))
    (hg : F.scope.names.lookup g = some .globalImplicit) (hv : Vis F.scope x) (hd : (x == ("__debug__" : Str)) = false) (hcd : (x == ("__classdict__" : Str)) = false) (hdb : (g == ("__debug__" : Str)) = false)
    (s1 : ∀ env, starEach [.Name x p2, e0] env = (false, eval (.Name x p2) env) :: starEach [e0] env) (s2 : ∀ env, starEach [e0] env = (false, eval e0 env) :: starEach [] env) (s3 : ∀ env, (backTo p4 (starEach [e0] env)).any (·.1) = false) :
    LOk P w K mg base (k + 1) f F (.Call (.Name g p1) [.Name x p2, e0] [] p4) (spRz fun H v C => R2 H v v0 C) := by
  refine lok_of S hcl (fun vs H Q E h => ?_) hb fun A outer s H vs Q E hr h => ?_
  · obtain ⟨v, C, rfl, _⟩ := h
    rfl
  · obtain ⟨v, C, rfl, hR, q⟩ := h
    have tk : L2N.Takes (ncx (L2N.CX P w) P w K mg base [x] F f A outer s H E) (fun cls d _ H => E cls d H) := L2N.takes_of rfl rfl rfl rfl
    exact ⟨_, pe_cN (X := ncx (L2N.CX P w) P w K mg base [x] F f A outer s H E) (pos := p4) c tk hr (Nat.le_refl _) hg (pa_cons (pe_var (i := 0) rfl hv hd hcd) (pa_cons (h0 _) pa_nil (s2 _)) (s1 _)) hdb (s1 _) (s3 _), v, rfl, v, v0, C, rfl, hR, q⟩
/-- lambda x: g(e0, x) -/
theorem lkB (c : CalN P w K mg base k g (spRz2 R2)) (h0 : ∀ X : Cx, PE X e0 (tC v0)) (S : NScope [x] [x] [] F.scope) (hcl : F.cl = [])
    (hb : ∀ (pm ctv : Value) (us : List Value), us.length = [x].length → bindArgs (PySem.W.kla_fn "<lambda>" F.qual F.params (.Call (.Name g p1) [e0, .Name x p2] [] p4) F.scope F.cl pm (.ref F.c) ctv) ⟨us, []⟩ = pure ([x].zip us))
    (hg : F.scope.names.lookup g = some .globalImplicit) (hv : Vis F.scope x) (hd : (x == ("__debug__" : Str)) = false) (hcd : (x == ("__classdict__" : Str)) = false) (hdb : (g == ("__debug__" : Str)) = false)
    (s1 : ∀ env, starEach [e0, .Name x p2] env = (false, eval e0 env) :: starEach [.Name x p2] env) (s2 : ∀ env, starEach [.Name x p2] env = (false, eval (.Name x p2) env) :: starEach [] env) (s3 : ∀ env, (backTo p4 (starEach [.Name x p2] env)).any (·.1) = false) :
    LOk P w K mg base (k + 1) f F (.Call (.Name g p1) [e0, .Name x p2] [] p4) (spRz fun H v C => R2 H v0 v C) := by
  refine lok_of S hcl (fun vs H Q E h => ?_) hb fun A outer s H vs Q E hr h => ?_
  · obtain ⟨v, C, rfl, _⟩ := h
    rfl
  · obtain ⟨v, C, rfl, hR, q⟩ := h
    have tk : L2N.Takes (ncx (L2N.CX P w) P w K mg base [x] F f A outer s H E) (fun cls d _ H => E cls d H) := L2N.takes_of rfl rfl rfl rfl
    exact ⟨_, pe_cN (X := ncx (L2N.CX P w) P w K mg base [x] F f A outer s H E) (pos := p4) c tk hr (Nat.le_refl _) hg (pa_cons (h0 _) (pa_cons (pe_var (i := 0) rfl hv hd hcd) pa_nil (s2 _)) (s1 _)) hdb (s1 _) (s3 _), v, rfl, v0, v, C, rfl, hR, q⟩
/-- each of fs refuses each thing of the kind Th by the class C -/
def Asks (P : Program) (w : World) (K : PySem.W.Frag) (mg : Str → Option Value) (base : Heap) (k : Nat) (Th : Hp → V → Prop) (C : Addr) (H : Hp) (fs : List Addr) : Prop := ∀ f ∈ fs, ∃ R : Hp → V → Addr → Prop, (∀ H v, Th H v → R H v C) ∧ AskAt P w K mg base k H f (spRz R)
variable {Th : Hp → V → Prop} {C : Addr} {H H' : Hp} {fs gs : List Addr}
theorem Asks.ext (h : Asks P w K mg base k Th C H fs) (s : ExtN H H') : Asks P w K mg base k Th C H' fs := fun f hf => by
  obtain ⟨R, h1, h2⟩ := h f hf
  exact ⟨R, h1, h2.ext s⟩
theorem Asks.app (h : Asks P w K mg base k Th C H fs) (h' : Asks P w K mg base k Th C H gs) : Asks P w K mg base k Th C H (fs ++ gs) := fun f hf => (List.mem_append.mp hf).elim (h f) (h' f)
theorem Asks.nil : Asks P w K mg base k Th C H [] := fun f hf => by cases hf
theorem Asks.cons {R : Hp → V → Addr → Prop} (hR : ∀ H v, Th H v → R H v C) (h : AskAt P w K mg base k H f (spRz R)) (t : Asks P w K mg base k Th C H fs) : Asks P w K mg base k Th C H (f :: fs) := fun g hg => by
  rcases List.mem_cons.mp hg with rfl | hg
  · exact ⟨R, hR, h⟩
  · exact t g hg
/-- a def of the text -/
theorem ask_def {j : Nat} {sp : Sp} (c : CalN P w K mg base j g sp) (hj : j ≤ k) : ∃ f, mg g = some (.ref f) ∧ ∀ H, AskAt P w K mg base k H f sp := by
  obtain ⟨f, fd, ps, FK, hm, kp, b⟩ := c.ex
  exact ⟨f, hm, fun H => .inl ⟨fd, ps, FK.mono hj, kp, b⟩⟩
theorem ask_lam {e : Expr} {sp : Sp} {j : Nat} (h1 : H f = some (LamO f F e)) (h2 : H F.c = some (CodeO F.c F.qual)) (L : LOk P w K mg base j f F e sp) (hj : j ≤ k) : AskAt P w K mg base k H f sp := askAt_lam h1 h2 (lok_mono L hj)
theorem calN_imp {sp sp' : Sp} (c : CalN P w K mg base k g sp) (h : ∀ vs H Q E, sp' vs H Q E → sp vs H Q E) : CalN P w K mg base k g sp' := by
  obtain ⟨f, fd, ps, FK, hm, kp, b⟩ := c.ex
  exact ⟨f, fd, ps, FK.imp h, hm, kp, b⟩
/-- a door that looks at its standing alone -/
def RSt (K : PySem.W.Frag) (C0 : Addr) : Hp → V → Addr → Prop := fun H v C => C = C0 ∧ BadS K H v
theorem calN_st (c : CalN P w K mg base k g (spBadS K C0)) : CalN P w K mg base k g (spRz (RSt K C0)) := calN_imp c fun vs H Q E h => by
  obtain ⟨v, C, rfl, ⟨rfl, hb⟩, q⟩ := h
  exact ⟨v, rfl, hb, q⟩
/-- what stands under ExtN -/
def Stands (Th : Hp → V → Prop) : Prop := ∀ {H H' : Hp} {v : V}, ExtN H H' → Th H v → Th H' v
theorem refs_of (h : Asks P w K mg base k Th C H fs) {ts : List V} (ht : ∀ v ∈ ts, Th H v) (st : Stands Th) : ∀ f ∈ fs, ∀ v ∈ ts, ∀ H', Same H H' → Refuses P w K mg base k C H' f v := fun f hf v hv H' s => by
  obtain ⟨R, h1, h2⟩ := h f hf
  exact ⟨_, h2.ext (ExtN.of s), fun Q E q => ⟨v, C, rfl, h1 _ _ (st (ExtN.of s) (ht v hv)), q⟩⟩
theorem bt_ext {d : Addr} {q : Str} (t : TabS H d q) (b : Bt d H H') : ExtN H H' := fun c o h n => b c o (fun e => by
  obtain ⟨ps, hp, _⟩ := t
  rw [e, hp] at h
  exact n ps (Option.some.inj h).symm) h
/-- the kinds of things -/
def Th0 (K : PySem.W.Frag) : Hp → V → Prop := fun H v => BadS K H v
def Th1 (K : PySem.W.Frag) (z : Zp) : Hp → V → Prop := fun H v => NW K H v ∨ ∃ n : Int, v = .int n ∧ inV (.int n) ((movers z).map nV) = false
def Th2 (K : PySem.W.Frag) : Hp → V → Prop := fun H v => NW K H v ∨ ∃ n : Int, v = .int n ∧ n < 0
def Th3 (K : PySem.W.Frag) (m : Int) : Hp → V → Prop := fun H v => NW K H v ∨ ∃ n : Int, v = .int n ∧ (n < 0 ∨ m ≤ n)
def Th4 : Hp → V → Prop := fun _ v => ∃ z : Zp, v = tx z ∧ 10 ≤ pads z ∧ pads z ≤ 60
theorem st0 : Stands (Th0 K) := fun s h => bads_ext s h
theorem st1 {z : Zp} : Stands (Th1 K z) := fun s h => h.elim (fun h => .inl (nw_ext s h)) .inr
theorem st2 : Stands (Th2 K) := fun s h => h.elim (fun h => .inl (nw_ext s h)) .inr
theorem st3 {m : Int} : Stands (Th3 K m) := fun s h => h.elim (fun h => .inl (nw_ext s h)) .inr
theorem st4 : Stands Th4 := fun _ h => h
end
end PP

/-! ### things that are refused -/
namespace PP
open PySem PySem.Spec PyProof.Rows L2 SX PR PL LamX NdefX
theorem lam_nofree {X : Cx} {scope : Scope} (h : (scope.names.all fun y => !decide (y.2 = NameKind.free)) = true) : ∀ y ∈ scope.names, y.2 = .free → X.env.scope.names.lookup y.1 = some .cell ∨ X.env.scope.names.lookup y.1 = some .free := fun y hy e => by
  have := List.all_eq_true.mp h y hy
  rw [e] at this
  cases this
theorem fa_nil {p : V → Prop} : ∀ x ∈ ([] : List V), p x := fun _ h => by cases h
theorem fa_cons {p : V → Prop} {a : V} {l : List V} (h : p a) (t : ∀ x ∈ l, p x) : ∀ x ∈ a :: l, p x := fun x hx => by
  rcases List.mem_cons.mp hx with rfl | hx
  · exact h
  · exact t x hx
theorem fa_app {p : V → Prop} {l m : List V} (h : ∀ x ∈ l, p x) (t : ∀ x ∈ m, p x) : ∀ x ∈ l ++ m, p x := fun x hx => (List.mem_append.mp hx).elim (h x) (t x)
section
variable {K : PySem.W.Frag} {H : Hp}
theorem bads_str {x : Str} (n : x.cps.toList.length ≤ 1000) (h : okl x.cps.toList = false) : Th0 K H (.str x) := by
  have e : S x.cps.toList = x := by
    cases x
    simp [S]
  rw [← e]
  exact .tx n h
theorem bads_ty {v : V} {a : String} (t : TyOf K H v (.type a)) (k : kitB a "str" = some false) : Th0 K H v := .ty (.base t) k
theorem nw_ty {v : V} {a : String} {r1 r2 : Bool} (t : TyOf K H v (.type a)) (k1 : kitB a "int" = some r1) (k2 : kitB a "bool" = some r2) (e : (r1 && !r2) = false) : NW K H v := ⟨a, r1, r2, .base t, k1, k2, e⟩
theorem bads_num {m : Int} (h0 : 0 ≤ m) (h1 : m < 10 ^ 20) : Th0 K H (.str (Str.ofString (toString m) ++ Str.ofString ".")) := by
  obtain ⟨n, rfl⟩ := Int.eq_ofNat_of_zero_le h0
  have e : (Str.ofString (toString ((n : Nat) : Int)) ++ Str.ofString ".").cps.toList = (Nat.toDigits 10 n).map Char.toNat ++ [46] := by
    have e1 := PySem.W.KIN.signs_num n
    have e2 : (Str.ofString ".").cps.toList = [46] := by decide
    rw [← e1, ← e2]
    exact Array.toList_append
  have hn : n < 10 ^ 20 := by omega
  have hl : (Nat.toDigits 10 n).length ≤ 20 := PySem.toDigits_len_pow (by decide) (by decide) hn
  refine bads_str (by rw [e]; simp; omega) ?_
  rw [e]
  cases hd : Nat.toDigits 10 n with
  | nil =>
    have := PySem.toDigits_len_ge 10 n
    rw [hd] at this
    simp at this
  | cons c cs =>
    have hc : c.isDigit = true := Nat.isDigit_of_mem_toDigits (b := 10) (n := n) (by decide) (by decide) (by rw [hd]; exact List.mem_cons_self)
    have hr : 48 ≤ c.toNat ∧ c.toNat ≤ 57 := by
      simp only [Char.isDigit, Bool.and_eq_true, decide_eq_true_eq] at hc
      exact ⟨hc.1, hc.2⟩
    have hk : okc c.toNat = false := by
      have : ∀ j : Nat, 48 ≤ j → j ≤ 57 → okc j = false := fun j h1 h2 => by
        have : j = 48 ∨ j = 49 ∨ j = 50 ∨ j = 51 ∨ j = 52 ∨ j = 53 ∨ j = 54 ∨ j = 55 ∨ j = 56 ∨ j = 57 := by omega
        rcases this with rfl | rfl | rfl | rfl | rfl | rfl | rfl | rfl | rfl | rfl <;> decide +kernel
      exact this _ hr.1 hr.2
    unfold okl
    simp [hk]
theorem log_num {m : Int} (h0 : 0 ≤ m) (h1 : m < 10 ^ 20) : m.natAbs.log2 < 1920 := by
  by_cases h : m.natAbs = 0
  · rw [h]
    decide
  · refine (Nat.log2_lt h).mpr (Nat.lt_of_lt_of_le (m := 10 ^ 20) (by omega) ?_)
    exact Nat.le_trans (by decide : 10 ^ 20 ≤ 2 ^ 100) (Nat.pow_le_pow_right (by decide) (by decide))
theorem mo_a {k : Int} (h0 : 0 ≤ k) (h1 : k ≤ 1000) : MulOk (Str.ofString "a") k := by rw [s_a]; exact mulOk_one _ h0 h1
theorem mo_b {k : Int} (h0 : 0 ≤ k) (h1 : k ≤ 1000) : MulOk (Str.ofString "b") k := by rw [s_b]; exact mulOk_one _ h0 h1
theorem mo_d {k : Int} (h0 : 0 ≤ k) (h1 : k ≤ 1000) : MulOk (Str.ofString ".") k := by rw [s_dot]; exact mulOk_one _ h0 h1
theorem len_db {k : Int} (h0 : 0 ≤ k) (h1 : k ≤ 900) : (Str.ofString ".").length + (Txt.mul (Str.ofString "b") k).length ≤ sizeLine := by
  rw [s_b, PR.mul_one 98 h0, s_dot, S_len, S_len]
  exact small (by simp; omega)
theorem len_ad {k : Int} (h0 : 0 ≤ k) (h1 : k ≤ 900) : (Str.ofString "a").length + (Txt.mul (Str.ofString ".") k).length ≤ sizeLine := by
  rw [s_a, s_dot, PR.mul_one 46 h0, S_len, S_len]
  exact small (by simp; omega)
theorem len_num {m : Int} (h0 : 0 ≤ m) (h1 : m < 10 ^ 20) : (Str.ofString (toString m)).length + (Str.ofString ".").length ≤ sizeLine := by
  obtain ⟨n, rfl⟩ := Int.eq_ofNat_of_zero_le h0
  have e1 := PySem.W.KIN.signs_num n
  have hl : (Nat.toDigits 10 n).length ≤ 20 := PySem.toDigits_len_pow (by decide) (by decide) (by omega)
  rw [← S_tl (Str.ofString (toString ((n : Nat) : Int))), e1, s_dot, S_len, S_len]
  exact small (by simp; omega)
theorem bads_long {k : Int} (h0 : 60 ≤ k) (h1 : k ≤ 900) : Th0 K H (.str (Str.ofString "." ++ Txt.mul (Str.ofString "b") k)) := by
  rw [s_b, PR.mul_one 98 (by omega), s_dot, S_cat]
  refine .tx (by simp; omega) ?_
  unfold okl
  have : ¬ ([46] ++ List.replicate k.toNat 98).length ≤ 60 := by simp; omega
  rw [decide_eq_false this]
  simp
theorem bads_dots {k : Int} (h0 : 2 ≤ k) (h1 : k ≤ 900) : Th0 K H (.str (Str.ofString "a" ++ Txt.mul (Str.ofString ".") k)) := by
  rw [s_dot, PR.mul_one 46 (by omega), s_a, S_cat]
  refine .tx (by simp; omega) ?_
  unfold okl
  have : ¬ ([97] ++ List.replicate k.toNat 46).count 46 = 1 := by
    rw [List.count_append, List.count_replicate_self]
    show ¬ 0 + k.toNat = 1
    omega
  rw [decide_eq_false this]
  simp
theorem th4_b {k : Int} (h0 : 9 ≤ k) (h1 : k ≤ 59) : Th4 H (.str (Str.ofString "." ++ Txt.mul (Str.ofString "b") k)) := by
  refine ⟨([], List.replicate k.toNat false), ?_, ?_, ?_⟩
  · rw [s_b, PR.mul_one 98 (by omega), s_dot, S_cat]
    simp [tx, cps, sg]
  · unfold pads
    simp
    omega
  · unfold pads
    simp
    omega
end
/-- a list of things of the kind Th -/
def Lt (Th : Hp → V → Prop) (b : Nat) (H' : Hp) (y : Option V) : Prop := ∃ (t : Addr) (ts : List V), y = some (.ref t) ∧ H' t = some (.lst ts) ∧ ts.length ≤ b ∧ ∀ v ∈ ts, Th H' v
theorem Lt.ext {Th : Hp → V → Prop} {b : Nat} {H H' : Hp} {y : Option V} (h : Lt Th b H y) (st : Stands Th) (s : ExtN H H') : Lt Th b H' y := by
  obtain ⟨t, ts, e, ht, hl, hv⟩ := h
  exact ⟨t, ts, e, s _ _ ht (fun _ z => by cases z), hl, fun v hm => st s (hv v hm)⟩
/-- a list of what is asked -/
def La (P : Program) (w : World) (K : PySem.W.Frag) (mg : Str → Option Value) (base : Heap) (Th : Hp → V → Prop) (C : Addr) (b : Nat) (H' : Hp) (y : Option V) : Prop := ∃ (g : Addr) (fs : List Addr), y = some (.ref g) ∧ H' g = some (.lst (fs.map V.ref)) ∧ fs.length ≤ b ∧ Asks P w K mg base 28 Th C H' fs
theorem same_tab {q : Str} {H H' : Hp} {Pt : Addr} (t : TabS H Pt q) (s : Same H H') : TabS H' Pt q := t.ext s
end PP

/-! ### facts of the classes of errors -/
namespace PP
open PySem PySem.Spec PyProof.Rows L2 SX PR PL LamX NdefX
theorem kd_b {x : Option Bool} {b c : Bool} (h : b = c) (e : x = some b) : x = some c := by rw [e, h]
theorem kit_verr {K : PySem.W.Frag} {D : Addr} (h : PySem.W.subIn K (.ref D) (.type "ValueError") = some true) : PySem.W.kitOne K (.ref D) (.type "ValueError") = some true := by
  unfold PySem.W.kitOne
  have e : (Value.ref D == Value.type "ValueError") = false := rfl
  rw [e]
  show (if PySem.W.kitMeta "ValueError" = true then PySem.W.subIn K (.ref D) (.type "ValueError") else none) = some true
  rw [if_pos (by decide +kernel)]
  exact h
end PP

/-! ### defs that make lambdas; lambdas that capture -/
namespace PP
open PySem PySem.Spec PyProof.Rows L2 SX PR PL LamX NdefX
section
variable {P : Program} {w : World} {K : PySem.W.Frag} {mg : Str → Option Value} {base : Heap} {C0 C1 C2 C3 C4 : Addr}
/-- a def of the text under its name, its code object at c -/
structure DfT (K : PySem.W.Frag) (mg : Str → Option Value) (x : Str) (st : Stmt) (ps : List Str) (c : Addr) : Prop where
  ex : ∃ (f : Addr) (oc kV dc pm ct : Value) (od an : Option Addr) (sl : Array (Option Value)), K.lookup f = some ⟨oc, od, .func (PySem.W.fnOf x x (defArgs st) (defBody st) (defScope st) .none kV dc pm an (.ref c) ct), sl⟩ ∧ PySem.W.codeIn K (.ref c) x = true ∧ PySem.W.keepIn K (.ref f) = true ∧
    Binds K (PySem.W.fnOf x x (defArgs st) (defBody st) (defScope st) .none kV dc pm an (.ref c) ct) ps [] ∧ mg x = some (.ref f)
theorem cal_ofT {x : Str} {st : Stmt} {N ps : List Str} {k : Nat} {c : Addr} {sp : Sp} (D : DfT K mg x st ps c) (S : FnScope N ps (defScope st)) (len : ∀ vs H Q E, sp vs H Q E → vs.length = ps.length)
    (hbody : ∀ (f : Addr) (A : Around) (outer : List Env) (s : Shared) (H : Hp) (vs : List V) (Q : VK) (E : XK), Room k (A.deeper (envOfC x (defScope st) s.heap.objs.size f (.ref c))) → sp vs H Q E →
      ∃ t, PSs (cxOf L2.CX0 P w K mg base N x (defScope st) f (.ref c) A outer s H E).nox (defBody st) t ∧ t { nx := fun _ H' => Q .non H', rt := Q } (start N vs) H) : Cal P w K mg base (k + 1) x sp := by
  obtain ⟨f, oc, kV, dc, pm, ct, od, an, sl, lk, hcd, kp, b, g⟩ := D.ex
  refine ⟨f, _, ps, fn_of lk hcd S len fun A outer s H vs Q E hr hsp => ?_, g, kp, b⟩
  obtain ⟨t, h, q⟩ := hbody f A outer s H vs Q E hr hsp
  exact ⟨t, h.nox, q⟩
variable {k : Nat} {g x y : Str} {F : NF} {f : Addr} {p1 p2 p3 p4 : Pos} {R : Hp → V → Addr → Prop} {R2 : Hp → V → V → Addr → Prop}
/-- lambda x: g(x) -/
theorem lk1 (c : CalN P w K mg base k g (spRz R)) (S : NScope [x] [x] [] F.scope) (hcl : F.cl = [])
    (hb : ∀ (pm ctv : Value) (us : List Value), us.length = [x].length → bindArgs (PySem.W.kla_fn "<lambda>" F.qual F.params (.Call (.Name g p1) [.Name x p2] [] p4) F.scope F.cl pm (.ref F.c) ctv) ⟨us, []⟩ = pure ([x].zip us))
    (hg : F.scope.names.lookup g = some .globalImplicit) (hv : Vis F.scope x) (hd : (x == ("__debug__" : Str)) = false) (hcd : (x == ("__classdict__" : Str)) = false) (hdb : (g == ("__debug__" : Str)) = false)
    (s2 : ∀ env, starEach [.Name x p2] env = (false, eval (.Name x p2) env) :: starEach [] env) (s3 : ∀ env, (backTo p4 (starEach [] env)).any (·.1) = false) :
    LOk P w K mg base (k + 1) f F (.Call (.Name g p1) [.Name x p2] [] p4) (spRz R) := by
  refine lok_of S hcl (fun vs H Q E h => ?_) hb fun A outer s H vs Q E hr h => ?_
  · obtain ⟨v, C, rfl, _⟩ := h
    rfl
  · obtain ⟨v, C, rfl, hR, q⟩ := h
    have tk : L2N.Takes (ncx (L2N.CX P w) P w K mg base [x] F f A outer s H E) (fun cls d _ H => E cls d H) := L2N.takes_of rfl rfl rfl rfl
    exact ⟨_, pe_cN (X := ncx (L2N.CX P w) P w K mg base [x] F f A outer s H E) (pos := p4) c tk hr (Nat.le_refl _) hg (pa_cons (pe_var (i := 0) rfl hv hd hcd) pa_nil (s2 _)) hdb (s2 _) (s3 _), v, rfl, v, C, rfl, hR, q⟩
/-- lambda x: g(y, x), y a name of the def around that holds v0 -/
theorem lkC {v0 v1 : V} {C : Addr} (c : CalN P w K mg base k g (spRz2 R2)) (hR : ∀ H, R2 H v0 v1 C) (S : NScope [x, y] [x] [y] F.scope)
    (hb : ∀ (pm ctv : Value) (us : List Value), us.length = [x].length → bindArgs (PySem.W.kla_fn "<lambda>" F.qual F.params (.Call (.Name g p1) [.Name y p2, .Name x p3] [] p4) F.scope F.cl pm (.ref F.c) ctv) ⟨us, []⟩ = pure ([x].zip us))
    (hg : F.scope.names.lookup g = some .globalImplicit) (hv : Vis F.scope x) (hw : Vis F.scope y) (hd : (x == ("__debug__" : Str)) = false) (hcd : (x == ("__classdict__" : Str)) = false) (hdy : (y == ("__debug__" : Str)) = false) (hcdy : (y == ("__classdict__" : Str)) = false) (hdb : (g == ("__debug__" : Str)) = false)
    (s1 : ∀ env, starEach [.Name y p2, .Name x p3] env = (false, eval (.Name y p2) env) :: starEach [.Name x p3] env) (s2 : ∀ env, starEach [.Name x p3] env = (false, eval (.Name x p3) env) :: starEach [] env) (s3 : ∀ env, (backTo p4 (starEach [.Name x p3] env)).any (·.1) = false) :
    LOkC P w K mg base (k + 1) f F (.Call (.Name g p1) [.Name y p2, .Name x p3] [] p4) [y] [some v0] (spRz fun _ v D => v = v1 ∧ D = C) := by
  refine lokc_of S (fun vs H Q E h => ?_) hb fun A outer s H vs Q E hr h => ?_
  · obtain ⟨v, C, rfl, _⟩ := h
    rfl
  · obtain ⟨v, D, rfl, ⟨rfl, rfl⟩, q⟩ := h
    have tk : L2N.Takes (ncx (L2N.CX P w) P w K mg base [x, y] F f A outer s H E) (fun cls d _ H => E cls d H) := L2N.takes_of rfl rfl rfl rfl
    exact ⟨_, pe_cN (X := ncx (L2N.CX P w) P w K mg base [x, y] F f A outer s H E) (pos := p4) c tk hr (Nat.le_refl _) hg (pa_cons (pe_var (i := 1) rfl hw hdy hcdy) (pa_cons (pe_var (i := 0) rfl hv hd hcd) pa_nil (s2 _)) (s1 _)) hdb (s1 _) (s3 _), v0, rfl, v, rfl, v0, v, D, rfl, hR _, q⟩
/-- .. asked where its cell is pinned -/
theorem ref_cap {H : Hp} {c : Addr} {e : Expr} {o : Obj} {u : Value} {v0 v1 : V} {C : Addr} {j : Nat} (h1 : H f = some (LamO f F e)) (h2 : H F.c = some (CodeO F.c F.qual)) (h3 : H c = some (PinO c o)) (hcl : F.cl = [(y, c)]) (hd : o.data = .cell (some u)) (hu : RelV v0 u)
    (L : LOkC P w K mg base j f F e [y] [some v0] (spRz fun _ v D => v = v1 ∧ D = C)) (hj : j ≤ k) : Refuses P w K mg base k C H f v1 := by
  have L2 : LOkC P w K mg base k f F e [y] [some v0] (spRz fun _ v D => v = v1 ∧ D = C) := ⟨fun A outer s H us vs Q E hr => L.run A outer s H us vs Q E (hr.mono hj)⟩
  refine ⟨_, askAt_cap h1 h2 h3 hcl hd hu L2 fun vs H Q E hp h => ?_, fun Q E q => ⟨v1, C, rfl, ⟨rfl, rfl⟩, q⟩⟩
  obtain ⟨v, D, rfl, hR, q⟩ := h
  refine ⟨v, D, rfl, hR, fun H' s' => q _ fun b ob z => ?_⟩
  by_cases n : b = c
  · rw [n, hp] at z
    cases z
    rw [n, upd_same]
  · rw [upd_ne n]
    exact s' b ob (by rw [era_ne n]; exact z)
theorem pe_cC {X : Cx} {l j : Nat} {sp : Sp} {e : Expr} {es : List Expr} {t : TA} {p pos : Pos} (c : Cal X.prog X.w X.K X.mg X.base k x sp) (hr : Room l X.A) (hk : k ≤ l) (hg : Gl X x) (ha : PA X (e :: es) t) (hN : X.N[j]? = some y) (hy : X.env.scope.names.lookup y = some .cell) (hfn : X.fn = fun _ => true)
    (hdb : (x == ("__debug__" : Str)) = false := by decide) (he : starEach (e :: es) X.env = (false, eval e X.env) :: starEach es X.env := by rfl) (hpl : (backTo pos (starEach es X.env)).any (·.1) = false := by rfl) :
    PE X (.Call (.Name x p) (e :: es) [] pos) (tCap X.env.cells y j sp t) := by
  obtain ⟨f, fd, ps, F, hm, kp, b⟩ := c.ex
  exact pe_cap F hm kp b hr hk hg ha hN hy hfn hdb he hpl
/-- a call that is asked by one thing -/
theorem refs1 {H : Hp} {v : V} {C : Addr} {R : Hp → V → Addr → Prop} (h : AskAt P w K mg base k H f (spRz R)) (hR : R H v C) : Refuses P w K mg base k C H f v := ⟨_, h, fun Q E q => ⟨v, C, rfl, hR, q⟩⟩
end
theorem cl_one {cells : List (Str × Addr)} {names : List (Str × NameKind)} {y : Str} {c : Addr} (hc : cells.lookup y = some c) (hn : names.filter (fun p => p.2 == NameKind.free) = [(y, .free)] := by decide +kernel) : cloFrom cells names [] = [(y, c)] := by
  have key : ∀ (l : List (Str × NameKind)) (acc : List (Str × Addr)), cloFrom cells l acc = ((l.filter fun p => p.2 == NameKind.free).map fun p => (p.1, (cells.lookup p.1).getD 0)).reverse ++ acc := fun l => by
    induction l with
    | nil => intro acc; rfl
    | cons p r ih =>
      intro acc
      obtain ⟨n, k⟩ := p
      unfold cloFrom
      by_cases h : (k == NameKind.free) = true
      · rw [if_pos h, ih, List.filter_cons, if_pos h]
        simp
      · rw [if_neg h, ih, List.filter_cons, if_neg h]
  rw [key, hn]
  simp [hc]
/-- a >= b of data that are alike -/
def rGeD (K : PySem.W.Frag) : R2 := fun x y H Q => ∃ d e, Dp K H x d ∧ Dp K H y e ∧ PySem.W.alike d e = true ∧ d ≠ .none ∧ min d.depth e.depth ≤ 64 ∧ Q (.bl (!PySem.W.dataLt d e)) H
theorem op_geD {X : Cx} (hu : X.A.units + 64 < cLine) : OpR X (compareOp .GtE) (rGeD X.K) := by
  intro pins s σ H x y v u Q I rx ry h
  obtain ⟨d, e, hd, he, al, nn, dp, q⟩ := h
  obtain ⟨as, r1⟩ := Dp.reads I d x v hd rx
  obtain ⟨bs, r2⟩ := Dp.reads I e y u he ry
  exact PySem.W.ge_data r1 r2 al nn (by omega) ⟨.bl _, H, I, rfl, q⟩
end PP

/-! ### _law_bad_right -/
namespace PP
open PySem PySem.Spec PyProof.Rows L2 SX PR PL LamX NdefX
theorem lam_free {X : Cx} {scope sc : Scope} (e : X.env.scope = sc) (h : (scope.names.all fun y => !decide (y.2 = NameKind.free) || decide (sc.names.lookup y.1 = some NameKind.cell)) = true) : ∀ y ∈ scope.names, y.2 = .free → X.env.scope.names.lookup y.1 = some .cell ∨ X.env.scope.names.lookup y.1 = some .free := fun y hy q => by
  have := List.all_eq_true.mp h y hy
  rw [q] at this
  rw [e]
  exact .inl (by simpa using this)
/-- the first loop's things -/
def badL (p : Addr) : List V := [.str (Str.ofString "a.b\n"), .str (Str.ofString "\n"), .str (Str.ofString "A.b"), .str (Str.ofString "a b"), .str (Str.ofString "a..b"), .str (Str.ofString "ab"), .str (Str.ofString ""), .ref p, .non, .int 5, .str (Txt.mul (Str.ofString "a") 60 ++ Str.ofString "."), .str (Str.ofString ".c")]
def zten : Zp := (List.replicate 4 true, List.replicate 5 false)
def zaab : Zp := ([true, true], [false])
def padL : List V := [.bl true, .int (-1), .int 4, .int 2, .int 0, .non, .str (Str.ofString "1")]
def cntL : List V := [.bl true, .int (-1), .non, .str (Str.ofString "1")]
section
variable {K : PySem.W.Frag} {H : Hp}
theorem padL_th : ∀ v ∈ padL, Th1 K zaab H v := by
  unfold padL
  exact fa_cons (.inl (nw_ty (r1 := true) (r2 := true) (.bl _) (by decide +kernel) (by decide +kernel) rfl)) (fa_cons (.inr ⟨_, rfl, by decide +kernel⟩) (fa_cons (.inr ⟨_, rfl, by decide +kernel⟩) (fa_cons (.inr ⟨_, rfl, by decide +kernel⟩) (fa_cons (.inr ⟨_, rfl, by decide +kernel⟩) (fa_cons (.inl (nw_ty (r1 := false) (r2 := false) .non (by decide +kernel) (by decide +kernel) rfl)) (fa_cons (.inl (nw_ty (r1 := false) (r2 := false) (.str _) (by decide +kernel) (by decide +kernel) rfl)) fa_nil))))))
theorem cntL_th : ∀ v ∈ cntL, Th2 K H v := by
  unfold cntL
  exact fa_cons (.inl (nw_ty (r1 := true) (r2 := true) (.bl _) (by decide +kernel) (by decide +kernel) rfl)) (fa_cons (.inr ⟨_, rfl, by decide⟩) (fa_cons (.inl (nw_ty (r1 := false) (r2 := false) .non (by decide +kernel) (by decide +kernel) rfl)) (fa_cons (.inl (nw_ty (r1 := false) (r2 := false) (.str _) (by decide +kernel) (by decide +kernel) rfl)) fa_nil)))
theorem badL_th {p : Addr} {xs : List V} (h : H p = some (.lst xs)) : ∀ v ∈ badL p, Th0 K H v := by
  unfold badL
  exact fa_cons (bads_str (by decide +kernel) (by decide +kernel)) (fa_cons (bads_str (by decide +kernel) (by decide +kernel)) (fa_cons (bads_str (by decide +kernel) (by decide +kernel)) (fa_cons (bads_str (by decide +kernel) (by decide +kernel)) (fa_cons (bads_str (by decide +kernel) (by decide +kernel)) (fa_cons (bads_str (by decide +kernel) (by decide +kernel)) (fa_cons (bads_str (by decide +kernel) (by decide +kernel)) (fa_cons (bads_ty (.lst h) (by decide +kernel)) (fa_cons (bads_ty .non (by decide +kernel)) (fa_cons (bads_ty (.int _) (by decide +kernel)) (fa_cons (bads_str (by decide +kernel) (by decide +kernel)) (fa_cons (bads_str (by decide +kernel) (by decide +kernel)) fa_nil)))))))))))
end
section
variable {P : Program} {w : World} {K : PySem.W.Frag} {mg : Str → Option Value} {base : Heap} {Pd C0 C1 C2 C3 C4 : Addr}
/-- True; all but the table at Pt stands -/
def spOkT (Pt : Addr) : Sp := fun vs H Q _ => vs = [] ∧ H Pt = some (.tbl #[]) ∧ ∀ H', Bt Pt H H' → Q (.bl true) H'
abbrev nmBadR : List Str := ["_law_bad", "_law_asks", "_law_ask", "_law_ten"]
theorem sc_badR : FnScope nmBadR [] (defScope s__law_bad_right) := ⟨rfl, rfl, rfl, by decide +kernel, rfl, by decide +kernel, by decide +kernel⟩
theorem c_badR {c Pt : Addr} (D : DfT K mg "_law_bad_right" s__law_bad_right [] c) (TB : TabB base mg c Pt) (T : Bl mg)
    (cr : Cal P w K mg base 29 "_law_refused" (spRef P w K mg base 28 Pd C0 C1 C2 C3 C4)) (cmv : Cal P w K mg base 2 "moves" spMovers) (cvd : Cal P w K mg base 2 "moved" spBehind)
    (n1 : CalN P w K mg base 2 "moves" (spBadS K C0)) (n2 : CalN P w K mg base 2 "goal" (spBadS K C0))
    (n5 : CalN P w K mg base 3 "led" (spRz (RBig K C0 C4))) (n6 : CalN P w K mg base 3 "ways" (spRz (RBig K C0 C4))) (n7 : CalN P w K mg base 3 "come_by" (spRz (RBig K C0 C4))) (n8 : CalN P w K mg base 3 "stuck" (spRz (RBig K C0 C4)))
    (n9 : CalN P w K mg base 2 "moved" (spRz2 (RMoved K C0 C1))) (n10 : CalN P w K mg base 2 "exchange" (spRz2 (RExch K C2))) (n11 : CalN P w K mg base 27 "way_by" (spRz2 (RWay K C0 C3 C4)))
    (k0 : Kd K Pd C0 C1 C2 C3 C4 C0 0) (k1 : Kd K Pd C0 C1 C2 C3 C4 C1 1) (k2 : Kd K Pd C0 C1 C2 C3 C4 C2 2) (k3 : Kd K Pd C0 C1 C2 C3 C4 C3 3) (k4 : Kd K Pd C0 C1 C2 C3 C4 C4 4) :
    Cal P w K mg base 30 "_law_bad_right" (spOkT Pt) := by
  refine cal_ofT D sc_badR (fun vs H Q E h => ?_) (fun f A outer s H vs Q E hr h => ?_)
  · obtain ⟨rfl, _⟩ := h
    rfl
  · obtain ⟨rfl, hPt, q⟩ := h
    have nd := sc_badR.nd
    have hcode : (cxOf L2.CX0 P w K mg base nmBadR "_law_bad_right" (defScope s__law_bad_right) f (.ref c) A outer s H E).nox.env.code = .ref c := rfl
    refine ⟨_, (C8.pss_cut (ps_for PassesOwn.never rfl (pi_list (pe_lst (pa_cons pe_str (pa_cons pe_str (pa_cons pe_str (pa_cons pe_str (pa_cons pe_str (pa_cons pe_str (pa_cons pe_str (pa_cons (pe_lst (pa_cons pe_str (pa_cons pe_str (pa_cons pe_str pa_nil)))) (pa_cons pe_non (pa_cons pe_int (pa_cons (pe_op op_add_str (pe_op op_mul_str pe_str pe_int) pe_str) (pa_cons pe_str pa_nil)))))))))))))) (pg_name (i := 0) nd rfl (.inr rfl))
      (C8.pss_cut (ps_set (i := 1) nd rfl (.inl rfl) (pe_lst (pa_cons (pe_lam TB hcode rfl (lam_nofree (by decide +kernel))) (pa_cons (pe_lam TB hcode rfl (lam_nofree (by decide +kernel))) (pa_cons (pe_lam TB hcode rfl (lam_nofree (by decide +kernel))) (pa_cons (pe_lam TB hcode rfl (lam_nofree (by decide +kernel))) pa_nil))))))
      (pss_one (ps_if (pt_not (pt_val (pe_callB (cr_all rfl) (by rfl) T.all (by decide +kernel) (pa_cons (pe_lc (own := [("_law_ask", 2)]) (g := gName 2) (tt := tYes) (by rfl) nd (pi_list (pv 1)) (blkOk_by (own := [("_law_ask", 2)]) (N := nmBadR) (sc := defScope s__law_bad_right) (by decide +kernel)) (fun _ _ _ _ _ => pg_name (i := 2) nd rfl (Or.inl rfl)) (fun _ _ _ _ _ => pts_nil) (fun _ _ _ _ _ => (pe_c cr hr (by decide) (by rfl) (pa_cons (pv 2) (pa_cons (pv 0) (pa_cons pe_int pa_nil)))))) pa_nil))))
      (pss_one (ps_ret pe_bl))
      pss_nil))))
      (C8.pss_cut (ps_set (i := 3) nd rfl (.inr rfl) pe_str)
      (C8.pss_cut (ps_for PassesOwn.never rfl (pi_list (pe_lst (pa_cons (pe_lam TB hcode rfl (lam_nofree (by decide +kernel))) (pa_cons (pe_lam TB hcode rfl (lam_nofree (by decide +kernel))) (pa_cons (pe_lam TB hcode rfl (lam_nofree (by decide +kernel))) (pa_cons (pe_lam TB hcode rfl (lam_nofree (by decide +kernel))) pa_nil)))))) (pg_name (i := 2) nd rfl (.inl rfl))
      (pss_one (ps_if (pt_not (pt_val (pe_c cr hr (by decide) (by rfl) (pa_cons (pv 2) (pa_cons (pv 3) (pa_cons pe_int pa_nil))))))
      (pss_one (ps_ret pe_bl))
      pss_nil)))
      (C8.pss_cut (ps_if (PW.pt (pw_or (pt_cmpR (op_neD hr.units) (pe_c cmv hr (by decide) (by rfl) (pa_cons (pv 3) pa_nil)) (pe_lst (pa_cons pe_int (pa_cons pe_int pa_nil))) (nomark _)) (pw_or1 (pt_not (pt_val (pe_cC (j := 3) cr hr (by decide) (by rfl) (pa_cons (pe_lam TB hcode rfl (lam_free (sc := defScope s__law_bad_right) rfl (by decide +kernel))) (pa_cons pe_non (pa_cons pe_int pa_nil))) rfl rfl rfl))))))
      (pss_one (ps_ret pe_bl))
      pss_nil)
      (C8.pss_cut (ps_for PassesOwn.never rfl (pi_list (pe_lst (pa_cons pe_bl (pa_cons (pe_un un_neg pe_int) (pa_cons pe_int (pa_cons pe_int (pa_cons pe_int (pa_cons pe_non (pa_cons pe_str pa_nil))))))))) (pg_name (i := 0) nd rfl (.inr rfl))
      (pss_one (ps_if (pt_not (pt_val (pe_c cr hr (by decide) (by rfl) (pa_cons (pe_lam TB hcode rfl (lam_nofree (by decide +kernel))) (pa_cons (pv 0) (pa_cons pe_int pa_nil))))))
      (pss_one (ps_ret pe_bl))
      pss_nil)))
      (C8.pss_cut (ps_for PassesOwn.never rfl (pi_list (pe_lst (pa_cons pe_bl (pa_cons (pe_un un_neg pe_int) (pa_cons pe_non (pa_cons pe_str pa_nil)))))) (pg_name (i := 0) nd rfl (.inr rfl))
      (C8.pss_cut (ps_if (pt_not (pt_val (pe_c cr hr (by decide) (by rfl) (pa_cons (pe_lam TB hcode rfl (lam_nofree (by decide +kernel))) (pa_cons (pv 0) (pa_cons pe_int pa_nil))))))
      (pss_one (ps_ret pe_bl))
      pss_nil)
      (C8.pss_cut (ps_if (pt_not (pt_val (pe_c cr hr (by decide) (by rfl) (pa_cons (pe_lam TB hcode rfl (lam_nofree (by decide +kernel))) (pa_cons (pv 0) (pa_cons pe_int pa_nil))))))
      (pss_one (ps_ret pe_bl))
      pss_nil)
      (pss_one (ps_if (pt_not (pt_val (pe_c cr hr (by decide) (by rfl) (pa_cons (pe_lam TB hcode rfl (lam_nofree (by decide +kernel))) (pa_cons (pv 0) (pa_cons pe_int pa_nil))))))
      (pss_one (ps_ret pe_bl))
      pss_nil)))))
      (pss_one (ps_ret (pe_and (pe_cmpR op_eq (pe_c cvd hr (by decide) (by rfl) (pa_cons pe_str (pa_cons pe_int pa_nil))) pe_str (nomark _)) (pe_one (pe_cmpR op_eq (pe_c cvd hr (by decide) (by rfl) (pa_cons pe_str (pa_cons pe_int pa_nil))) pe_str (nomark _)))))))))))), ?_⟩
    have t0 : TabS H Pt "_law_bad_right.<locals>.<lambda>" := TabS.nil hPt
    -- no standings
    refine ⟨fun σ' H' => ∃ y0 y1 y2 y3 : Option V, σ' = [y0, y1, y2, y3] ∧ Bt Pt H H' ∧ TabS H' Pt "_law_bad_right.<locals>.<lambda>", ?_, ?_⟩
    · refine ⟨(by show 3 ≤ sizeLine; decide), fun p1 m1 => ⟨_, 60, rfl, rfl, mo_a (by decide) (by decide), _, _, rfl, rfl, small (by decide +kernel), (by show 12 ≤ sizeLine; decide), fun p2 m2 => ?_⟩⟩
      generalize hH2 : upd (upd H p1 _) p2 _ = H2
      have s2 : Same H H2 := by rw [← hH2]; exact (same_upd m1).trans (same_upd m2)
      have hp2 : H2 p2 = some (.lst (badL p1)) := by rw [← hH2]; exact upd_same
      have hth : ∀ v ∈ badL p1, Th0 K H2 v := badL_th (xs := [.str (Str.ofString "a"), .str (Str.ofString "."), .str (Str.ofString "b")]) (by rw [← hH2]; exact same_upd m2 _ _ upd_same)
      have t2 : TabS H2 Pt "_law_bad_right.<locals>.<lambda>" := same_tab t0 s2
      refine ⟨p2, rfl, ⟨_, SqL.of hp2⟩, for_list (K := K) (a := p2) (xs := badL p1) (fun i σ' H' => ∃ y0 y1 y2 y3 : Option V, σ' = [y0, y1, y2, y3] ∧ Bt Pt H2 H' ∧ TabS H' Pt "_law_bad_right.<locals>.<lambda>") ⟨_, _, _, _, rfl, Bt.refl _ _, t2⟩ (fun i σ H' _ ⟨_, _, _, _, _, sx, _⟩ => SqL.of (bt_ext t2 sx _ _ hp2 fun _ z => by cases z)) ?_ ?_⟩
      · rintro i x σ H3 hx ⟨y0, y1, y2, y3, rfl, b3, t3⟩
        have hv := hth x (List.mem_of_getElem? hx)
        have hv3 : Th0 K H3 x := st0 (bt_ext t2 b3) hv
        refine ⟨fun σ' H' => ∃ (y1 y2 y3 : Option V), σ' = [some x, y1, y2, y3] ∧ Bt Pt H2 H' ∧ TabS H' Pt "_law_bad_right.<locals>.<lambda>" ∧ Th0 K H' x ∧ La P w K mg base (Th0 K) C0 4 H' y1, ?_, ?_⟩
        · refine ⟨t3, fun f1 c1 H4 b4 t4 _ l1 q1 => ⟨t4, fun f2 c2 H5 b5 t5 _ l2 q2 => ⟨t5, fun f3 c3 H6 b6 t6 _ l3 q3 => ⟨t6, fun f4 c4 H7 b7 t7 _ l4 q4 => ⟨(by show 4 ≤ sizeLine; decide), fun p np => ?_⟩⟩⟩⟩⟩
          have x4 := bt_ext t3 b4
          have x5 := bt_ext t4 b5
          have x6 := bt_ext t5 b6
          have x7 := bt_ext t6 b7
          have e := fun o => same_upd (o := o) np
          have x8 := fun o => ExtN.of (e o)
          refine ⟨_, y2, y3, rfl, b3.trans (b4.trans (b5.trans (b6.trans (b7.trans (Bt.of (e _)))))), same_tab t7 (e _), st0 (x4.trans (x5.trans (x6.trans (x7.trans (x8 _))))) hv3, p, [f1, f2, f3, f4], rfl, upd_same, by show 4 ≤ 4; decide, ?_⟩
          exact Asks.cons (fun _ _ h => ⟨rfl, h⟩) ((ask_lam l1 q1 (lk1 (calN_st n1) (nscope_by (by dsimp only [lamF]; decide +kernel)) rfl (fun _ _ us hl => match us, hl with | [_], _ => rfl) rfl (.inl rfl) rfl rfl rfl (fun _ => rfl) (fun _ => rfl)) (by decide)).ext (x5.trans (x6.trans (x7.trans (x8 _)))))
            (Asks.cons (fun _ _ h => ⟨rfl, h⟩) ((ask_lam l2 q2 (lk1 (calN_st n2) (nscope_by (by dsimp only [lamF]; decide +kernel)) rfl (fun _ _ us hl => match us, hl with | [_], _ => rfl) rfl (.inl rfl) rfl rfl rfl (fun _ => rfl) (fun _ => rfl)) (by decide)).ext (x6.trans (x7.trans (x8 _))))
            (Asks.cons (fun _ _ h => .inl ⟨rfl, h⟩) ((ask_lam l3 q3 (lk1 n5 (nscope_by (by dsimp only [lamF]; decide +kernel)) rfl (fun _ _ us hl => match us, hl with | [_], _ => rfl) rfl (.inl rfl) rfl rfl rfl (fun _ => rfl) (fun _ => rfl)) (by decide)).ext (x7.trans (x8 _)))
            (Asks.cons (fun _ _ h => .inl ⟨rfl, h⟩) ((ask_lam l4 q4 (lkA n9 (fun _ => pe_non) (nscope_by (by dsimp only [lamF]; decide +kernel)) rfl (fun _ _ us hl => match us, hl with | [_], _ => rfl) rfl (.inl rfl) rfl rfl rfl (fun _ => rfl) (fun _ => rfl) (fun _ => rfl)) (by decide)).ext (x8 _)) Asks.nil)))
        · rintro _ H4 ⟨y1, y2, y3, rfl, b4, t4, hv4, g, fs, rfl, hg, hgl, hA⟩
          refine ⟨.ref g, rfl, g, rfl, ⟨_, SqL.of hg⟩, fun L nL => ?_⟩
          refine lc_it (walk_list (K := K) (a := g) (xs := fs.map V.ref)) (fun i H' => Same H4 H' ∧ H' L = some (.lst (List.replicate i (V.bl true)))) ⟨same_upd nL, upd_same⟩ (fun i H' _ ⟨sa, _⟩ => SqL.of (sa _ _ hg)) ?_ ?_
          · rintro i u _ H5 hi ⟨s5, h5⟩ ⟨rfl, hu⟩
            obtain ⟨fg, hfg, rfl⟩ := List.mem_map.mp (List.mem_of_getElem? hu)
            rw [List.length_map] at hi
            refine ⟨rfl, .ref fg, rfl, x, rfl, fg, x, 0, C0, rfl, refs_of hA (ts := [x]) (fa_cons hv4 fa_nil) st0 fg hfg x List.mem_cons_self _ s5, k0, fun H6 s6 => ⟨_, s6 _ _ h5, ?_, same_upd2 (s5.trans s6) nL, ?_⟩⟩
            · rw [List.length_replicate]
              exact L2.small1000 (by omega)
            · rw [upd_same, List.replicate_succ']
          · rintro H5 ⟨s5, h5⟩
            exact ⟨L, List.replicate (fs.map V.ref).length true, rfl, SqL.of (by rw [h5, List.map_replicate]), _, rfl, ifF (by simp) ⟨_, _, _, _, rfl, b4.trans (Bt.of s5), same_tab t4 s5⟩⟩
      · rintro σ H3 ⟨y0, y1, y2, y3, rfl, b3, t3⟩
        exact ⟨y0, y1, y2, y3, rfl, (Bt.of s2).trans b3, t3⟩
    rintro _ H1 ⟨y0, y1, y2, y3, rfl, b1, t1⟩
    refine ⟨fun σ' H' => ∃ y0 y1 y2 : Option V, σ' = [y0, y1, y2, some (tx zten)] ∧ Bt Pt H H' ∧ TabS H' Pt "_law_bad_right.<locals>.<lambda>", ⟨y0, y1, y2, rfl, b1, t1⟩, ?_⟩
    clear b1 t1
    rintro _ H1 ⟨y0, y1, y2, rfl, b1, t1⟩
    -- too many pads
    refine ⟨fun σ' H' => ∃ y0 y1 y2 : Option V, σ' = [y0, y1, y2, some (tx zten)] ∧ Bt Pt H H' ∧ TabS H' Pt "_law_bad_right.<locals>.<lambda>", ?_, ?_⟩
    · refine ⟨t1, fun f1 c1 H4 b4 t4 _ l1 q1 => ⟨t4, fun f2 c2 H5 b5 t5 _ l2 q2 => ⟨t5, fun f3 c3 H6 b6 t6 _ l3 q3 => ⟨t6, fun f4 c4 H7 b7 t7 _ l4 q4 => ⟨(by show 4 ≤ sizeLine; decide), fun p np => ?_⟩⟩⟩⟩⟩
      have x5 := bt_ext t4 b5
      have x6 := bt_ext t5 b6
      have x7 := bt_ext t6 b7
      generalize hH8 : upd H7 p _ = H8
      have e : Same H7 H8 := by rw [← hH8]; exact same_upd np
      have hp : H8 p = some (.lst ([f1, f2, f3, f4].map V.ref)) := by rw [← hH8]; exact upd_same
      have x8 := ExtN.of e
      have t8 := same_tab t7 e
      have hA : Asks P w K mg base 28 Th4 C4 H8 [f1, f2, f3, f4] := Asks.cons (fun _ _ h => .inr ⟨rfl, h⟩) ((ask_lam l1 q1 (lk1 n5 (nscope_by (by dsimp only [lamF]; decide +kernel)) rfl (fun _ _ us hl => match us, hl with | [_], _ => rfl) rfl (.inl rfl) rfl rfl rfl (fun _ => rfl) (fun _ => rfl)) (by decide)).ext (x5.trans (x6.trans (x7.trans x8))))
            (Asks.cons (fun _ _ h => .inr ⟨rfl, h⟩) ((ask_lam l2 q2 (lk1 n6 (nscope_by (by dsimp only [lamF]; decide +kernel)) rfl (fun _ _ us hl => match us, hl with | [_], _ => rfl) rfl (.inl rfl) rfl rfl rfl (fun _ => rfl) (fun _ => rfl)) (by decide)).ext (x6.trans (x7.trans x8)))
            (Asks.cons (fun _ _ h => .inr ⟨rfl, h⟩) ((ask_lam l3 q3 (lk1 n7 (nscope_by (by dsimp only [lamF]; decide +kernel)) rfl (fun _ _ us hl => match us, hl with | [_], _ => rfl) rfl (.inl rfl) rfl rfl rfl (fun _ => rfl) (fun _ => rfl)) (by decide)).ext (x7.trans x8))
            (Asks.cons (fun _ _ h => .inr ⟨rfl, h⟩) ((ask_lam l4 q4 (lk1 n8 (nscope_by (by dsimp only [lamF]; decide +kernel)) rfl (fun _ _ us hl => match us, hl with | [_], _ => rfl) rfl (.inl rfl) rfl rfl rfl (fun _ => rfl) (fun _ => rfl)) (by decide)).ext x8) Asks.nil)))
      refine ⟨p, rfl, ⟨_, SqL.of hp⟩, for_list (K := K) (a := p) (xs := [f1, f2, f3, f4].map V.ref) (fun i σ' H' => ∃ y0 y1 y2 : Option V, σ' = [y0, y1, y2, some (tx zten)] ∧ Same H8 H') ⟨_, _, _, rfl, Same.refl _⟩ (fun i σ H' _ ⟨_, _, _, _, sx⟩ => SqL.of (sx _ _ hp)) ?_ ?_⟩
      · rintro i x σ H9 hx ⟨y0, y1, y2, rfl, s9⟩
        obtain ⟨g, hg, rfl⟩ := List.mem_map.mp (List.mem_of_getElem? hx)
        exact ⟨.ref g, rfl, tx zten, rfl, g, tx zten, 4, C4, rfl, refs_of hA (ts := [tx zten]) (fa_cons ⟨zten, rfl, by decide, by decide⟩ fa_nil) st4 g hg _ List.mem_cons_self _ s9, k4, fun H10 s10 => ⟨_, rfl, ifF rfl ⟨_, _, _, rfl, s9.trans s10⟩⟩⟩
      · rintro σ H9 ⟨y0, y1, y2, rfl, s9⟩
        exact ⟨y0, y1, y2, rfl, b1.trans (b4.trans (b5.trans (b6.trans (b7.trans (Bt.of (e.trans s9)))))), same_tab t8 s9⟩
    clear b1 t1
    rintro _ H1 ⟨y0, y1, y2, rfl, b1, t1⟩
    refine ⟨fun σ' H' => ∃ y0 y1 y2 : Option V, σ' = [y0, y1, y2, some (tx zten)] ∧ Bt Pt H H' ∧ TabS H' Pt "_law_bad_right.<locals>.<lambda>", ?_, ?_⟩
    · refine ⟨tx zten, rfl, zten, rfl, by decide, fun H2 p s2 np hp => ⟨(by show 2 ≤ sizeLine; decide), fun p2 np2 => ?_⟩⟩
      have hp' : (upd H2 p2 (.lst [.int 3, .int 5])) p = some (.lst ((movers zten).map nV)) := by rw [upd_ne (ne_of_none hp np2)]; exact hp
      refine ⟨_, _, .lst (SqL.of hp') (.cons (.int _) (.cons (.int _) .nil)), .lst (SqL.of upd_same) (.cons (.int _) (.cons (.int _) .nil)), rfl, rfl, _, rfl, ifF rfl ?_⟩
      have s3 := s2.trans (same_upd (o := .lst [.int 3, .int 5]) np2)
      have t3 := same_tab t1 s3
      refine ⟨tx zten, rfl, t3, fun f1 c1 H4 b4 t4 _ l1 q1 => fun c o u hc hn hd hu => ?_⟩
      have e := same_upd (o := PinO c o) hn
      refine ⟨f1, .non, 4, C4, rfl, ref_cap (e _ _ l1) (e _ _ q1) upd_same (cl_one hc) hd hu (lkC n11 (fun H => .inl (.inr ⟨rfl, zten, rfl, by decide, by decide⟩)) (nscope_by (by dsimp only [lamF]; decide +kernel)) (fun _ _ us hl => match us, hl with | [_], _ => rfl) rfl (.inl rfl) (.inr (.inr rfl)) rfl rfl rfl rfl rfl (fun _ => rfl) (fun _ => rfl) (fun _ => rfl)) (by decide), k4, fun H5 s5 => ⟨s5 _ _ upd_same, ?_⟩⟩
      have b6 : Bt Pt H4 (era H5 c) := fun b ob nb z => by
        rw [era_ne (ne_of_none z hn)]
        exact s5 _ _ (e _ _ z)
      have t6 : TabS (era H5 c) Pt "_law_bad_right.<locals>.<lambda>" := t4.ext fun b ob z => by
        rw [era_ne (ne_of_none z hn)]
        exact s5 _ _ (e _ _ z)
      exact ⟨_, rfl, ifF rfl ⟨y0, y1, y2, rfl, b1.trans ((Bt.of s3).trans (b4.trans b6)), t6⟩⟩
    clear b1 t1
    rintro _ H1 ⟨y0, y1, y2, rfl, b1, t1⟩
    -- pads
    refine ⟨fun σ' H' => ∃ y0 y1 y2 : Option V, σ' = [y0, y1, y2, some (tx zten)] ∧ Bt Pt H H' ∧ TabS H' Pt "_law_bad_right.<locals>.<lambda>", ?_, ?_⟩
    · refine ⟨1, rfl, (by show 7 ≤ sizeLine; decide), fun p np => ?_⟩
      generalize hH2 : upd H1 p _ = H2
      have s2 : Same H1 H2 := by rw [← hH2]; exact same_upd np
      have hp : H2 p = some (.lst padL) := by rw [← hH2]; exact upd_same
      have t2 := same_tab t1 s2
      refine ⟨p, rfl, ⟨_, SqL.of hp⟩, for_list (K := K) (a := p) (xs := padL) (fun i σ' H' => ∃ y0 y1 y2 : Option V, σ' = [y0, y1, y2, some (tx zten)] ∧ Bt Pt H2 H' ∧ TabS H' Pt "_law_bad_right.<locals>.<lambda>") ⟨_, _, _, rfl, Bt.refl _ _, t2⟩ (fun i σ H' _ ⟨_, _, _, _, sx, _⟩ => SqL.of (bt_ext t2 sx _ _ hp fun _ z => by cases z)) ?_ ?_⟩
      · rintro i x σ H3 hx ⟨y0, y1, y2, rfl, b3, t3⟩
        have hm := List.mem_of_getElem? hx
        refine ⟨t3, fun f1 c1 H4 b4 t4 _ l1 q1 => ⟨x, rfl, f1, x, 1, C1, rfl, refs1 (ask_lam l1 q1 (lkB n9 (fun _ => pe_str) (nscope_by (by dsimp only [lamF]; decide +kernel)) rfl (fun _ _ us hl => match us, hl with | [_], _ => rfl) rfl (.inl rfl) rfl rfl rfl (fun _ => rfl) (fun _ => rfl) (fun _ => rfl)) (by decide)) (.inr ⟨rfl, zaab, by decide +kernel, by decide, padL_th x hm⟩), k1, fun H5 s5 => ⟨_, rfl, ifF rfl ⟨_, _, _, rfl, b3.trans (b4.trans (Bt.of s5)), same_tab t4 s5⟩⟩⟩⟩
      · rintro σ H3 ⟨y0, y1, y2, rfl, b3, t3⟩
        exact ⟨y0, y1, y2, rfl, b1.trans ((Bt.of s2).trans b3), t3⟩
    clear b1 t1
    rintro _ H1 ⟨y0, y1, y2, rfl, b1, t1⟩
    -- counts, numbers
    refine ⟨fun σ' H' => ∃ y0 y1 y2 : Option V, σ' = [y0, y1, y2, some (tx zten)] ∧ Bt Pt H H' ∧ TabS H' Pt "_law_bad_right.<locals>.<lambda>", ?_, ?_⟩
    · refine ⟨1, rfl, (by show 4 ≤ sizeLine; decide), fun p np => ?_⟩
      generalize hH2 : upd H1 p _ = H2
      have s2 : Same H1 H2 := by rw [← hH2]; exact same_upd np
      have hp : H2 p = some (.lst cntL) := by rw [← hH2]; exact upd_same
      have t2 := same_tab t1 s2
      refine ⟨p, rfl, ⟨_, SqL.of hp⟩, for_list (K := K) (a := p) (xs := cntL) (fun i σ' H' => ∃ y0 y1 y2 : Option V, σ' = [y0, y1, y2, some (tx zten)] ∧ Bt Pt H2 H' ∧ TabS H' Pt "_law_bad_right.<locals>.<lambda>") ⟨_, _, _, rfl, Bt.refl _ _, t2⟩ (fun i σ H' _ ⟨_, _, _, _, sx, _⟩ => SqL.of (bt_ext t2 sx _ _ hp fun _ z => by cases z)) ?_ ?_⟩
      · rintro i x σ H3 hx ⟨y0, y1, y2, rfl, b3, t3⟩
        have hm := List.mem_of_getElem? hx
        refine ⟨fun σ' H' => ∃ y1 y2 : Option V, σ' = [some x, y1, y2, some (tx zten)] ∧ Bt Pt H2 H' ∧ TabS H' Pt "_law_bad_right.<locals>.<lambda>", ?_, ?_⟩
        · exact ⟨t3, fun f1 c1 H4 b4 t4 _ l1 q1 => ⟨x, rfl, f1, x, 2, C2, rfl, refs1 (ask_lam l1 q1 (lkA n10 (fun _ => pe_non) (nscope_by (by dsimp only [lamF]; decide +kernel)) rfl (fun _ _ us hl => match us, hl with | [_], _ => rfl) rfl (.inl rfl) rfl rfl rfl (fun _ => rfl) (fun _ => rfl) (fun _ => rfl)) (by decide)) ⟨rfl, (cntL_th x hm).elim .inl fun ⟨n, e, _⟩ => .inr ⟨n, e, .inl (nw_ty (r1 := false) (r2 := false) .non (by decide +kernel) (by decide +kernel) rfl)⟩⟩, k2, fun H5 s5 => ⟨_, rfl, ifF rfl ⟨_, _, rfl, b3.trans (b4.trans (Bt.of s5)), same_tab t4 s5⟩⟩⟩⟩
        clear b3 t3
        rintro _ H3 ⟨y1, y2, rfl, b3, t3⟩
        refine ⟨fun σ' H' => ∃ y1 y2 : Option V, σ' = [some x, y1, y2, some (tx zten)] ∧ Bt Pt H2 H' ∧ TabS H' Pt "_law_bad_right.<locals>.<lambda>", ?_, ?_⟩
        · exact ⟨t3, fun f1 c1 H4 b4 t4 _ l1 q1 => ⟨x, rfl, f1, x, 2, C2, rfl, refs1 (ask_lam l1 q1 (lkB n10 (fun _ => pe_int) (nscope_by (by dsimp only [lamF]; decide +kernel)) rfl (fun _ _ us hl => match us, hl with | [_], _ => rfl) rfl (.inl rfl) rfl rfl rfl (fun _ => rfl) (fun _ => rfl) (fun _ => rfl)) (by decide)) ⟨rfl, .inr ⟨3, rfl, (cntL_th x hm).elim .inl fun ⟨n, e, hn⟩ => .inr ⟨n, e, .inr hn⟩⟩⟩, k2, fun H5 s5 => ⟨_, rfl, ifF rfl ⟨_, _, rfl, b3.trans (b4.trans (Bt.of s5)), same_tab t4 s5⟩⟩⟩⟩
        clear b3 t3
        rintro _ H3 ⟨y1, y2, rfl, b3, t3⟩
        exact ⟨t3, fun f1 c1 H4 b4 t4 _ l1 q1 => ⟨x, rfl, f1, x, 3, C3, rfl, refs1 (ask_lam l1 q1 (lkB n11 (fun _ => pe_str) (nscope_by (by dsimp only [lamF]; decide +kernel)) rfl (fun _ _ us hl => match us, hl with | [_], _ => rfl) rfl (.inl rfl) rfl rfl rfl (fun _ => rfl) (fun _ => rfl) (fun _ => rfl)) (by decide)) (.inr ⟨rfl, ([true], [false]), by decide +kernel, by decide, (cntL_th x hm).elim .inl fun ⟨n, e, hn⟩ => .inr ⟨n, e, .inl hn⟩⟩), k3, fun H5 s5 => ⟨_, rfl, ifF rfl ⟨_, _, _, rfl, b3.trans (b4.trans (Bt.of s5)), same_tab t4 s5⟩⟩⟩⟩
      · rintro σ H3 ⟨y0, y1, y2, rfl, b3, t3⟩
        exact ⟨y0, y1, y2, rfl, b1.trans ((Bt.of s2).trans b3), t3⟩
    clear b1 t1
    rintro _ H1 ⟨y0, y1, y2, rfl, b1, t1⟩
    have ea : V.str (Str.ofString "aa.b") = tx zaab := by decide +kernel
    refine ⟨zaab, 3, ([false, true, true], []), by rw [← ea]; rfl, by decide +kernel, by decide, fun H2 s2 => ⟨rfl, true, ?_, iteT ?_⟩⟩
    · decide +kernel
    refine ⟨zaab, 1, ([true], [true, false]), by rw [← ea]; rfl, by decide +kernel, by decide, fun H3 s3 => ⟨rfl, ?_⟩⟩
    exact bl_of (b := decide (tx ([true], [true, false]) = V.str (Str.ofString "a.ab"))) (by decide +kernel) (q _ (b1.trans (Bt.of (s2.trans s3))))
end
end PP

/-! ### _law_sixty_right -/
namespace PP
open PySem PySem.Spec PyProof.Rows L2 SX PR PL LamX NdefX
/-- beginnings of sixty pads -/
def zsix (o : Nat) : Zp := (List.replicate o true, List.replicate (59 - o) false)
theorem six_pads {o : Nat} (h : o ≤ 59) : pads (zsix o) = 60 := by
  unfold pads zsix
  simp
  omega
theorem six_movers : ∀ o < 60, (movers (zsix o)).map (fun n : Nat => (n : Int)) = (([(o : Int) - 2, (o : Int) - 1, (o : Int) + 1, (o : Int) + 2].filter fun p => decide (0 ≤ p) && decide (p < 60)).filter fun p => decide (p = (o : Int) - 1) || decide (p = (o : Int) + 1)) := by decide +kernel
theorem six_text {o : Nat} (h : o ≤ 59) : (Txt.mul (Str.ofString "a") (o : Int) ++ Str.ofString ".") ++ Txt.mul (Str.ofString "b") (59 - (o : Int)) = S (cps (zsix o)) := by
  rw [s_a, PR.mul_one 97 (by omega), s_dot, s_b, PR.mul_one 98 (by omega), S_cat, S_cat]
  have e : (59 - (o : Int)).toNat = 59 - o := by omega
  rw [e]
  simp [cps, sg, zsix]
theorem six_goal {o : Nat} (h : o ≤ 59) : (Txt.mul (Str.ofString "b") (59 - (o : Int)) ++ Str.ofString ".") ++ Txt.mul (Str.ofString "a") (o : Int) = S (cps (goal (zsix o))) := by
  rw [s_a, PR.mul_one 97 (by omega), s_dot, s_b, PR.mul_one 98 (by omega), S_cat, S_cat, goal_codes]
  have e : (59 - (o : Int)).toNat = 59 - o := by omega
  rw [e]
  simp [na, nb, zsix, List.count_replicate]
section
variable {P : Program} {w : World} {K : PySem.W.Frag} {mg : Str → Option Value} {base : Heap}
def spSixty : Sp := fun vs H Q _ => ∃ W : Int, vs = [.int W] ∧ 0 ≤ W ∧ ∀ H', Same H H' → Q (.bl true) H'
abbrev nmSixty : List Str := ["_law_whole", "_law_ones", "_law_standing", "_law_due", "_law_pads", "_law_pad", "_law_due_pads"]
theorem sc_sixty : FnScope nmSixty ["_law_whole"] (defScope s__law_sixty_right) := ⟨rfl, rfl, rfl, by decide +kernel, rfl, by decide +kernel, by decide +kernel⟩
theorem c_sixty (D : Df K mg "_law_sixty_right" s__law_sixty_right ["_law_whole"]) (cmv : Cal P w K mg base 2 "moves" spMovers) (cvd : Cal P w K mg base 2 "moved" spBehind) (clf : Cal P w K mg base 2 "moves_left" spLeft) (cg : Cal P w K mg base 2 "goal" spGoal) (ce : Cal P w K mg base 2 "exchange" spExch) :
    Cal P w K mg base 3 "_law_sixty_right" spSixty := by
  refine cal_of D sc_sixty (fun vs H Q E h => ?_) (fun f cdv A outer s H vs Q E hr h => ?_)
  · obtain ⟨W, rfl, _⟩ := h
    rfl
  · obtain ⟨W, rfl, hW, q⟩ := h
    have nd := sc_sixty.nd
    refine ⟨_, (C8.pss_cut (ps_set (i := 1) nd rfl (.inr rfl) (pe_op op_mod (pv 0) pe_int))
      (C8.pss_cut (ps_set (i := 2) nd rfl (.inl rfl) (pe_op op_add_str (pe_op op_add_str (pe_op op_mul_str pe_str (pv 1)) pe_str) (pe_op op_mul_str pe_str (pe_op op_sub pe_int (pv 1)))))
      (C8.pss_cut (ps_set (i := 3) nd rfl (.inl rfl) (pe_op op_add (pe_op op_mul (pv 1) (pe_op op_sub pe_int (pv 1))) pe_int))
      (C8.pss_cut (ps_if (PW.pt (pw_or (pt_cmpR op_ne (pe_c clf hr (by decide) (by rfl) (pa_cons (pv 2) pa_nil)) (pv 3) (nomark _)) (pw_or1 (pt_cmpR op_ne (pe_c cg hr (by decide) (by rfl) (pa_cons (pv 2) pa_nil)) (pe_op op_add_str (pe_op op_add_str (pe_op op_mul_str pe_str (pe_op op_sub pe_int (pv 1))) pe_str) (pe_op op_mul_str pe_str (pv 1))) (nomark _)))))
      (pss_one (ps_ret pe_bl))
      pss_nil)
      (C8.pss_cut (ps_if (PW.pt (pw_or (pt_cmpR op_ne (pe_c ce hr (by decide) (by rfl) (pa_cons (pv 1) (pa_cons (pe_op op_sub pe_int (pv 1)) pa_nil))) (pv 3) (nomark _)) (pw_or (pt_cmpR op_ne (pe_c ce hr (by decide) (by rfl) (pa_cons (pv 0) (pa_cons pe_int pa_nil))) (pv 0) (nomark _)) (pw_or1 (pt_cmpR op_ne (pe_c ce hr (by decide) (by rfl) (pa_cons (pe_op op_pow pe_int pe_int) (pa_cons pe_int pa_nil))) (pe_op op_add (pe_op op_mul pe_int (pe_op op_pow pe_int pe_int)) pe_int) (nomark _))))))
      (pss_one (ps_ret pe_bl))
      pss_nil)
      (C8.pss_cut (ps_setLc (i := 4) (own := [("_law_pad", 5)]) (g := gName 5) (by rfl) nd rfl rfl (sw_true rfl rfl rfl (by decide +kernel)) (pi_list (pe_lst (pa_cons (pe_op op_sub (pv 1) pe_int) (pa_cons (pe_op op_sub (pv 1) pe_int) (pa_cons (pe_op op_add (pv 1) pe_int) (pa_cons (pe_op op_add (pv 1) pe_int) pa_nil)))))) (blkOk_by (own := [("_law_pad", 5)]) (N := nmSixty) (sc := defScope s__law_sixty_right) (by decide +kernel)) (fun _ _ _ _ _ => pg_name (i := 5) nd rfl (Or.inl rfl)) (fun _ _ _ _ _ => (pts_one (pt_chain op_le op_lt pe_int (pv 5) pe_int))) (fun _ _ _ _ _ => (pv 5)))
      (C8.pss_cut (ps_setLc (i := 6) (own := [("_law_pad", 5)]) (g := gName 5) (by rfl) nd rfl rfl (sw_true rfl rfl rfl (by decide +kernel)) (pi_list (pv 4)) (blkOk_by (own := [("_law_pad", 5)]) (N := nmSixty) (sc := defScope s__law_sixty_right) (by decide +kernel)) (fun _ _ _ _ _ => pg_name (i := 5) nd rfl (Or.inl rfl)) (fun _ _ _ _ _ => (pts_one (PW.pt (pw_or (pt_cmpR op_eq (pv 5) (pe_op op_sub (pv 1) pe_int) (nomark _)) (pw_or1 (pt_cmpR op_eq (pv 5) (pe_op op_add (pv 1) pe_int) (nomark _))))))) (fun _ _ _ _ _ => (pv 5)))
      (pss_one (ps_ret (pe_and (pe_cmpR (op_eqD hr.units) (pe_c cmv hr (by decide) (by rfl) (pa_cons (pv 2) pa_nil)) (pv 6) (nomark _)) (pe_one (pe_cmpR op_eq (pe_c cvd hr (by decide) (by rfl) (pa_cons (pe_op op_add_str (pe_op op_add_str (pe_op op_mul_str pe_str pe_int) pe_str) (pe_op op_mul_str pe_str pe_int)) (pa_cons pe_int pa_nil))) (pe_op op_add_str (pe_op op_add_str (pe_op op_mul_str pe_str pe_int) pe_str) (pe_op op_mul_str pe_str pe_int)) (nomark _))))))))))))), ?_⟩
    refine ⟨fun σ' H' => ∃ o : Nat, o ≤ 59 ∧ σ' = [some (.int W), some (.int (o : Int)), none, none, none, none, none] ∧ Same H H', ?_, ?_⟩
    · refine ⟨.int W, rfl, W, 60, rfl, rfl, (by show (0 : Int) < 60; decide), (W % 60).toNat, ?_, ?_, Same.refl _⟩
      · have := Int.emod_lt_of_pos W (show (0 : Int) < 60 by decide)
        omega
      · rw [Int.toNat_of_nonneg (Int.emod_nonneg _ (by decide))]
        rfl
    rintro _ H1 ⟨o, ho, rfl, s1⟩
    have hsm : ∀ {x y : Int}, 0 ≤ x → x < 2 ^ 30 → IntMulOk x y := fun h1 h2 => .of_left (intBits_le_64 (by omega) (by omega))
    have hsr : ∀ {x y : Int}, 0 ≤ y → y < 2 ^ 30 → IntMulOk x y := fun h1 h2 => .of_right (intBits_le_64 (by omega) (by omega))
    refine ⟨fun σ' H' => σ' = [some (.int W), some (.int (o : Int)), some (tx (zsix o)), none, none, none, none] ∧ Same H H', ?_, ?_⟩
    · refine ⟨.int o, rfl, _, _, rfl, rfl, mo_a (by omega) (by omega), _, _, rfl, rfl, ?_, .int o, rfl, _, _, rfl, rfl, _, _, rfl, rfl, mo_b (by omega) (by omega), _, _, rfl, rfl, ?_, ?_, s1⟩
      · rw [s_a, PR.mul_one 97 (by omega), s_dot, S_len, S_len]
        exact small (by simp; omega)
      · rw [s_a, PR.mul_one 97 (by omega), s_dot, s_b, PR.mul_one 98 (by omega), S_cat, S_len, S_len]
        exact small (by simp; omega)
      · rw [six_text ho]
        rfl
    clear s1
    rintro _ H1 ⟨rfl, s1⟩
    refine ⟨fun σ' H' => σ' = [some (.int W), some (.int (o : Int)), some (tx (zsix o)), some (.int ((o : Int) * (59 - (o : Int)) + 59)), none, none, none] ∧ Same H H', ?_, ?_⟩
    · exact ⟨.int o, rfl, .int o, rfl, _, _, rfl, rfl, _, _, rfl, rfl, .inl ⟨by omega, by omega⟩, _, _, rfl, rfl, rfl, s1⟩
    clear s1
    rintro _ H1 ⟨rfl, s1⟩
    have hml : ((mleft (zsix o) : Nat) : Int) = (o : Int) * (59 - (o : Int)) + 59 := by
      unfold zsix
      rw [mleft_begin]
      have e : ((59 - o : Nat) : Int) = 59 - (o : Int) := by omega
      push_cast
      rw [e]
      omega
    refine ⟨fun σ' H' => σ' = [some (.int W), some (.int (o : Int)), some (tx (zsix o)), some (.int ((o : Int) * (59 - (o : Int)) + 59)), none, none, none] ∧ Same H H', ?_, ?_⟩
    · refine ⟨tx (zsix o), rfl, zsix o, rfl, by rw [six_pads ho]; exact Nat.le_refl _, fun H2 s2 => ⟨_, rfl, rfl, _, rfl, ifF ?_ ?_⟩⟩
      · show (!decide (V.int (mleft (zsix o) : Nat) = V.int _)) = false
        rw [hml]
        simp
      refine ⟨tx (zsix o), rfl, zsix o, rfl, by rw [six_pads ho]; exact Nat.le_refl _, fun H3 s3 => ⟨.int o, rfl, _, _, rfl, rfl, _, _, rfl, rfl, mo_b (by omega) (by omega), _, _, rfl, rfl, ?_, .int o, rfl, _, _, rfl, rfl, mo_a (by omega) (by omega), _, _, rfl, rfl, ?_, rfl, _, rfl, ifF ?_ ⟨rfl, s1.trans (s2.trans s3)⟩⟩⟩
      · rw [s_b, PR.mul_one 98 (by omega), s_dot, S_len, S_len]
        exact small (by simp; omega)
      · rw [s_b, PR.mul_one 98 (by omega), s_dot, s_a, PR.mul_one 97 (by omega), S_cat, S_len, S_len]
        exact small (by simp; omega)
      · rw [six_goal ho]
        simp
    clear s1
    rintro _ H1 ⟨rfl, s1⟩
    refine ⟨fun σ' H' => σ' = [some (.int W), some (.int (o : Int)), some (tx (zsix o)), some (.int ((o : Int) * (59 - (o : Int)) + 59)), none, none, none] ∧ Same H H', ?_, ?_⟩
    · refine ⟨.int o, rfl, .int o, rfl, _, _, rfl, rfl, o, 59 - (o : Int), rfl, by omega, by omega, hsm (by omega) (by omega), _, rfl, rfl, _, rfl, ifF ?_ ?_⟩
      · have e : (o : Int) * (59 - (o : Int)) + (o : Int) + (59 - (o : Int)) = (o : Int) * (59 - (o : Int)) + 59 := by omega
        rw [e]
        simp
      refine ⟨.int W, rfl, W, 0, rfl, hW, by decide, hsr (by decide) (by decide), .int W, rfl, rfl, _, rfl, ifF ?_ ?_⟩
      · simp
      refine ⟨10, 30, rfl, rfl, ⟨by decide, by decide, by decide⟩, _, 1, rfl, by decide, by decide, hsr (by decide) (by decide), 10, 30, rfl, rfl, ⟨by decide, by decide, by decide⟩, _, _, rfl, rfl, .inl ⟨by decide, by decide⟩, _, _, rfl, rfl, rfl, _, rfl, ifF ?_ ⟨rfl, s1⟩⟩
      decide +kernel
    rintro _ H2 ⟨rfl, s2⟩
    have int_mem : ∀ {l : List Int} {i : Nat} {x : V}, (l.map V.int)[i]? = some x → ∃ n, l[i]? = some n ∧ x = .int n := fun {l i x} h => by
      rw [List.getElem?_map] at h
      cases e : l[i]? with
      | none => rw [e] at h; cases h
      | some u => rw [e] at h; exact ⟨u, rfl, (Option.some.inj h).symm⟩
    have fyes : ∀ {l : List Int} {g : Int → Bool} {i : Nat} {n : Int}, l[i]? = some n → g n = true → ((l.take (i + 1)).filter g).map V.int = ((l.take i).filter g).map V.int ++ [V.int n] := fun {l g i n} h e => by
      rw [List.take_succ, h, List.filter_append, List.map_append]
      simp [e]
    have fno : ∀ {l : List Int} {g : Int → Bool} {i : Nat} {n : Int}, l[i]? = some n → g n = false → ((l.take (i + 1)).filter g).map V.int = ((l.take i).filter g).map V.int := fun {l g i n} h e => by
      rw [List.take_succ, h, List.filter_append, List.map_append]
      simp [e]
    have flen : ∀ {l : List Int} {g : Int → Bool} {i : Nat}, l.length ≤ 4 → (((l.take i).filter g).map V.int).length < sizeLine := fun {l g i} h => by
      rw [List.length_map]
      have h1 := List.length_filter_le g (l.take i)
      rw [List.length_take] at h1
      exact L2.small1000 (by omega)
    generalize hx1 : [(o : Int) - 2, (o : Int) - 1, (o : Int) + 1, (o : Int) + 2] = xs1
    have hl1 : xs1.length ≤ 4 := by rw [← hx1]; exact Nat.le_refl _
    refine ⟨fun σ' H' => ∃ (l : Addr) (y5 : Option V), σ' = [some (.int W), some (.int (o : Int)), some (tx (zsix o)), some (.int ((o : Int) * (59 - (o : Int)) + 59)), some (.ref l), y5, none] ∧ Same H H' ∧ H' l = some (.lst ((xs1.filter fun p => decide (0 ≤ p) && decide (p < 60)).map V.int)), ?_, ?_⟩
    · refine ⟨.int o, rfl, _, _, rfl, rfl, .int o, rfl, _, _, rfl, rfl, .int o, rfl, _, _, rfl, rfl, .int o, rfl, _, _, rfl, rfl, (by show 4 ≤ sizeLine; decide), fun l nl => ?_⟩
      generalize hH3 : upd H2 l _ = H3
      have s3 : Same H2 H3 := by rw [← hH3]; exact same_upd nl
      have hl : H3 l = some (.lst (xs1.map V.int)) := by rw [← hH3, ← hx1]; exact upd_same
      refine ⟨l, rfl, ⟨_, SqL.of hl⟩, fun D nD => ?_⟩
      refine lc_it (walk_list (K := K) (a := l) (xs := xs1.map V.int)) (fun i H' => Same H3 H' ∧ H' D = some (.lst (((xs1.take i).filter fun p => decide (0 ≤ p) && decide (p < 60)).map V.int))) ⟨same_upd nD, upd_same⟩ (fun i H' _ ⟨sa, _⟩ => SqL.of (sa _ _ hl)) ?_ ?_
      · rintro i x _ H4 hi ⟨s4, h4⟩ ⟨rfl, hx⟩
        obtain ⟨n, hn, rfl⟩ := int_mem hx
        refine ⟨rfl, .int n, rfl, 0, n, rfl, rfl, _, rfl, ifB (fun c1 => ⟨n, 60, rfl, rfl, _, rfl, ifB (fun c2 => ?_) (fun c2 => ?_)⟩) (fun c1 => ?_)⟩
        · exact ⟨.int n, rfl, _, h4, flen hl1, same_upd2 s4 nD, by rw [upd_same, fyes hn (by rw [c1, c2]; rfl)]⟩
        · exact ⟨s4, by rw [fno hn (by rw [c1, c2]; rfl)]; exact h4⟩
        · exact ⟨_, rfl, iteF ⟨s4, by rw [fno hn (by rw [c1]; rfl)]; exact h4⟩⟩
      · rintro H4 ⟨s4, h4⟩
        rw [List.length_map, List.take_length] at h4
        exact ⟨D, _, rfl, s2.trans (s3.trans s4), h4⟩
    clear s2
    rintro _ H2 ⟨l, y5, rfl, s2, hl⟩
    generalize hx2 : (xs1.filter fun p => decide (0 ≤ p) && decide (p < 60)) = xs2
    rw [hx2] at hl
    have hl2 : xs2.length ≤ 4 := by rw [← hx2]; exact Nat.le_trans (List.length_filter_le _ _) hl1
    refine ⟨fun σ' H' => ∃ (l l2 : Addr) (y5 : Option V), σ' = [some (.int W), some (.int (o : Int)), some (tx (zsix o)), some (.int ((o : Int) * (59 - (o : Int)) + 59)), some (.ref l), y5, some (.ref l2)] ∧ Same H H' ∧ H' l2 = some (.lst ((xs2.filter fun p => decide (p = (o : Int) - 1) || decide (p = (o : Int) + 1)).map V.int)), ?_, ?_⟩
    · refine ⟨.ref l, rfl, l, rfl, ⟨_, SqL.of hl⟩, fun D nD => ?_⟩
      refine lc_it (walk_list (K := K) (a := l) (xs := xs2.map V.int)) (fun i H' => Same H2 H' ∧ H' D = some (.lst (((xs2.take i).filter fun p => decide (p = (o : Int) - 1) || decide (p = (o : Int) + 1)).map V.int))) ⟨same_upd nD, upd_same⟩ (fun i H' _ ⟨sa, _⟩ => SqL.of (sa _ _ hl)) ?_ ?_
      · rintro i x _ H4 hi ⟨s4, h4⟩ ⟨rfl, hx⟩
        obtain ⟨n, hn, rfl⟩ := int_mem hx
        refine ⟨rfl, .int n, rfl, .int o, rfl, _, _, rfl, rfl, rfl, _, rfl, ifB (fun c1 => ?_) (fun c1 => ⟨.int n, rfl, .int o, rfl, _, _, rfl, rfl, rfl, _, rfl, ifB (fun c2 => ?_) (fun c2 => ?_)⟩)⟩
        · rw [dec_int] at c1
          exact ⟨.int n, rfl, _, h4, flen hl2, same_upd2 s4 nD, by rw [upd_same, fyes hn (by rw [decide_eq_true (eq_of_beq c1)]; rfl)]⟩
        · rw [dec_int] at c2
          exact ⟨.int n, rfl, _, h4, flen hl2, same_upd2 s4 nD, by rw [upd_same, fyes hn (by rw [decide_eq_true (eq_of_beq c2), Bool.or_true])]⟩
        · rw [dec_int] at c1 c2
          exact ⟨s4, by rw [fno hn (by rw [decide_eq_false (ne_of_beq_false c1), decide_eq_false (ne_of_beq_false c2)]; rfl)]; exact h4⟩
      · rintro H4 ⟨s4, h4⟩
        rw [List.length_map, List.take_length] at h4
        exact ⟨l, D, _, rfl, s2.trans s4, h4⟩
    clear s2 hl
    rintro _ H2 ⟨l, l2, y5, rfl, s2, hl⟩
    rw [← hx2, ← hx1, ← six_movers o (by omega)] at hl
    refine ⟨tx (zsix o), rfl, zsix o, rfl, by rw [six_pads ho]; exact Nat.le_refl _, fun H3 p s3 np hp => ⟨.ref l2, rfl, dI (zs (movers (zsix o))), dI (zs (movers (zsix o))), dp_nats hp, dp_ints (SqL.of (s3 _ _ hl)), shaped_ints _, shaped_ints _, true, ?_, iteT ?_⟩⟩
    · rw [eqv_nats]
      simp
    have e1 : V.str ((Txt.mul (Str.ofString "a") 30 ++ Str.ofString ".") ++ Txt.mul (Str.ofString "b") 29) = tx (zsix 30) := by decide +kernel
    have e2 : V.str ((Txt.mul (Str.ofString "a") 29 ++ Str.ofString ".a") ++ Txt.mul (Str.ofString "b") 29) = tx (List.replicate 29 true, true :: List.replicate 29 false) := by decide +kernel
    refine ⟨_, 30, rfl, rfl, mo_a (by decide) (by decide), _, _, rfl, rfl, small (by decide +kernel), _, 29, rfl, rfl, mo_b (by decide) (by decide), _, _, rfl, rfl, small (by decide +kernel), zsix 30, 29, (List.replicate 29 true, true :: List.replicate 29 false), by rw [← e1]; rfl, by decide +kernel, by decide +kernel, fun H4 s4 => ⟨_, 29, rfl, rfl, mo_a (by decide) (by decide), _, _, rfl, rfl, small (by decide +kernel), _, 29, rfl, rfl, mo_b (by decide) (by decide), _, _, rfl, rfl, small (by decide +kernel), rfl, ?_⟩⟩
    exact bl_of (b := decide (tx (List.replicate 29 true, true :: List.replicate 29 false) = V.str ((Txt.mul (Str.ofString "a") 29 ++ Str.ofString ".a") ++ Txt.mul (Str.ofString "b") 29))) (by rw [e2]; simp) (q _ (s2.trans (s3.trans s4)))
end
end PP

/-! ### _law_known_right -/
namespace PP
open PySem PySem.Spec PyProof.Rows L2 SX PR PL LamX NdefX
theorem wayIs {z : Zp} {n : Nat} {wy w' : List Nat} (h : (wl z)[n]? = some wy) (e : (wl z)[n]? = some w') : wy = w' := by
  rw [h] at e
  exact Option.some.inj e
theorem wayNot {z : Zp} {n : Nat} {wy : List Nat} (h : (wl z)[n]? = some wy) (e : ways z = 0) : False := by
  have : n < ways z := (List.getElem?_eq_some_iff.mp h).1
  omega
theorem neSelf (x : V) : (!decide (x = x)) = false := by rw [decide_eq_true rfl]; rfl
theorem eqvLL (ws : List (List Nat)) : PyData.eqv (dLL ws) (dLL ws) = true := SeqAt.eqv_refl _ (SeqAt.canLay_of_shaped (shaped_LL ws))
/-- as many of each kind -/
def zk (n : Nat) : Zp := (List.replicate n true, List.replicate n false)
/-- its ways -/
def wk (n i : Nat) : List Nat := (wl (zk n)).getD i []
theorem kn_w1 : ∀ n < 5, 1 ≤ n → ways (zk n) = 2 ∧ mleft (zk n) = n * n + n + n ∧ (wk n 0).length = n * n + n + n ∧ pads (zk n) ≤ 9 := by decide +kernel
theorem kn_w2 : ∀ n < 5, 1 ≤ n → (wl (zk n))[0]? = some (wk n 0) ∧ (wl (zk n))[1]? = some (wk n 1) := by decide +kernel
theorem kn_w3 : ∀ n < 5, cps (PL.mirror (zk n)) = cps (zk n) := by decide +kernel
theorem kn_ways (n : Nat) (h5 : n < 5) (h1 : 1 ≤ n) : ways (zk n) = 2 ∧ mleft (zk n) = n * n + n + n ∧ (wk n 0).length = n * n + n + n ∧ PL.mirror (zk n) = zk n ∧ pads (zk n) ≤ 9 ∧ (wl (zk n))[0]? = some (wk n 0) ∧ (wl (zk n))[1]? = some (wk n 1) := by
  obtain ⟨a1, a2, a3, a4⟩ := kn_w1 n h5 h1
  exact ⟨a1, a2, a3, cps_inj (kn_w3 n h5), a4, kn_w2 n h5 h1⟩
theorem kn_lt : ∀ n < 5, 1 ≤ n → PySem.W.alike (dI (zs (wk n 0))) (dI (zs (wk n 1))) = true ∧ PySem.W.dataLt (dI (zs (wk n 0))) (dI (zs (wk n 1))) = true ∧ min (dI (zs (wk n 0))).depth (dI (zs (wk n 1))).depth ≤ 64 := by decide +kernel
theorem kn_lead : ∀ n < 5, 1 ≤ n → ∀ i < 2, leadsB (zk n) (zs (wk n i)) = true ∧ leadsB (zk n) (zs ((wk n i).drop 1)) = false ∧ leadsB (zk n) (zs (wk n i ++ (wk n i).drop ((wk n i).length - 1))) = false ∧
    cutV ((wk n i).map nV) (some 1) none = ((wk n i).drop 1).map nV ∧ cutV ((wk n i).map nV) (some (-1)) none = ((wk n i).drop ((wk n i).length - 1)).map nV ∧ (wk n i).length ≤ 24 := by decide +kernel
theorem kn_text (n : Nat) : (Txt.mul (Str.ofString "a") (n : Int) ++ Str.ofString ".") ++ Txt.mul (Str.ofString "b") (n : Int) = S (cps (zk n)) := by
  rw [s_a, PR.mul_one 97 (by omega), s_dot, s_b, PR.mul_one 98 (by omega), S_cat, S_cat]
  simp [cps, sg, zk]
theorem kn_goal (n : Nat) : (Txt.mul (Str.ofString "b") (n : Int) ++ Str.ofString ".") ++ Txt.mul (Str.ofString "a") (n : Int) = S (cps (goal (zk n))) := by
  rw [s_a, PR.mul_one 97 (by omega), s_dot, s_b, PR.mul_one 98 (by omega), S_cat, S_cat, goal_codes]
  simp [na, nb, zk, List.count_replicate]
section
variable {P : Program} {w : World} {K : PySem.W.Frag} {mg : Str → Option Value} {base : Heap} {Pd C0 C1 C2 C3 C4 : Addr}
abbrev nmKnown : List Str := ["_law_many", "_law_steps", "_law_standing", "_law_answer", "_law_both", "_law_way"]
theorem sc_known : FnScope nmKnown [] (defScope s__law_known_right) := ⟨rfl, rfl, rfl, by decide +kernel, rfl, by decide +kernel, by decide +kernel⟩
theorem c_known {c Pt A0 L N : Addr} (Y : Ans K mg A0 L N) (D : DfT K mg "_law_known_right" s__law_known_right [] c) (TB : TabB base mg c Pt) (T : Bl mg)
    (cr : Cal P w K mg base 29 "_law_refused" (spRef P w K mg base 28 Pd C0 C1 C2 C3 C4)) (cmv : Cal P w K mg base 2 "moves" spMovers) (cwy : Cal P w K mg base 27 "ways" spMany) (clf : Cal P w K mg base 2 "moves_left" spLeft) (ce : Cal P w K mg base 2 "exchange" spExch)
    (cst : Cal P w K mg base 3 "stuck" spStuck) (cled : Cal P w K mg base 28 "led" (spLed L N)) (cby : Cal P w K mg base 28 "way_by" spWayOf) (cg : Cal P w K mg base 2 "goal" spGoal) (cmi : Cal P w K mg base 2 "mirrored" spMirr) (cco : Cal P w K mg base 3 "come_by" spCome)
    (ci : Mkr P w K mg base 1 "Leads" L (spInitL K L)) (mL : Mtd P w K mg base 2 L "shows" (spShowsL K L)) (n11 : CalN P w K mg base 27 "way_by" (spRz2 (RWay K C0 C3 C4))) (k3 : Kd K Pd C0 C1 C2 C3 C4 C3 3) :
    Cal P w K mg base 30 "_law_known_right" (spOkT Pt) := by
  refine cal_ofT D sc_known (fun vs H Q E h => ?_) (fun f A outer s H vs Q E hr h => ?_)
  · obtain ⟨rfl, _⟩ := h
    rfl
  · obtain ⟨rfl, hPt, q⟩ := h
    have nd := sc_known.nd
    have hcode : (cxOf L2.CX0 P w K mg base nmKnown "_law_known_right" (defScope s__law_known_right) f (.ref c) A outer s H E).nox.env.code = .ref c := rfl
    refine ⟨_, (C8.pss_cut (ps_for PassesOwn.never rfl (pi_list (pe_lst (pa_cons (pe_tup (pa_cons pe_int (pa_cons pe_int pa_nil))) (pa_cons (pe_tup (pa_cons pe_int (pa_cons pe_int pa_nil))) (pa_cons (pe_tup (pa_cons pe_int (pa_cons pe_int pa_nil))) (pa_cons (pe_tup (pa_cons pe_int (pa_cons pe_int pa_nil))) pa_nil)))))) (pg_tup rfl (pgs_cons (pg_name (i := 0) nd rfl (.inl rfl)) (pgs_cons (pg_name (i := 1) nd rfl (.inl rfl)) pgs_nil)))
      (C8.pss_cut (ps_set (i := 2) nd rfl (.inr rfl) (pe_op op_add_str (pe_op op_add_str (pe_op op_mul_str pe_str (pv 0)) pe_str) (pe_op op_mul_str pe_str (pv 0))))
      (C8.pss_cut (ps_if (PW.pt (pw_or (pt_cmpR op_ne (pe_c cwy hr (by decide) (by rfl) (pa_cons (pv 2) pa_nil)) pe_int (nomark _)) (pw_or (pt_cmpR op_ne (pe_c clf hr (by decide) (by rfl) (pa_cons (pv 2) pa_nil)) (pv 1) (nomark _)) (pw_or1 (pt_cmpR op_ne (pe_c ce hr (by decide) (by rfl) (pa_cons (pv 0) (pa_cons (pv 0) pa_nil))) (pv 1) (nomark _))))))
      (pss_one (ps_ret pe_bl))
      pss_nil)
      (C8.pss_cut (ps_if (pt_cmpR (op_neD hr.units) (pe_c cst hr (by decide) (by rfl) (pa_cons pe_str pa_nil)) (pe_lst pa_nil) (nomark _))
      (pss_one (ps_ret pe_bl))
      pss_nil)
      (C8.pss_cut (ps_set (i := 3) nd rfl (.inl rfl) (pe_c cled hr (by decide) (by rfl) (pa_cons (pv 2) pa_nil)))
      (C8.pss_cut (ps_if (PW.pt (pw_or (pt_not (pt_val (pe_isO (C := L) T.isi Y.mL (by rfl) (by rfl) (pv 3)))) (pw_or (pt_cmpR op_ne (pe_callB call_len_seq (by rfl) T.len PySem.boot_len (pa_cons (pe_fld (pv 3) rfl) pa_nil)) (pv 1) (nomark _)) (pw_or1 (pt_cmpR op_notBl (pe_m (pv 3) Y.iL.cl mL hr (by decide) (pa_cons (pv 2) pa_nil)) pe_bl (nomark _))))))
      (pss_one (ps_ret pe_bl))
      pss_nil)
      (C8.pss_cut (ps_set (i := 4) nd rfl (.inl rfl) (pe_lst (pa_cons (pe_c cby hr (by decide) (by rfl) (pa_cons (pv 2) (pa_cons pe_int pa_nil))) (pa_cons (pe_c cby hr (by decide) (by rfl) (pa_cons (pv 2) (pa_cons pe_int pa_nil))) pa_nil))))
      (C8.pss_cut (ps_if (PW.pt (pw_or (pt_cmpR (op_geD hr.units) (pe_ix ix_list (pv 4) pe_int (fun _ _ => rfl)) (pe_ix ix_list (pv 4) pe_int (fun _ _ => rfl)) (nomark _)) (pw_or (pt_cmpR op_ne (pe_c cg hr (by decide) (by rfl) (pa_cons (pv 2) pa_nil)) (pe_op op_add_str (pe_op op_add_str (pe_op op_mul_str pe_str (pv 0)) pe_str) (pe_op op_mul_str pe_str (pv 0))) (nomark _)) (pw_or1 (pt_cmpR op_ne (pe_c cmi hr (by decide) (by rfl) (pa_cons (pv 2) pa_nil)) (pv 2) (nomark _))))))
      (pss_one (ps_ret pe_bl))
      pss_nil)
      (C8.pss_cut (ps_for PassesOwn.never rfl (pi_list (pv 4)) (pg_name (i := 5) nd rfl (.inl rfl))
      (C8.pss_cut (ps_if (PW.pt (pw_or (pt_cmpR op_notBl (pe_m (pe_mkr ci hr (by decide) (by rfl) (pa_cons (pv 5) pa_nil)) Y.iL.cl mL hr (by decide) (pa_cons (pv 2) pa_nil)) pe_bl (nomark _)) (pw_or1 (pt_val (pe_m (pe_mkr ci hr (by decide) (by rfl) (pa_cons (pe_slice sl_list (pv 5) (po_some pe_int) po_none) pa_nil)) Y.iL.cl mL hr (by decide) (pa_cons (pv 2) pa_nil))))))
      (pss_one (ps_ret pe_bl))
      pss_nil)
      (pss_one (ps_if (pt_val (pe_m (pe_mkr ci hr (by decide) (by rfl) (pa_cons (pe_op op_cat (pv 5) (pe_slice sl_list (pv 5) (po_some (pe_un un_neg pe_int)) po_none)) pa_nil)) Y.iL.cl mL hr (by decide) (pa_cons (pv 2) pa_nil)))
      (pss_one (ps_ret pe_bl))
      pss_nil))))
      (pss_one (ps_if (pt_not (pt_val (pe_cC (j := 2) cr hr (by decide) (by rfl) (pa_cons (pe_lam TB hcode rfl (lam_free (sc := defScope s__law_known_right) rfl (by decide +kernel))) (pa_cons pe_int (pa_cons pe_int pa_nil))) rfl rfl rfl)))
      (pss_one (ps_ret pe_bl))
      pss_nil)))))))))))
      (C8.pss_cut (ps_if (PW.pt (pw_or (pt_cmpR (op_neD hr.units) (pe_lst (pa_cons (pe_c cby hr (by decide) (by rfl) (pa_cons pe_str (pa_cons pe_int pa_nil))) (pa_cons (pe_c cby hr (by decide) (by rfl) (pa_cons pe_str (pa_cons pe_int pa_nil))) pa_nil))) (pe_lst (pa_cons (pe_lst (pa_cons pe_int (pa_cons pe_int (pa_cons pe_int pa_nil)))) (pa_cons (pe_lst (pa_cons pe_int (pa_cons pe_int (pa_cons pe_int pa_nil)))) pa_nil))) (nomark _)) (pw_or (pt_cmpR op_ne (pe_c cco hr (by decide) (by rfl) (pa_cons pe_str pa_nil)) pe_int (nomark _)) (pw_or1 (pt_cmpR (op_neD hr.units) (pe_c cst hr (by decide) (by rfl) (pa_cons pe_str pa_nil)) (pe_lst pa_nil) (nomark _))))))
      (pss_one (ps_ret pe_bl))
      pss_nil)
      (C8.pss_cut (ps_if (PW.pt (pw_or (pt_cmpR (op_neD hr.units) (pe_fld (pe_c cled hr (by decide) (by rfl) (pa_cons pe_str pa_nil)) rfl) (pe_lst (pa_cons pe_int (pa_cons pe_int pa_nil))) (nomark _)) (pw_or (pt_cmpR op_ne (pe_c cco hr (by decide) (by rfl) (pa_cons pe_str pa_nil)) pe_int (nomark _)) (pw_or (pt_cmpR op_ne (pe_c cwy hr (by decide) (by rfl) (pa_cons pe_str pa_nil)) pe_int (nomark _)) (pw_or (pt_cmpR (op_neD hr.units) (pe_fld (pe_c cled hr (by decide) (by rfl) (pa_cons pe_str pa_nil)) rfl) (pe_lst pa_nil) (nomark _)) (pw_or1 (pt_cmpR op_ne (pe_c cwy hr (by decide) (by rfl) (pa_cons pe_str pa_nil)) pe_int (nomark _))))))))
      (pss_one (ps_ret pe_bl))
      pss_nil)
      (C8.pss_cut (ps_if (PW.pt (pw_or (pt_cmpR (op_neD hr.units) (pe_c cby hr (by decide) (by rfl) (pa_cons pe_str (pa_cons pe_int pa_nil))) (pe_lst pa_nil) (nomark _)) (pw_or (pt_cmpR op_ne (pe_c cco hr (by decide) (by rfl) (pa_cons pe_str pa_nil)) pe_int (nomark _)) (pw_or (pt_cmpR (op_neD hr.units) (pe_c cst hr (by decide) (by rfl) (pa_cons pe_str pa_nil)) (pe_lst pa_nil) (nomark _)) (pw_or1 (pt_cmpR (op_neD hr.units) (pe_c cmv hr (by decide) (by rfl) (pa_cons pe_str pa_nil)) (pe_lst pa_nil) (nomark _)))))))
      (pss_one (ps_ret pe_bl))
      pss_nil)
      (C8.pss_cut (ps_if (PW.pt (pw_or (pt_not (pt_val (pe_isO (C := N) T.isi Y.mN (by rfl) (by rfl) (pe_c cled hr (by decide) (by rfl) (pa_cons pe_str pa_nil))))) (pw_or (pt_cmpR op_ne (pe_c cwy hr (by decide) (by rfl) (pa_cons pe_str pa_nil)) pe_int (nomark _)) (pw_or1 (pt_cmpR op_ne (pe_c cco hr (by decide) (by rfl) (pa_cons pe_str pa_nil)) pe_int (nomark _))))))
      (pss_one (ps_ret pe_bl))
      pss_nil)
      (C8.pss_cut (ps_if (pt_cmpR (op_neD hr.units) (pe_c cst hr (by decide) (by rfl) (pa_cons pe_str pa_nil)) (pe_lst (pa_cons pe_str pa_nil)) (nomark _))
      (pss_one (ps_ret pe_bl))
      pss_nil)
      (pss_one (ps_ret (pe_and (pe_cmpR op_eq (pe_c cmi hr (by decide) (by rfl) (pa_cons pe_str pa_nil)) pe_str (nomark _)) (pe_one (pe_c cr hr (by decide) (by rfl) (pa_cons (pe_lam TB hcode rfl (lam_nofree (by decide +kernel))) (pa_cons pe_int (pa_cons pe_int pa_nil)))))))))))))), ?_⟩
    have t0 : TabS H Pt "_law_known_right.<locals>.<lambda>" := TabS.nil hPt
    refine ⟨fun σ' H' => ∃ y0 y1 y2 y3 y4 y5 : Option V, σ' = [y0, y1, y2, y3, y4, y5] ∧ Bt Pt H H' ∧ TabS H' Pt "_law_known_right.<locals>.<lambda>", ?_, ?_⟩
    · refine ⟨(by show 2 ≤ sizeLine; decide), fun q1 m1 => ⟨(by show 2 ≤ sizeLine; decide), fun q2 m2 => ⟨(by show 2 ≤ sizeLine; decide), fun q3 m3 => ⟨(by show 2 ≤ sizeLine; decide), fun q4 m4 => ⟨(by show 4 ≤ sizeLine; decide), fun l ml => ?_⟩⟩⟩⟩⟩
      generalize hH2 : upd (upd (upd (upd (upd H q1 _) q2 _) q3 _) q4 _) l _ = H2
      have s2 : Same H H2 := by rw [← hH2]; exact (same_upd m1).trans ((same_upd m2).trans ((same_upd m3).trans ((same_upd m4).trans (same_upd ml))))
      have hl : H2 l = some (.lst ([q1, q2, q3, q4].map V.ref)) := by rw [← hH2]; exact upd_same
      have hq : ∀ t ∈ [q1, q2, q3, q4], ∃ n : Nat, n < 5 ∧ 1 ≤ n ∧ H2 t = some (.tup [nV n, nV (n * n + n + n)]) := fun t ht => by
        simp only [List.mem_cons, List.not_mem_nil, or_false] at ht
        rw [← hH2]
        rcases ht with rfl | rfl | rfl | rfl
        · exact ⟨1, by decide, by decide, ((same_upd m2).trans ((same_upd m3).trans ((same_upd m4).trans (same_upd ml)))) _ _ upd_same⟩
        · exact ⟨2, by decide, by decide, ((same_upd m3).trans ((same_upd m4).trans (same_upd ml))) _ _ upd_same⟩
        · exact ⟨3, by decide, by decide, ((same_upd m4).trans (same_upd ml)) _ _ upd_same⟩
        · exact ⟨4, by decide, by decide, (same_upd ml) _ _ upd_same⟩
      have t2 : TabS H2 Pt "_law_known_right.<locals>.<lambda>" := same_tab t0 s2
      refine ⟨l, rfl, ⟨_, SqL.of hl⟩, for_list (K := K) (a := l) (xs := [q1, q2, q3, q4].map V.ref) (fun i σ' H' => ∃ y0 y1 y2 y3 y4 y5 : Option V, σ' = [y0, y1, y2, y3, y4, y5] ∧ Bt Pt H2 H' ∧ TabS H' Pt "_law_known_right.<locals>.<lambda>") ⟨_, _, _, _, _, _, rfl, Bt.refl _ _, t2⟩ (fun i σ H' _ ⟨_, _, _, _, _, _, _, sx, _⟩ => SqL.of (bt_ext t2 sx _ _ hl fun _ z => by cases z)) ?_ ?_⟩
      · rintro i x σ H3 hx ⟨y0, y1, y2, y3, y4, y5, rfl, b3, t3⟩
        obtain ⟨t, ht, rfl⟩ := List.mem_map.mp (List.mem_of_getElem? hx)
        obtain ⟨n, hn5, hn1, ht2⟩ := hq t ht
        have ht3 : H3 t = some (.tup [nV n, nV (n * n + n + n)]) := bt_ext t2 b3 _ _ ht2 fun _ z => by cases z
        obtain ⟨kw, km, kl, kr, kp, kw0, kw1⟩ := kn_ways n hn5 hn1
        refine ⟨t, [nV n, nV (n * n + n + n)], rfl, SqT.of ht3, rfl, nV n, [nV (n * n + n + n)], rfl, nV (n * n + n + n), [], rfl, rfl, ?_⟩
        -- the standing
        refine ⟨fun σ' H' => ∃ y3 y4 y5 : Option V, σ' = [some (nV n), some (nV (n * n + n + n)), some (tx (zk n)), y3, y4, y5] ∧ Same H3 H', ?_, ?_⟩
        · refine ⟨nV n, rfl, _, _, rfl, rfl, mo_a (by omega) (by omega), _, _, rfl, rfl, ?_, nV n, rfl, _, _, rfl, rfl, mo_b (by omega) (by omega), _, _, rfl, rfl, ?_, y3, y4, y5, ?_, Same.refl _⟩
          · rw [s_a, PR.mul_one 97 (by omega), s_dot, S_len, S_len]
            exact small (by simp; omega)
          · rw [s_a, PR.mul_one 97 (by omega), s_dot, s_b, PR.mul_one 98 (by omega), S_cat, S_len, S_len]
            exact small (by simp; omega)
          · rw [kn_text]
            rfl
        rintro _ H4 ⟨y3, y4, y5, rfl, s4⟩
        refine ⟨fun σ' H' => ∃ y3 y4 y5 : Option V, σ' = [some (nV n), some (nV (n * n + n + n)), some (tx (zk n)), y3, y4, y5] ∧ Same H3 H', ?_, ?_⟩
        · refine ⟨tx (zk n), rfl, zk n, rfl, kp, fun H5 s5 => ⟨rfl, _, rfl, ifF ?_ ?_⟩⟩
          · rw [kw]
            decide +kernel
          refine ⟨tx (zk n), rfl, zk n, rfl, by omega, fun H6 s6 => ⟨_, rfl, rfl, _, rfl, ifF ?_ ?_⟩⟩
          · rw [km]
            exact neSelf _
          refine ⟨nV n, rfl, nV n, rfl, n, n, rfl, by omega, by omega, .of_left (intBits_le_64 (by omega) (by omega)), nV (n * n + n + n), rfl, rfl, _, rfl, ifF ?_ ⟨_, _, _, rfl, s4.trans (s5.trans s6)⟩⟩
          rw [show V.int ((n : Int) * (n : Int) + (n : Int) + (n : Int)) = nV (n * n + n + n) by show V.int _ = V.int _; push_cast; rfl]
          exact neSelf _
        clear s4
        rintro _ H4 ⟨y3, y4, y5, rfl, s4⟩
        -- none is stuck
        refine ⟨fun σ' H' => ∃ y3 y4 y5 : Option V, σ' = [some (nV n), some (nV (n * n + n + n)), some (tx (zk n)), y3, y4, y5] ∧ Same H3 H', ?_, ?_⟩
        · refine ⟨([true, true], []), by decide +kernel, by decide, fun H5 ps ws s5 nps stk hps hwl => ?_⟩
          obtain rfl := stk.none (by decide +kernel)
          exact ⟨Nat.zero_le _, fun e ne => ⟨dT [], dT [], dp_T ((same_upd ne) _ _ hps), dp_T upd_same, shaped_T _, shaped_T _, _, rfl, ifF (by rw [eqv_T, decide_eq_true rfl]; rfl) ⟨_, _, _, rfl, s4.trans (s5.trans (same_upd ne))⟩⟩⟩
        clear s4
        rintro _ H4 ⟨y3, y4, y5, rfl, s4⟩
        -- the answer
        refine ⟨fun σ' H' => ∃ (p dx qa : Addr) (y4 y5 : Option V), σ' = [some (nV n), some (nV (n * n + n + n)), some (tx (zk n)), some (.ref p), y4, y5] ∧ Same H3 H' ∧ H' p = some (.ins L dx (fP qa)) ∧ H' qa = some (.lst ((wk n 0).map nV)), ?_, ?_⟩
        · refine ⟨tx (zk n), rfl, zk n, rfl, kp, fun H5 p dx qa wy hwy s5 _ _ _ hp hqa => ?_, fun h0 => absurd h0 (by rw [kw]; decide)⟩
          obtain rfl := wayIs hwy kw0
          exact ⟨p, dx, qa, _, _, rfl, s4.trans s5, hp, hqa⟩
        clear s4
        rintro _ H4 ⟨p, dx, qa, y4, y5, rfl, s4, hp, hqa⟩
        have hqi : SqL K H4 qa ((zs (wk n 0)).map V.int) := SqL.of (by rw [hqa, nV_ints])
        obtain ⟨la0, lb0, lc0, ld0, le0, lf0⟩ := kn_lead n hn5 hn1 0 (by decide)
        refine ⟨fun σ' H' => ∃ y3 y4 y5 : Option V, σ' = [some (nV n), some (nV (n * n + n + n)), some (tx (zk n)), y3, y4, y5] ∧ Same H3 H', ?_, ?_⟩
        · refine ⟨.ref p, rfl, .ref p, .ref L, .ref L, .ref L, true, rfl, .own L, InsC.ty Y.iL hp, Y.iL.me, true, rfl, ifF rfl ?_⟩
          refine ⟨.ref p, rfl, p, L, dx, _, _, rfl, hp, Y.iL.cl, Y.noP, rfl, qa, _, rfl, .inl (SqL.of hqa), nV (n * n + n + n), rfl, rfl, _, rfl, ifF ?_ ?_⟩
          · rw [List.length_map, kl]
            exact neSelf _
          refine ⟨.ref p, rfl, p, dx, _, rfl, hp, no_shows qa, tx (zk n), rfl, p, dx, qa, zs (wk n 0), zk n, rfl, by omega, hp, hqi, fun H5 s5 => ⟨_, _, rfl, rfl, _, rfl, ifF (by rw [la0]; rfl) ⟨_, _, _, rfl, s4.trans s5⟩⟩⟩
        clear s4 hp hqa hqi
        rintro _ H4 ⟨y3, y4, y5, rfl, s4⟩
        -- both ways
        refine ⟨fun σ' H' => ∃ (y3 y5 : Option V) (l2 : Addr), σ' = [some (nV n), some (nV (n * n + n + n)), some (tx (zk n)), y3, some (.ref l2), y5] ∧ Same H3 H' ∧ LL H' l2 [wk n 0, wk n 1], ?_, ?_⟩
        · refine ⟨tx (zk n), rfl, zk n, 0, wk n 0, rfl, kp, kw0, fun H5 w0 s5 nw0 hw0 => ⟨tx (zk n), rfl, zk n, 1, wk n 1, rfl, kp, kw1, fun H6 w1 s6 nw1 hw1 => ⟨(by show 2 ≤ sizeLine; decide), fun l2 nl2 => ?_⟩⟩⟩
          exact ⟨_, _, l2, rfl, s4.trans (s5.trans (s6.trans (same_upd nl2))), [w0, w1], upd_same, .cons ((s6.trans (same_upd nl2)) _ _ hw0) (.cons ((same_upd nl2) _ _ hw1) .nil)⟩
        clear s4
        rintro _ H4 ⟨y3, y5, l2, rfl, s4, qs, hl2, hpr⟩
        obtain ⟨w0, w1, rfl, hw0, hw1⟩ : ∃ w0 w1, qs = [w0, w1] ∧ H4 w0 = some (.lst ((wk n 0).map nV)) ∧ H4 w1 = some (.lst ((wk n 1).map nV)) := by
          cases hpr with
          | cons a1 r => cases r with
            | cons a2 r => cases r; exact ⟨_, _, rfl, a1, a2⟩
        obtain ⟨al, lt, dp⟩ := kn_lt n hn5 hn1
        refine ⟨fun σ' H' => ∃ (y3 y5 : Option V), σ' = [some (nV n), some (nV (n * n + n + n)), some (tx (zk n)), y3, some (.ref l2), y5] ∧ Same H4 H', ?_, ?_⟩
        · refine ⟨.ref l2, rfl, l2, _, 0, .ref w0, rfl, rfl, SqL.of hl2, rfl, .ref l2, rfl, l2, _, 1, .ref w1, rfl, rfl, SqL.of hl2, rfl, dI (zs (wk n 0)), dI (zs (wk n 1)), dp_nats hw0, dp_nats hw1, al, (fun z => by cases z), dp, _, rfl, ifF (by rw [lt]; rfl) ?_⟩
          refine ⟨tx (zk n), rfl, zk n, rfl, by omega, fun H5 s5 => ⟨nV n, rfl, _, _, rfl, rfl, mo_b (by omega) (by omega), _, _, rfl, rfl, ?_, nV n, rfl, _, _, rfl, rfl, mo_a (by omega) (by omega), _, _, rfl, rfl, ?_, rfl, _, rfl, ifF ?_ ?_⟩⟩
          · rw [s_b, PR.mul_one 98 (by omega), s_dot, S_len, S_len]
            exact small (by simp; omega)
          · rw [s_b, PR.mul_one 98 (by omega), s_dot, s_a, PR.mul_one 97 (by omega), S_cat, S_len, S_len]
            exact small (by simp; omega)
          · rw [kn_goal]
            exact neSelf _
          refine ⟨tx (zk n), rfl, zk n, rfl, by omega, fun H6 s6 => ⟨tx (zk n), rfl, rfl, _, rfl, ifF ?_ ⟨_, _, rfl, s5.trans s6⟩⟩⟩
          rw [kr]
          exact neSelf _
        rintro _ H5 ⟨y3, y5, rfl, s5⟩
        -- each way leads, one less and one more do not
        refine ⟨fun σ' H' => ∃ (y3 y4 y5 : Option V), σ' = [some (nV n), some (nV (n * n + n + n)), some (tx (zk n)), y3, y4, y5] ∧ Same H4 H', ?_, ?_⟩
        · refine ⟨.ref l2, rfl, l2, rfl, ⟨_, SqL.of (s5 _ _ hl2)⟩, for_list (K := K) (a := l2) (xs := [w0, w1].map V.ref) (fun i σ' H' => ∃ (y3 y5 : Option V), σ' = [some (nV n), some (nV (n * n + n + n)), some (tx (zk n)), y3, some (.ref l2), y5] ∧ Same H4 H') ⟨_, _, rfl, s5⟩ (fun i σ H' _ ⟨_, _, _, sx⟩ => SqL.of (sx _ _ hl2)) ?_ ?_⟩
          · rintro i x σ H6 hx ⟨y3, y5, rfl, s6⟩
            obtain ⟨ww, i2, hi2, rfl, hww⟩ : ∃ ww i2, i2 < 2 ∧ x = .ref ww ∧ H4 ww = some (.lst ((wk n i2).map nV)) := by
              match i, hx with
              | 0, hx => cases hx; exact ⟨w0, 0, by decide, rfl, hw0⟩
              | 1, hx => cases hx; exact ⟨w1, 1, by decide, rfl, hw1⟩
            obtain ⟨la, lb, lc, ld, le, lf⟩ := kn_lead n hn5 hn1 i2 hi2
            have hw6 := s6 _ _ hww
            refine ⟨fun σ' H' => ∃ (y3 : Option V), σ' = [some (nV n), some (nV (n * n + n + n)), some (tx (zk n)), y3, some (.ref l2), some (.ref ww)] ∧ Same H4 H', ?_, ?_⟩
            · refine ⟨.ref ww, rfl, fun xo dx nx ndx nex => ?_⟩
              have sA := (same_upd (o := HO.own xo) ndx).trans (same_upd (o := HO.ins L dx []) (by rw [upd_ne nex.symm]; exact nx))
              refine ⟨xo, dx, ww, (zs (wk n i2)).map V.int, rfl, upd_same, SqL.of (by rw [← nV_ints]; exact sA _ _ hw6), fun qf nqf => ⟨rfl, ?_⟩⟩
              have nxq : xo ≠ qf := ne_of_none upd_same nqf
              have sB := same_upd2 (o := HO.ins L dx (fP qf)) (same_upd2 (o := HO.lst ((zs (wk n i2)).map V.int)) sA (sA.free nqf)) nx
              refine ⟨xo, dx, _, rfl, upd_same, no_shows qf, tx (zk n), rfl, xo, dx, qf, zs (wk n i2), zk n, rfl, by omega, upd_same, SqL.of (by rw [upd_ne nxq.symm]; exact upd_same), fun H7 s7 => ⟨_, _, rfl, rfl, _, rfl, ifF (by rw [la]; rfl) ?_⟩⟩
              have s67 := sB.trans s7
              clear sA sB nqf nxq
              have hw7 := s67 _ _ hw6
              refine ⟨.ref ww, rfl, 1, rfl, ww, _, rfl, SqL.of hw7, fun cc ncc => fun xo2 dx2 nx2 ndx2 nex2 => ?_⟩
              have sC := same_upd (o := HO.lst (cutV ((wk n i2).map nV) (some 1) none)) ncc
              have sA2 := (same_upd (o := HO.own xo2) ndx2).trans (same_upd (o := HO.ins L dx2 []) (by rw [upd_ne nex2.symm]; exact nx2))
              refine ⟨xo2, dx2, cc, (zs ((wk n i2).drop 1)).map V.int, rfl, upd_same, SqL.of (by rw [← nV_ints, ← ld]; exact sA2 _ _ upd_same), fun qf nqf => ⟨rfl, ?_⟩⟩
              have nxq : xo2 ≠ qf := ne_of_none upd_same nqf
              have sB2 := same_upd2 (o := HO.ins L dx2 (fP qf)) (same_upd2 (o := HO.lst ((zs ((wk n i2).drop 1)).map V.int)) sA2 (sA2.free nqf)) nx2
              refine ⟨xo2, dx2, _, rfl, upd_same, no_shows qf, tx (zk n), rfl, xo2, dx2, qf, zs ((wk n i2).drop 1), zk n, rfl, by omega, upd_same, SqL.of (by rw [upd_ne nxq.symm]; exact upd_same), fun H8 s8 => ⟨_, rfl, ifF lb ⟨_, rfl, s6.trans (s67.trans (sC.trans (sB2.trans s8)))⟩⟩⟩
            rintro _ H7 ⟨y3, rfl, s7⟩
            have hw7 := s7 _ _ hww
            refine ⟨.ref ww, rfl, .ref ww, rfl, 1, rfl, -1, rfl, ww, _, rfl, SqL.of hw7, fun cc ncc => ⟨ww, cc, _, _, rfl, rfl, by rw [upd_ne (ne_of_none hw7 ncc)]; exact hw7, upd_same, ?_, fun cd ncd => fun xo2 dx2 nx2 ndx2 nex2 => ?_⟩⟩
            · rw [le, List.length_map, List.length_map]
              exact small (by rw [List.length_drop]; omega)
            have sC := (same_upd (o := HO.lst (cutV ((wk n i2).map nV) (some (-1)) none)) ncc).trans (same_upd (o := HO.lst ((wk n i2).map nV ++ cutV ((wk n i2).map nV) (some (-1)) none)) ncd)
            have sA2 := (same_upd (o := HO.own xo2) ndx2).trans (same_upd (o := HO.ins L dx2 []) (by rw [upd_ne nex2.symm]; exact nx2))
            refine ⟨xo2, dx2, cd, (zs (wk n i2 ++ (wk n i2).drop ((wk n i2).length - 1))).map V.int, rfl, upd_same, SqL.of (by rw [← nV_ints, List.map_append, ← le]; exact sA2 _ _ upd_same), fun qf nqf => ⟨rfl, ?_⟩⟩
            have nxq : xo2 ≠ qf := ne_of_none upd_same nqf
            have sB2 := same_upd2 (o := HO.ins L dx2 (fP qf)) (same_upd2 (o := HO.lst ((zs (wk n i2 ++ (wk n i2).drop ((wk n i2).length - 1))).map V.int)) sA2 (sA2.free nqf)) nx2
            exact ⟨xo2, dx2, _, rfl, upd_same, no_shows qf, tx (zk n), rfl, xo2, dx2, qf, zs (wk n i2 ++ (wk n i2).drop ((wk n i2).length - 1)), zk n, rfl, by omega, upd_same, SqL.of (by rw [upd_ne nxq.symm]; exact upd_same), fun H8 s8 => ⟨_, rfl, ifF lc ⟨_, _, rfl, s7.trans (sC.trans (sB2.trans s8))⟩⟩⟩
          · rintro σ H6 ⟨y3, y5, rfl, s6⟩
            exact ⟨_, _, _, rfl, s6⟩
        rintro _ H6 ⟨y3, y4, y5, rfl, s6⟩
        -- the third way is refused
        have s36 := s4.trans s6
        have t6 := same_tab t3 s36
        refine ⟨tx (zk n), rfl, t6, fun f1 c1 H7 b7 t7 _ l1 q1 => fun cc o u hc hn hd hu => ?_⟩
        have e := same_upd (o := PinO cc o) hn
        refine ⟨f1, .int 2, 3, C3, rfl, ref_cap (e _ _ l1) (e _ _ q1) upd_same (cl_one hc) hd hu (lkC n11 (fun H => .inr ⟨rfl, zk n, rfl, kp, .inr ⟨2, rfl, .inr (by rw [kw]; decide)⟩⟩) (nscope_by (by dsimp only [lamF]; decide +kernel)) (fun _ _ us hl => match us, hl with | [_], _ => rfl) rfl (.inl rfl) (.inr (.inr rfl)) rfl rfl rfl rfl rfl (fun _ => rfl) (fun _ => rfl) (fun _ => rfl)) (by decide), k3, fun H8 s8 => ⟨s8 _ _ upd_same, ?_⟩⟩
        have b8 : Bt Pt H7 (era H8 cc) := fun b ob nb z => by
          rw [era_ne (ne_of_none z hn)]
          exact s8 _ _ (e _ _ z)
        have t8 : TabS (era H8 cc) Pt "_law_known_right.<locals>.<lambda>" := t7.ext fun b ob z => by
          rw [era_ne (ne_of_none z hn)]
          exact s8 _ _ (e _ _ z)
        exact ⟨_, rfl, ifF rfl ⟨_, _, _, _, _, _, rfl, b3.trans ((Bt.of s36).trans (b7.trans b8)), t8⟩⟩
      · rintro σ H3 ⟨y0, y1, y2, y3, y4, y5, rfl, b3, t3⟩
        exact ⟨_, _, _, _, _, _, rfl, (Bt.of s2).trans b3, t3⟩
    rintro _ H1 ⟨y0, y1, y2, y3, y4, y5, rfl, b1, t1⟩
    -- known on paper
    refine ⟨fun σ' H' => ∃ y0 y1 y2 y3 y4 y5 : Option V, σ' = [y0, y1, y2, y3, y4, y5] ∧ Bt Pt H H' ∧ TabS H' Pt "_law_known_right.<locals>.<lambda>", ?_, ?_⟩
    · refine ⟨([true], [false]), 0, [0, 2, 1], by decide +kernel, by decide, by decide +kernel, fun H2 w0 s2 _ h0 => ⟨([true], [false]), 1, [2, 0, 1], by decide +kernel, by decide, by decide +kernel, fun H3 w1 s3 _ h1 => ⟨(by show 2 ≤ sizeLine; decide), fun l nl => ⟨(by show 3 ≤ sizeLine; decide), fun e1 ne1 => ⟨(by show 3 ≤ sizeLine; decide), fun e2 ne2 => ⟨(by show 2 ≤ sizeLine; decide), fun e3 ne3 => ?_⟩⟩⟩⟩⟩⟩
      have j0 := same_upd (o := HO.lst [V.ref w0, V.ref w1]) nl
      have j1 := same_upd (o := HO.lst [V.int 0, V.int 2, V.int 1]) ne1
      have j2 := same_upd (o := HO.lst [V.int 2, V.int 0, V.int 1]) ne2
      have j3 := same_upd (o := HO.lst [V.ref e1, V.ref e2]) ne3
      have ja := j1.trans (j2.trans j3)
      have lle : LL _ e3 [[0, 2, 1], [2, 0, 1]] := ⟨[e1, e2], upd_same (o := HO.lst [V.ref e1, V.ref e2]), .cons ((j2.trans j3) _ _ upd_same) (.cons (j3 _ _ upd_same) .nil)⟩
      have llr : LL _ l [[0, 2, 1], [2, 0, 1]] := ⟨[w0, w1], ja _ _ upd_same, .cons ((s3.trans (j0.trans ja)) _ _ h0) (.cons ((j0.trans ja) _ _ h1) .nil)⟩
      refine ⟨dLL [[0, 2, 1], [2, 0, 1]], dLL [[0, 2, 1], [2, 0, 1]], dp_LL llr, dp_LL lle, shaped_LL _, shaped_LL _, _, rfl, ifF (by rw [eqvLL]; rfl) ?_⟩
      have r1 := s2.trans (s3.trans (j0.trans ja))
      refine ⟨([true], [false]), by decide +kernel, by decide, fun H4 s4 => ⟨rfl, _, rfl, ifF (by decide +kernel) ?_⟩⟩
      refine ⟨([true], [false]), by decide +kernel, by decide, fun H5 ps ws s5 nps stk hps hwl => ?_⟩
      obtain rfl := stk.none (by decide +kernel)
      refine ⟨Nat.zero_le _, fun e ne => ⟨dT [], dT [], dp_T ((same_upd ne) _ _ hps), dp_T upd_same, shaped_T _, shaped_T _, _, rfl, ifF (by rw [eqv_T, decide_eq_true rfl]; rfl) ?_⟩⟩
      have r2 := r1.trans (s4.trans (s5.trans (same_upd (o := HO.lst []) ne)))
      exact ⟨_, _, _, _, _, _, rfl, b1.trans (Bt.of r2), same_tab t1 r2⟩
    clear b1 t1
    rintro _ H1 ⟨y0, y1, y2, y3, y4, y5, rfl, b1, t1⟩
    refine ⟨fun σ' H' => ∃ y0 y1 y2 y3 y4 y5 : Option V, σ' = [y0, y1, y2, y3, y4, y5] ∧ Bt Pt H H' ∧ TabS H' Pt "_law_known_right.<locals>.<lambda>", ?_, ?_⟩
    · refine ⟨([true, true], []), by decide +kernel, by decide, fun H2 p2 dx2 qa2 wy hw s2 _ _ _ hp2 hq2 => ?_, fun h0 => absurd h0 (by decide +kernel)⟩
      obtain rfl := wayIs hw (w' := [1, 0]) (by decide +kernel)
      refine ⟨p2, L, dx2, _, _, rfl, hp2, Y.iL.cl, Y.noP, rfl, (by show 2 ≤ sizeLine; decide), fun e ne => ⟨dI (zs [1, 0]), dI (zs [1, 0]), dp_nats ((same_upd ne) _ _ hq2), dp_nats upd_same, shaped_ints _, shaped_ints _, _, rfl, ifF (by rw [eqv_nats, decide_eq_true rfl]; rfl) ?_⟩⟩
      have r1 := s2.trans (same_upd (o := HO.lst [V.int 1, V.int 0]) ne)
      refine ⟨([true, true], []), by decide +kernel, by decide, fun H3 s3 => ⟨rfl, _, rfl, ifF (by decide +kernel) ?_⟩⟩
      refine ⟨([true, true], []), by decide +kernel, by decide, fun H4 s4 => ⟨rfl, _, rfl, ifF (by decide +kernel) ?_⟩⟩
      refine ⟨([], []), by decide +kernel, by decide, fun H5 p5 dx5 qa5 wy hw s5 _ _ _ hp5 hq5 => ?_, fun h0 => absurd h0 (by decide +kernel)⟩
      obtain rfl := wayIs hw (w' := []) (by decide +kernel)
      refine ⟨p5, L, dx5, _, _, rfl, hp5, Y.iL.cl, Y.noP, rfl, Nat.zero_le _, fun e2 ne2 => ⟨dI (zs []), dI (zs []), dp_nats ((same_upd ne2) _ _ hq5), dp_nats upd_same, shaped_ints _, shaped_ints _, _, rfl, ifF (by rw [eqv_nats, decide_eq_true rfl]; rfl) ?_⟩⟩
      refine ⟨([], []), by decide +kernel, by decide, fun H6 s6 => ⟨rfl, _, rfl, ifF (by decide +kernel) ?_⟩⟩
      have r2 := r1.trans (s3.trans (s4.trans (s5.trans ((same_upd (o := HO.lst []) ne2).trans s6))))
      exact ⟨_, _, _, _, _, _, rfl, b1.trans (Bt.of r2), same_tab t1 r2⟩
    clear b1 t1
    rintro _ H1 ⟨y0, y1, y2, y3, y4, y5, rfl, b1, t1⟩
    refine ⟨fun σ' H' => ∃ y0 y1 y2 y3 y4 y5 : Option V, σ' = [y0, y1, y2, y3, y4, y5] ∧ Bt Pt H H' ∧ TabS H' Pt "_law_known_right.<locals>.<lambda>", ?_, ?_⟩
    · refine ⟨([], []), 0, [], by decide +kernel, by decide, by decide +kernel, fun H2 w0 s2 _ h0 => ⟨Nat.zero_le _, fun e ne => ⟨dI (zs []), dI (zs []), dp_nats ((same_upd ne) _ _ h0), dp_nats upd_same, shaped_ints _, shaped_ints _, _, rfl, ifF (by rw [eqv_nats, decide_eq_true rfl]; rfl) ?_⟩⟩⟩
      have r1 := s2.trans (same_upd (o := HO.lst []) ne)
      refine ⟨([], []), by decide +kernel, by decide, fun H3 s3 => ⟨rfl, _, rfl, ifF (by decide +kernel) ?_⟩⟩
      clear ne
      refine ⟨([], []), by decide +kernel, by decide, fun H4 ps ws s4 nps stk hps hwl => ?_⟩
      obtain rfl := stk.none (by decide +kernel)
      refine ⟨Nat.zero_le _, fun e ne => ⟨dT [], dT [], dp_T ((same_upd ne) _ _ hps), dp_T upd_same, shaped_T _, shaped_T _, _, rfl, ifF (by rw [eqv_T, decide_eq_true rfl]; rfl) ?_⟩⟩
      refine ⟨([], []), by decide +kernel, by decide, fun H5 pm s5 npm hpm => ⟨Nat.zero_le _, fun e2 ne2 => ⟨dI (zs []), dI (zs []), dp_nats ((same_upd ne2) _ _ hpm), dp_nats upd_same, shaped_ints _, shaped_ints _, _, rfl, ifF (by rw [eqv_nats, decide_eq_true rfl]; rfl) ?_⟩⟩⟩
      have r2 := r1.trans (s3.trans (s4.trans ((same_upd (o := HO.lst []) ne).trans (s5.trans (same_upd (o := HO.lst []) ne2)))))
      exact ⟨_, _, _, _, _, _, rfl, b1.trans (Bt.of r2), same_tab t1 r2⟩
    clear b1 t1
    rintro _ H1 ⟨y0, y1, y2, y3, y4, y5, rfl, b1, t1⟩
    refine ⟨fun σ' H' => ∃ y0 y1 y2 y3 y4 y5 : Option V, σ' = [y0, y1, y2, y3, y4, y5] ∧ Bt Pt H H' ∧ TabS H' Pt "_law_known_right.<locals>.<lambda>", ?_, ?_⟩
    · refine ⟨([false, false, true, true], []), by decide +kernel, by decide, fun H2 p2 dx2 qa2 wy hw => absurd (show ways ([false, false, true, true], []) = 0 by decide +kernel) (fun h => wayNot hw h), fun h0 H2 p2 dx2 s2 _ hp2 => ?_⟩
      refine ⟨.ref p2, .ref N, .ref N, .ref N, true, rfl, .own N, InsC.ty Y.iN hp2, Y.iN.me, true, rfl, ifF rfl ?_⟩
      refine ⟨([false, false, true, true], []), by decide +kernel, by decide, fun H3 s3 => ⟨rfl, _, rfl, ifF (by decide +kernel) ?_⟩⟩
      refine ⟨([false, false, true, true], []), by decide +kernel, by decide, fun H4 s4 => ⟨rfl, _, rfl, ifF (by decide +kernel) ?_⟩⟩
      have r2 := s2.trans (s3.trans s4)
      exact ⟨_, _, _, _, _, _, rfl, b1.trans (Bt.of r2), same_tab t1 r2⟩
    clear b1 t1
    rintro _ H1 ⟨y0, y1, y2, y3, y4, y5, rfl, b1, t1⟩
    refine ⟨fun σ' H' => ∃ y0 y1 y2 y3 y4 y5 : Option V, σ' = [y0, y1, y2, y3, y4, y5] ∧ Bt Pt H H' ∧ TabS H' Pt "_law_known_right.<locals>.<lambda>", ?_, ?_⟩
    · refine ⟨([false, false, true, true], []), by decide +kernel, by decide, fun H2 ps ws s2 nps stk hps hwl => ?_⟩
      obtain rfl := stk.one (y := ([false, false, true, true], [])) (by decide +kernel)
      refine ⟨(by show 1 ≤ sizeLine; decide), fun e ne => ⟨dT [([false, false, true, true], [])], dT [([false, false, true, true], [])], dp_T ((same_upd ne) _ _ hps), dp_T (by rw [upd_same]; exact congrArg (fun l => some (HO.lst l)) (by decide +kernel)), shaped_T _, shaped_T _, _, rfl, ifF (by rw [eqv_T, decide_eq_true rfl]; rfl) ?_⟩⟩
      have r2 := s2.trans (same_upd (o := HO.lst [V.str (Str.ofString "aabb.")]) ne)
      exact ⟨_, _, _, _, _, _, rfl, b1.trans (Bt.of r2), same_tab t1 r2⟩
    clear b1 t1
    rintro _ H1 ⟨y0, y1, y2, y3, y4, y5, rfl, b1, t1⟩
    refine ⟨([false, false, true, true], []), by decide +kernel, by decide, fun H2 s2 => ⟨rfl, true, by decide +kernel, iteT ?_⟩⟩
    refine ⟨same_tab t1 s2, fun f1 c1 H3 b3 t3 _ l1 q1 => ⟨f1, .int 0, 3, C3, rfl, refs1 (ask_lam l1 q1 (lkB n11 (fun _ => pe_str) (nscope_by (by dsimp only [lamF]; decide +kernel)) rfl (fun _ _ us hl => match us, hl with | [_], _ => rfl) rfl (.inl rfl) rfl rfl rfl (fun _ => rfl) (fun _ => rfl) (fun _ => rfl)) (by decide)) (.inr ⟨rfl, ([false, false, true, true], []), by decide +kernel, by decide, .inr ⟨0, rfl, .inr (by decide +kernel)⟩⟩), k3, fun H4 s4 => q _ (b1.trans ((Bt.of s2).trans (b3.trans (Bt.of s4))))⟩⟩
end
end PP

/-! ### the law k09 -/
namespace PP
open PySem PySem.Spec PyProof.Rows L2 SX PR PL LamX NdefX
theorem pe_c00 {X : Cx} {k j : Nat} {x : Str} {sp : Sp} {p pos : Pos} (c : Cal X.prog X.w X.K X.mg X.base k x sp) (hr : Room j X.A) (hk : k ≤ j) (hg : Gl X x) (hdb : (x == ("__debug__" : Str)) = false := by decide) : PE X (.Call (.Name x p) [] [] pos) (tCall sp [] L2.E0 tNil) := by
  obtain ⟨f, fd, ps, F, hm, kp, b⟩ := c.ex
  exact pe_call0 F (hr.mono hk) hg hm kp b .nil L2.pass0 hdb
section
variable {P : Program} {w : World} {K : PySem.W.Frag} {mg : Str → Option Value} {base : Heap}
def spLawT (K : PySem.W.Frag) (t1 t2 : Addr) : Sp := fun vs H Q _ => ∃ (a : Addr) (ns : List Int), vs = [.ref a] ∧ SqL K H a (ns.map V.int) ∧ ns.length ≤ 63 ∧ (∀ z ∈ ns, Builtin.Int.intBits z ≤ 1048576) ∧ H t1 = some (.tbl #[]) ∧ H t2 = some (.tbl #[]) ∧ ∀ H', Q (.bl true) H'
abbrev nmLaw : List Str := ["_law_script", "_law_whole"]
theorem sc_law : FnScope nmLaw ["_law_script"] (defScope s_law) := ⟨rfl, rfl, rfl, by decide +kernel, rfl, by decide +kernel, by decide +kernel⟩
theorem ok_law {f t1 t2 : Addr} {fd : FuncData} (F : L2.Fun K "law" "law" s_law f fd) (T : Bl mg) (ck : Cal P w K mg base 30 "_law_known_right" (spOkT t1)) (c6 : Cal P w K mg base 3 "_law_sixty_right" spSixty) (cb : Cal P w K mg base 30 "_law_bad_right" (spOkT t2)) (ne : t1 ≠ t2) :
    FnOk P w K mg base L2.CX0 31 f fd ["_law_script"] (spLawT K t1 t2) := by
  refine F.ok sc_law (fun vs H Q E h => ?_) (fun cdv Ar outer s H vs Q E hr h => ?_)
  · obtain ⟨a, ns, rfl, _⟩ := h
    rfl
  · obtain ⟨a, ns, rfl, hS, hlen, hbits, h1, h2, q⟩ := h
    have nd := sc_law.nd
    refine ⟨_, (C8.pss_cut (ps_set (i := 1) nd rfl (.inl rfl) (pe_callB call_abs (by rfl) T.abs (by decide +kernel) (pa_cons (pe_callB (cr_sum rfl) (by rfl) T.sum (by decide +kernel) (pa_cons (pe_slice sl_list (pv 0) po_none (po_some pe_int)) pa_nil)) pa_nil)))
      (pss_one (ps_ret (pe_and (pe_c00 ck hr (by decide) (by rfl)) (pe_and (pe_c c6 hr (by decide) (by rfl) (pa_cons (pv 1) pa_nil)) (pe_one (pe_c00 cb hr (by decide) (by rfl)))))))), ?_⟩
    refine ⟨fun σ' H' => ∃ W : Int, 0 ≤ W ∧ σ' = [some (.ref a), some (.int W)] ∧ Same H H', ?_, ?_⟩
    · refine ⟨.ref a, rfl, 63, rfl, a, _, rfl, hS, fun c nc => ?_⟩
      refine ⟨c, ns.take 63, rfl, SqL.of ?_, _, rfl, _, ?_, rfl, same_upd nc⟩
      · have e : cutV (ns.map V.int) none (some 63) = (ns.take 63).map V.int := by
          unfold cutV
          rw [HT.sIx_none, show (63 : Int) = ((63 : Nat) : Int) by rfl, HT.sIx_nat, List.drop_zero, Nat.sub_zero, List.length_map, Nat.min_eq_right hlen, List.take_of_length_le (by rw [List.length_map]; exact Nat.le_refl _), List.take_of_length_le hlen]
        rw [upd_same, e]
      · show (0 : Int) ≤ (if (ns.take 63).sum < 0 then -(ns.take 63).sum else (ns.take 63).sum)
        split <;> omega
    rintro _ H1 ⟨W, hW, rfl, s1⟩
    refine ⟨rfl, s1 _ _ h1, fun H2 b2 => ⟨true, rfl, iteT ?_⟩⟩
    refine ⟨.int W, rfl, W, rfl, hW, fun H3 s3 => ⟨true, rfl, iteT ?_⟩⟩
    exact ⟨rfl, s3 _ _ (b2 _ _ (fun e => ne e.symm) (s1 _ _ h2)), fun H4 _ => q _⟩
end
end PP

/-! ### what the top has left; the head -/
namespace PP
open PySem PySem.Spec PyProof.Rows L2 SX PR PL
theorem all_mk {l : PySem.W.OpenLaw} {w : World} {K : PySem.W.Frag} {h : Heap} {mg : Str → Option Value} {fa : Addr} (X : K.In h) (G : h.Ns mainGlobals mg) (hfa : mg "law" = some (.ref fa))
    {f0 : Addr} {od0 an0 : Option Addr} {sl0 : Array (Option Value)} {oc0 kV0 dc0 pm0 cd0 ct0 : Value}
    {f1 : Addr} {od1 an1 : Option Addr} {sl1 : Array (Option Value)} {oc1 kV1 dc1 pm1 cd1 ct1 : Value}
    {f2 : Addr} {od2 an2 : Option Addr} {sl2 : Array (Option Value)} {oc2 kV2 dc2 pm2 cd2 ct2 : Value}
    {f3 : Addr} {od3 an3 : Option Addr} {sl3 : Array (Option Value)} {oc3 kV3 dc3 pm3 cd3 ct3 : Value}
    {f4 : Addr} {od4 an4 : Option Addr} {sl4 : Array (Option Value)} {oc4 kV4 dc4 pm4 cd4 ct4 : Value}
    {f5 : Addr} {od5 an5 : Option Addr} {sl5 : Array (Option Value)} {oc5 kV5 dc5 pm5 cd5 ct5 : Value}
    {f6 : Addr} {od6 an6 : Option Addr} {sl6 : Array (Option Value)} {oc6 kV6 dc6 pm6 cd6 ct6 : Value}
    {f7 : Addr} {od7 an7 : Option Addr} {sl7 : Array (Option Value)} {oc7 kV7 dc7 pm7 cd7 ct7 : Value}
    {f8 : Addr} {od8 an8 : Option Addr} {sl8 : Array (Option Value)} {oc8 kV8 dc8 pm8 cd8 ct8 : Value}
    {f9 : Addr} {od9 an9 : Option Addr} {sl9 : Array (Option Value)} {oc9 kV9 dc9 pm9 cd9 ct9 : Value}
    {f10 : Addr} {od10 an10 : Option Addr} {sl10 : Array (Option Value)} {oc10 kV10 dc10 pm10 cd10 ct10 : Value}
    {f11 : Addr} {od11 an11 : Option Addr} {sl11 : Array (Option Value)} {oc11 kV11 dc11 pm11 cd11 ct11 : Value}
    {f12 : Addr} {od12 an12 : Option Addr} {sl12 : Array (Option Value)} {oc12 kV12 dc12 pm12 cd12 ct12 : Value}
    {f13 : Addr} {od13 an13 : Option Addr} {sl13 : Array (Option Value)} {oc13 kV13 dc13 pm13 cd13 ct13 : Value}
    {f14 : Addr} {od14 an14 : Option Addr} {sl14 : Array (Option Value)} {oc14 kV14 dc14 pm14 cd14 ct14 : Value}
    {f15 : Addr} {od15 an15 : Option Addr} {sl15 : Array (Option Value)} {oc15 kV15 dc15 pm15 cd15 ct15 : Value}
    {f16 : Addr} {od16 an16 : Option Addr} {sl16 : Array (Option Value)} {oc16 kV16 dc16 pm16 cd16 ct16 : Value}
    {f17 : Addr} {od17 an17 : Option Addr} {sl17 : Array (Option Value)} {oc17 kV17 dc17 pm17 cd17 ct17 : Value}
    {f18 : Addr} {od18 an18 : Option Addr} {sl18 : Array (Option Value)} {oc18 kV18 dc18 pm18 cd18 ct18 : Value}
    {f19 : Addr} {od19 an19 : Option Addr} {sl19 : Array (Option Value)} {oc19 kV19 dc19 pm19 cd19 ct19 : Value}
    {f20 : Addr} {od20 an20 : Option Addr} {sl20 : Array (Option Value)} {oc20 kV20 dc20 pm20 cd20 ct20 : Value}
    {f21 cd21 tb21 : Addr} {od21 an21 dd21 : Option Addr} {sl21 so21 : Array (Option Value)} {oc21 kV21 dc21 pm21 ct21 ec21 : Value} {vc21 : Array Value}
    {f22 : Addr} {od22 an22 : Option Addr} {sl22 : Array (Option Value)} {oc22 kV22 dc22 pm22 cd22 ct22 : Value}
    {f23 cd23 tb23 : Addr} {od23 an23 dd23 : Option Addr} {sl23 so23 : Array (Option Value)} {oc23 kV23 dc23 pm23 ct23 ec23 : Value} {vc23 : Array Value}
    {f24 : Addr} {od24 an24 : Option Addr} {sl24 : Array (Option Value)} {oc24 kV24 dc24 pm24 cd24 ct24 : Value}
    {t_MOST : Tok}
    {t_SMALL : Tok}
    {CAnswer : Addr}
    {CLeads : Addr}
    {f_Leads_init : Addr} {od_Leads_init an_Leads_init : Option Addr} {sl_Leads_init : Array (Option Value)} {oc_Leads_init kV_Leads_init dc_Leads_init pm_Leads_init cd_Leads_init ct_Leads_init : Value}
    {f_Leads_shows : Addr} {od_Leads_shows an_Leads_shows : Option Addr} {sl_Leads_shows : Array (Option Value)} {oc_Leads_shows kV_Leads_shows dc_Leads_shows pm_Leads_shows cd_Leads_shows ct_Leads_shows : Value}
    {CNever : Addr}
    {f_Never_shows : Addr} {od_Never_shows an_Never_shows : Option Addr} {sl_Never_shows : Array (Option Value)} {oc_Never_shows kV_Never_shows dc_Never_shows pm_Never_shows cd_Never_shows ct_Never_shows : Value}
    {EPadError : Addr}
    {EBadStanding : Addr}
    {EBadPad : Addr}
    {EBadCount : Addr}
    {EBadNumber : Addr}
    {ETooMany : Addr}
    (a0 : PySem.W.nsIn K mainGlobals "is_whole" = some (some (.ref f0))) (l0 : K.lookup f0 = some ⟨oc0, od0, .func (PySem.W.fnOf "is_whole" "is_whole" (defArgs s_is_whole) (defBody s_is_whole) (defScope s_is_whole) .none kV0 dc0 pm0 an0 cd0 ct0), sl0⟩) (c0 : PySem.W.codeIn K cd0 "is_whole" = true) (k0 : PySem.W.keepIn K (.ref f0) = true)
    (a1 : PySem.W.nsIn K mainGlobals "asked_standing" = some (some (.ref f1))) (l1 : K.lookup f1 = some ⟨oc1, od1, .func (PySem.W.fnOf "asked_standing" "asked_standing" (defArgs s_asked_standing) (defBody s_asked_standing) (defScope s_asked_standing) .none kV1 dc1 pm1 an1 cd1 ct1), sl1⟩) (c1 : PySem.W.codeIn K cd1 "asked_standing" = true) (k1 : PySem.W.keepIn K (.ref f1) = true)
    (a2 : PySem.W.nsIn K mainGlobals "asked_small" = some (some (.ref f2))) (l2 : K.lookup f2 = some ⟨oc2, od2, .func (PySem.W.fnOf "asked_small" "asked_small" (defArgs s_asked_small) (defBody s_asked_small) (defScope s_asked_small) .none kV2 dc2 pm2 an2 cd2 ct2), sl2⟩) (c2 : PySem.W.codeIn K cd2 "asked_small" = true) (k2 : PySem.W.keepIn K (.ref f2) = true)
    (a3 : PySem.W.nsIn K mainGlobals "movers" = some (some (.ref f3))) (l3 : K.lookup f3 = some ⟨oc3, od3, .func (PySem.W.fnOf "movers" "movers" (defArgs s_movers) (defBody s_movers) (defScope s_movers) .none kV3 dc3 pm3 an3 cd3 ct3), sl3⟩) (c3 : PySem.W.codeIn K cd3 "movers" = true) (k3 : PySem.W.keepIn K (.ref f3) = true)
    (a4 : PySem.W.nsIn K mainGlobals "moves" = some (some (.ref f4))) (l4 : K.lookup f4 = some ⟨oc4, od4, .func (PySem.W.fnOf "moves" "moves" (defArgs s_moves) (defBody s_moves) (defScope s_moves) .none kV4 dc4 pm4 an4 cd4 ct4), sl4⟩) (c4 : PySem.W.codeIn K cd4 "moves" = true) (k4 : PySem.W.keepIn K (.ref f4) = true)
    (a5 : PySem.W.nsIn K mainGlobals "behind" = some (some (.ref f5))) (l5 : K.lookup f5 = some ⟨oc5, od5, .func (PySem.W.fnOf "behind" "behind" (defArgs s_behind) (defBody s_behind) (defScope s_behind) .none kV5 dc5 pm5 an5 cd5 ct5), sl5⟩) (c5 : PySem.W.codeIn K cd5 "behind" = true) (k5 : PySem.W.keepIn K (.ref f5) = true)
    (a6 : PySem.W.nsIn K mainGlobals "moved" = some (some (.ref f6))) (l6 : K.lookup f6 = some ⟨oc6, od6, .func (PySem.W.fnOf "moved" "moved" (defArgs s_moved) (defBody s_moved) (defScope s_moved) .none kV6 dc6 pm6 an6 cd6 ct6), sl6⟩) (c6 : PySem.W.codeIn K cd6 "moved" = true) (k6 : PySem.W.keepIn K (.ref f6) = true)
    (a7 : PySem.W.nsIn K mainGlobals "goal_of" = some (some (.ref f7))) (l7 : K.lookup f7 = some ⟨oc7, od7, .func (PySem.W.fnOf "goal_of" "goal_of" (defArgs s_goal_of) (defBody s_goal_of) (defScope s_goal_of) .none kV7 dc7 pm7 an7 cd7 ct7), sl7⟩) (c7 : PySem.W.codeIn K cd7 "goal_of" = true) (k7 : PySem.W.keepIn K (.ref f7) = true)
    (a8 : PySem.W.nsIn K mainGlobals "goal" = some (some (.ref f8))) (l8 : K.lookup f8 = some ⟨oc8, od8, .func (PySem.W.fnOf "goal" "goal" (defArgs s_goal) (defBody s_goal) (defScope s_goal) .none kV8 dc8 pm8 an8 cd8 ct8), sl8⟩) (c8 : PySem.W.codeIn K cd8 "goal" = true) (k8 : PySem.W.keepIn K (.ref f8) = true)
    (a9 : PySem.W.nsIn K mainGlobals "moves_left" = some (some (.ref f9))) (l9 : K.lookup f9 = some ⟨oc9, od9, .func (PySem.W.fnOf "moves_left" "moves_left" (defArgs s_moves_left) (defBody s_moves_left) (defScope s_moves_left) .none kV9 dc9 pm9 an9 cd9 ct9), sl9⟩) (c9 : PySem.W.codeIn K cd9 "moves_left" = true) (k9 : PySem.W.keepIn K (.ref f9) = true)
    (a10 : PySem.W.nsIn K mainGlobals "exchange" = some (some (.ref f10))) (l10 : K.lookup f10 = some ⟨oc10, od10, .func (PySem.W.fnOf "exchange" "exchange" (defArgs s_exchange) (defBody s_exchange) (defScope s_exchange) .none kV10 dc10 pm10 an10 cd10 ct10), sl10⟩) (c10 : PySem.W.codeIn K cd10 "exchange" = true) (k10 : PySem.W.keepIn K (.ref f10) = true)
    (a11 : PySem.W.nsIn K mainGlobals "mirrored" = some (some (.ref f11))) (l11 : K.lookup f11 = some ⟨oc11, od11, .func (PySem.W.fnOf "mirrored" "mirrored" (defArgs s_mirrored) (defBody s_mirrored) (defScope s_mirrored) .none kV11 dc11 pm11 an11 cd11 ct11), sl11⟩) (c11 : PySem.W.codeIn K cd11 "mirrored" = true) (k11 : PySem.W.keepIn K (.ref f11) = true)
    (a12 : PySem.W.nsIn K mainGlobals "ways_of" = some (some (.ref f12))) (l12 : K.lookup f12 = some ⟨oc12, od12, .func (PySem.W.fnOf "ways_of" "ways_of" (defArgs s_ways_of) (defBody s_ways_of) (defScope s_ways_of) .none kV12 dc12 pm12 an12 cd12 ct12), sl12⟩) (c12 : PySem.W.codeIn K cd12 "ways_of" = true) (k12 : PySem.W.keepIn K (.ref f12) = true)
    (a13 : PySem.W.nsIn K mainGlobals "ways" = some (some (.ref f13))) (l13 : K.lookup f13 = some ⟨oc13, od13, .func (PySem.W.fnOf "ways" "ways" (defArgs s_ways) (defBody s_ways) (defScope s_ways) .none kV13 dc13 pm13 an13 cd13 ct13), sl13⟩) (c13 : PySem.W.codeIn K cd13 "ways" = true) (k13 : PySem.W.keepIn K (.ref f13) = true)
    (a14 : PySem.W.nsIn K mainGlobals "way_of" = some (some (.ref f14))) (l14 : K.lookup f14 = some ⟨oc14, od14, .func (PySem.W.fnOf "way_of" "way_of" (defArgs s_way_of) (defBody s_way_of) (defScope s_way_of) .none kV14 dc14 pm14 an14 cd14 ct14), sl14⟩) (c14 : PySem.W.codeIn K cd14 "way_of" = true) (k14 : PySem.W.keepIn K (.ref f14) = true)
    (a15 : PySem.W.nsIn K mainGlobals "way_by" = some (some (.ref f15))) (l15 : K.lookup f15 = some ⟨oc15, od15, .func (PySem.W.fnOf "way_by" "way_by" (defArgs s_way_by) (defBody s_way_by) (defScope s_way_by) .none kV15 dc15 pm15 an15 cd15 ct15), sl15⟩) (c15 : PySem.W.codeIn K cd15 "way_by" = true) (k15 : PySem.W.keepIn K (.ref f15) = true)
    (a16 : PySem.W.nsIn K mainGlobals "led" = some (some (.ref f16))) (l16 : K.lookup f16 = some ⟨oc16, od16, .func (PySem.W.fnOf "led" "led" (defArgs s_led) (defBody s_led) (defScope s_led) .none kV16 dc16 pm16 an16 cd16 ct16), sl16⟩) (c16 : PySem.W.codeIn K cd16 "led" = true) (k16 : PySem.W.keepIn K (.ref f16) = true)
    (a17 : PySem.W.nsIn K mainGlobals "come_by_all" = some (some (.ref f17))) (l17 : K.lookup f17 = some ⟨oc17, od17, .func (PySem.W.fnOf "come_by_all" "come_by_all" (defArgs s_come_by_all) (defBody s_come_by_all) (defScope s_come_by_all) .none kV17 dc17 pm17 an17 cd17 ct17), sl17⟩) (c17 : PySem.W.codeIn K cd17 "come_by_all" = true) (k17 : PySem.W.keepIn K (.ref f17) = true)
    (a18 : PySem.W.nsIn K mainGlobals "come_by" = some (some (.ref f18))) (l18 : K.lookup f18 = some ⟨oc18, od18, .func (PySem.W.fnOf "come_by" "come_by" (defArgs s_come_by) (defBody s_come_by) (defScope s_come_by) .none kV18 dc18 pm18 an18 cd18 ct18), sl18⟩) (c18 : PySem.W.codeIn K cd18 "come_by" = true) (k18 : PySem.W.keepIn K (.ref f18) = true)
    (a19 : PySem.W.nsIn K mainGlobals "stuck" = some (some (.ref f19))) (l19 : K.lookup f19 = some ⟨oc19, od19, .func (PySem.W.fnOf "stuck" "stuck" (defArgs s_stuck) (defBody s_stuck) (defScope s_stuck) .none kV19 dc19 pm19 an19 cd19 ct19), sl19⟩) (c19 : PySem.W.codeIn K cd19 "stuck" = true) (k19 : PySem.W.keepIn K (.ref f19) = true)
    (a20 : PySem.W.nsIn K mainGlobals "_law_refused" = some (some (.ref f20))) (l20 : K.lookup f20 = some ⟨oc20, od20, .func (PySem.W.fnOf "_law_refused" "_law_refused" (defArgs s__law_refused) (defBody s__law_refused) (defScope s__law_refused) .none kV20 dc20 pm20 an20 cd20 ct20), sl20⟩) (c20 : PySem.W.codeIn K cd20 "_law_refused" = true) (k20 : PySem.W.keepIn K (.ref f20) = true)
    (a21 : PySem.W.nsIn K mainGlobals "_law_known_right" = some (some (.ref f21))) (l21 : K.lookup f21 = some ⟨oc21, od21, .func (PySem.W.fnOf "_law_known_right" "_law_known_right" (defArgs s__law_known_right) (defBody s__law_known_right) (defScope s__law_known_right) .none kV21 dc21 pm21 an21 (.ref cd21) ct21), sl21⟩) (c21 : PySem.W.codeIn K (.ref cd21) "_law_known_right" = true) (k21 : PySem.W.keepIn K (.ref f21) = true)
    (x21 : K.lookup cd21 = some ⟨ec21, dd21, .fields vc21, so21⟩) (y21 : vc21[11]? = some (.ref tb21)) (w21 : K.lookup tb21 = none) (v21 : PySem.W.codeHdIn K cd21 tb21 = true)
    (u21 : h.get? tb21 = some { cls := .none, data := .fields #[] })
    (a22 : PySem.W.nsIn K mainGlobals "_law_sixty_right" = some (some (.ref f22))) (l22 : K.lookup f22 = some ⟨oc22, od22, .func (PySem.W.fnOf "_law_sixty_right" "_law_sixty_right" (defArgs s__law_sixty_right) (defBody s__law_sixty_right) (defScope s__law_sixty_right) .none kV22 dc22 pm22 an22 cd22 ct22), sl22⟩) (c22 : PySem.W.codeIn K cd22 "_law_sixty_right" = true) (k22 : PySem.W.keepIn K (.ref f22) = true)
    (a23 : PySem.W.nsIn K mainGlobals "_law_bad_right" = some (some (.ref f23))) (l23 : K.lookup f23 = some ⟨oc23, od23, .func (PySem.W.fnOf "_law_bad_right" "_law_bad_right" (defArgs s__law_bad_right) (defBody s__law_bad_right) (defScope s__law_bad_right) .none kV23 dc23 pm23 an23 (.ref cd23) ct23), sl23⟩) (c23 : PySem.W.codeIn K (.ref cd23) "_law_bad_right" = true) (k23 : PySem.W.keepIn K (.ref f23) = true)
    (x23 : K.lookup cd23 = some ⟨ec23, dd23, .fields vc23, so23⟩) (y23 : vc23[11]? = some (.ref tb23)) (w23 : K.lookup tb23 = none) (v23 : PySem.W.codeHdIn K cd23 tb23 = true)
    (u23 : h.get? tb23 = some { cls := .none, data := .fields #[] })
    (a24 : PySem.W.nsIn K mainGlobals "law" = some (some (.ref f24))) (l24 : K.lookup f24 = some ⟨oc24, od24, .func (PySem.W.fnOf "law" "law" (defArgs s_law) (defBody s_law) (defScope s_law) .none kV24 dc24 pm24 an24 cd24 ct24), sl24⟩) (c24 : PySem.W.codeIn K cd24 "law" = true) (k24 : PySem.W.keepIn K (.ref f24) = true)
    (m_MOST : PySem.W.nsIn K mainGlobals "MOST" = some (some (.int 60 t_MOST)))
    (m_SMALL : PySem.W.nsIn K mainGlobals "SMALL" = some (some (.int 9 t_SMALL)))
    (z_isinstance : PySem.W.nsIn K mainGlobals "isinstance" = some none)
    (z_int : PySem.W.nsIn K mainGlobals "int" = some none)
    (z_bool : PySem.W.nsIn K mainGlobals "bool" = some none)
    (z_str : PySem.W.nsIn K mainGlobals "str" = some none)
    (z_len : PySem.W.nsIn K mainGlobals "len" = some none)
    (z_all : PySem.W.nsIn K mainGlobals "all" = some none)
    (z_any : PySem.W.nsIn K mainGlobals "any" = some none)
    (z_list : PySem.W.nsIn K mainGlobals "list" = some none)
    (z_range : PySem.W.nsIn K mainGlobals "range" = some none)
    (z_enumerate : PySem.W.nsIn K mainGlobals "enumerate" = some none)
    (z_sum : PySem.W.nsIn K mainGlobals "sum" = some none)
    (z_abs : PySem.W.nsIn K mainGlobals "abs" = some none)
    (z_sorted : PySem.W.nsIn K mainGlobals "sorted" = some none)
    (z_tuple : PySem.W.nsIn K mainGlobals "tuple" = some none)
    (z_ValueError : PySem.W.nsIn K mainGlobals "ValueError" = some none)
    (g_Answer : PySem.W.nsIn K mainGlobals "Answer" = some (some (.ref CAnswer)))
    (t_Answer : PySem.W.typeIn K (.ref CAnswer) = some (.type "type"))
    (q6Answer : PySem.W.mroIn K CAnswer (.type "object") = some true)
    (q7Answer : PySem.W.subIn K (.ref CAnswer) (.ref CAnswer) = some true)
    (g_Leads : PySem.W.nsIn K mainGlobals "Leads" = some (some (.ref CLeads)))
    (t_Leads : PySem.W.typeIn K (.ref CLeads) = some (.type "type"))
    (q6Leads : PySem.W.mroIn K CLeads (.type "object") = some true)
    (q7Leads : PySem.W.subIn K (.ref CLeads) (.ref CLeads) = some true)
    (q1Leads : PySem.W.plainGet K CLeads Str.empty = true)
    (q2Leads : PySem.W.hasDictIn K CLeads = true)
    (q3Leads : PySem.W.plainOver K CLeads = true)
    (q4Leads : PySem.W.findIn K (.ref CLeads) "__setattr__" = some (some (.builtin "object.__setattr__")))
    (q5Leads : PySem.W.findIn K (.ref CLeads) "__class__" = some (some (.builtin "object.__class__")))
    (q8Leads : PySem.W.makesIn K CLeads = true)
    (q9Leads : PySem.W.keepIn K (.ref CLeads) = true)
    (qALeads : PySem.W.subIn K (.ref CLeads) (.ref CAnswer) = some true)
    (a_Leads_init : PySem.W.findIn K (.ref CLeads) "__init__" = some (some (.ref f_Leads_init)))
    (i_Leads_init : PySem.W.isFn K (.ref f_Leads_init) = true)
    (l_Leads_init : K.lookup f_Leads_init = some ⟨oc_Leads_init, od_Leads_init, .func (PySem.W.fnOf "__init__" "Leads.__init__" (defArgs s_Leads_init) (defBody s_Leads_init) (defScope s_Leads_init) .none kV_Leads_init dc_Leads_init pm_Leads_init an_Leads_init cd_Leads_init ct_Leads_init), sl_Leads_init⟩)
    (c_Leads_init : PySem.W.codeIn K cd_Leads_init "Leads.__init__" = true)
    (k_Leads_init : PySem.W.keepIn K (.ref f_Leads_init) = true)
    (a_Leads_shows : PySem.W.findIn K (.ref CLeads) "shows" = some (some (.ref f_Leads_shows)))
    (i_Leads_shows : PySem.W.isFn K (.ref f_Leads_shows) = true)
    (l_Leads_shows : K.lookup f_Leads_shows = some ⟨oc_Leads_shows, od_Leads_shows, .func (PySem.W.fnOf "shows" "Leads.shows" (defArgs s_Leads_shows) (defBody s_Leads_shows) (defScope s_Leads_shows) .none kV_Leads_shows dc_Leads_shows pm_Leads_shows an_Leads_shows cd_Leads_shows ct_Leads_shows), sl_Leads_shows⟩)
    (c_Leads_shows : PySem.W.codeIn K cd_Leads_shows "Leads.shows" = true)
    (k_Leads_shows : PySem.W.keepIn K (.ref f_Leads_shows) = true)
    (g_Never : PySem.W.nsIn K mainGlobals "Never" = some (some (.ref CNever)))
    (t_Never : PySem.W.typeIn K (.ref CNever) = some (.type "type"))
    (q6Never : PySem.W.mroIn K CNever (.type "object") = some true)
    (q7Never : PySem.W.subIn K (.ref CNever) (.ref CNever) = some true)
    (q1Never : PySem.W.plainGet K CNever Str.empty = true)
    (q2Never : PySem.W.hasDictIn K CNever = true)
    (q3Never : PySem.W.plainOver K CNever = true)
    (q4Never : PySem.W.findIn K (.ref CNever) "__setattr__" = some (some (.builtin "object.__setattr__")))
    (q5Never : PySem.W.findIn K (.ref CNever) "__class__" = some (some (.builtin "object.__class__")))
    (q8Never : PySem.W.makesIn K CNever = true)
    (q9Never : PySem.W.keepIn K (.ref CNever) = true)
    (qANever : PySem.W.subIn K (.ref CNever) (.ref CAnswer) = some true)
    (a_Never_shows : PySem.W.findIn K (.ref CNever) "shows" = some (some (.ref f_Never_shows)))
    (i_Never_shows : PySem.W.isFn K (.ref f_Never_shows) = true)
    (l_Never_shows : K.lookup f_Never_shows = some ⟨oc_Never_shows, od_Never_shows, .func (PySem.W.fnOf "shows" "Never.shows" (defArgs s_Never_shows) (defBody s_Never_shows) (defScope s_Never_shows) .none kV_Never_shows dc_Never_shows pm_Never_shows an_Never_shows cd_Never_shows ct_Never_shows), sl_Never_shows⟩)
    (c_Never_shows : PySem.W.codeIn K cd_Never_shows "Never.shows" = true)
    (k_Never_shows : PySem.W.keepIn K (.ref f_Never_shows) = true)
    (qn : PySem.W.specialIn K (.builtin "object.__class__") "__get__" = some (some (.builtin "getset_descriptor.__get__")))
    (qk : PySem.W.takesIn K (.builtin "object.__class__") = some true)
    (qP : PySem.W.findIn K (.ref CLeads) "pads" = some none)
    (qI : PySem.W.findIn K (.ref CNever) "__init__" = some (some (.builtin "object.__init__")))
    (qLN : PySem.W.subIn K (.ref CLeads) (.ref CNever) = some false)
    (qNL : PySem.W.subIn K (.ref CNever) (.ref CLeads) = some false)
    (ne_tabs : tb21 ≠ tb23)
    (eg_PadError : PySem.W.nsIn K mainGlobals "PadError" = some (some (.ref EPadError)))
    (es_PadError : PySem.W.subIn K (.ref EPadError) (.type "BaseException") = some true)
    (et_PadError : PySem.W.typeIn K (.ref EPadError) = some (.type "type"))
    (ed_PadError : PySem.W.hasDictIn K EPadError = true)
    (eg_BadStanding : PySem.W.nsIn K mainGlobals "BadStanding" = some (some (.ref EBadStanding)))
    (es_BadStanding : PySem.W.subIn K (.ref EBadStanding) (.type "BaseException") = some true)
    (et_BadStanding : PySem.W.typeIn K (.ref EBadStanding) = some (.type "type"))
    (ed_BadStanding : PySem.W.hasDictIn K EBadStanding = true)
    (ek_BadStanding : PySem.W.keepIn K (.ref EBadStanding) = true)
    (ee_BadStanding : PySem.W.excIn K EBadStanding [.type "ValueError", .type "Exception", .type "BaseException", .type "object"] "ValueError.__new__" = true)
    (e1_BadStanding : PySem.W.findIn K (.ref EBadStanding) "__getattribute__" = some (some (.builtin "BaseException.__getattribute__")))
    (e2_BadStanding : PySem.W.findIn K (.ref EBadStanding) "__getattr__" = some none)
    (e3_BadStanding : PySem.W.findIn K (.ref EBadStanding) "__class__" = some (some (.builtin "object.__class__")))
    (e4_BadStanding : PySem.W.mroIn K EBadStanding (.type "object") = some true)
    (e5_BadStanding : PySem.W.subIn K (.ref EBadStanding) (.type "ValueError") = some true)
    (e6_BadStanding : PySem.W.subIn K (.ref EBadStanding) (.ref EPadError) = some true)
    (eg_BadPad : PySem.W.nsIn K mainGlobals "BadPad" = some (some (.ref EBadPad)))
    (es_BadPad : PySem.W.subIn K (.ref EBadPad) (.type "BaseException") = some true)
    (et_BadPad : PySem.W.typeIn K (.ref EBadPad) = some (.type "type"))
    (ed_BadPad : PySem.W.hasDictIn K EBadPad = true)
    (ek_BadPad : PySem.W.keepIn K (.ref EBadPad) = true)
    (ee_BadPad : PySem.W.excIn K EBadPad [.type "ValueError", .type "Exception", .type "BaseException", .type "object"] "ValueError.__new__" = true)
    (e1_BadPad : PySem.W.findIn K (.ref EBadPad) "__getattribute__" = some (some (.builtin "BaseException.__getattribute__")))
    (e2_BadPad : PySem.W.findIn K (.ref EBadPad) "__getattr__" = some none)
    (e3_BadPad : PySem.W.findIn K (.ref EBadPad) "__class__" = some (some (.builtin "object.__class__")))
    (e4_BadPad : PySem.W.mroIn K EBadPad (.type "object") = some true)
    (e5_BadPad : PySem.W.subIn K (.ref EBadPad) (.type "ValueError") = some true)
    (e6_BadPad : PySem.W.subIn K (.ref EBadPad) (.ref EPadError) = some true)
    (eg_BadCount : PySem.W.nsIn K mainGlobals "BadCount" = some (some (.ref EBadCount)))
    (es_BadCount : PySem.W.subIn K (.ref EBadCount) (.type "BaseException") = some true)
    (et_BadCount : PySem.W.typeIn K (.ref EBadCount) = some (.type "type"))
    (ed_BadCount : PySem.W.hasDictIn K EBadCount = true)
    (ek_BadCount : PySem.W.keepIn K (.ref EBadCount) = true)
    (ee_BadCount : PySem.W.excIn K EBadCount [.type "ValueError", .type "Exception", .type "BaseException", .type "object"] "ValueError.__new__" = true)
    (e1_BadCount : PySem.W.findIn K (.ref EBadCount) "__getattribute__" = some (some (.builtin "BaseException.__getattribute__")))
    (e2_BadCount : PySem.W.findIn K (.ref EBadCount) "__getattr__" = some none)
    (e3_BadCount : PySem.W.findIn K (.ref EBadCount) "__class__" = some (some (.builtin "object.__class__")))
    (e4_BadCount : PySem.W.mroIn K EBadCount (.type "object") = some true)
    (e5_BadCount : PySem.W.subIn K (.ref EBadCount) (.type "ValueError") = some true)
    (e6_BadCount : PySem.W.subIn K (.ref EBadCount) (.ref EPadError) = some true)
    (eg_BadNumber : PySem.W.nsIn K mainGlobals "BadNumber" = some (some (.ref EBadNumber)))
    (es_BadNumber : PySem.W.subIn K (.ref EBadNumber) (.type "BaseException") = some true)
    (et_BadNumber : PySem.W.typeIn K (.ref EBadNumber) = some (.type "type"))
    (ed_BadNumber : PySem.W.hasDictIn K EBadNumber = true)
    (ek_BadNumber : PySem.W.keepIn K (.ref EBadNumber) = true)
    (ee_BadNumber : PySem.W.excIn K EBadNumber [.type "ValueError", .type "Exception", .type "BaseException", .type "object"] "ValueError.__new__" = true)
    (e1_BadNumber : PySem.W.findIn K (.ref EBadNumber) "__getattribute__" = some (some (.builtin "BaseException.__getattribute__")))
    (e2_BadNumber : PySem.W.findIn K (.ref EBadNumber) "__getattr__" = some none)
    (e3_BadNumber : PySem.W.findIn K (.ref EBadNumber) "__class__" = some (some (.builtin "object.__class__")))
    (e4_BadNumber : PySem.W.mroIn K EBadNumber (.type "object") = some true)
    (e5_BadNumber : PySem.W.subIn K (.ref EBadNumber) (.type "ValueError") = some true)
    (e6_BadNumber : PySem.W.subIn K (.ref EBadNumber) (.ref EPadError) = some true)
    (eg_TooMany : PySem.W.nsIn K mainGlobals "TooMany" = some (some (.ref ETooMany)))
    (es_TooMany : PySem.W.subIn K (.ref ETooMany) (.type "BaseException") = some true)
    (et_TooMany : PySem.W.typeIn K (.ref ETooMany) = some (.type "type"))
    (ed_TooMany : PySem.W.hasDictIn K ETooMany = true)
    (ek_TooMany : PySem.W.keepIn K (.ref ETooMany) = true)
    (ee_TooMany : PySem.W.excIn K ETooMany [.type "ValueError", .type "Exception", .type "BaseException", .type "object"] "ValueError.__new__" = true)
    (e1_TooMany : PySem.W.findIn K (.ref ETooMany) "__getattribute__" = some (some (.builtin "BaseException.__getattribute__")))
    (e2_TooMany : PySem.W.findIn K (.ref ETooMany) "__getattr__" = some none)
    (e3_TooMany : PySem.W.findIn K (.ref ETooMany) "__class__" = some (some (.builtin "object.__class__")))
    (e4_TooMany : PySem.W.mroIn K ETooMany (.type "object") = some true)
    (e5_TooMany : PySem.W.subIn K (.ref ETooMany) (.type "ValueError") = some true)
    (e6_TooMany : PySem.W.subIn K (.ref ETooMany) (.ref EPadError) = some true)
    (eb_BadStanding_BadStanding : PySem.W.subIn K (.ref EBadStanding) (.ref EBadStanding) = some true)
    (eb_BadStanding_BadPad : PySem.W.subIn K (.ref EBadStanding) (.ref EBadPad) = some false)
    (eb_BadStanding_BadCount : PySem.W.subIn K (.ref EBadStanding) (.ref EBadCount) = some false)
    (eb_BadStanding_BadNumber : PySem.W.subIn K (.ref EBadStanding) (.ref EBadNumber) = some false)
    (eb_BadStanding_TooMany : PySem.W.subIn K (.ref EBadStanding) (.ref ETooMany) = some false)
    (eb_BadPad_BadStanding : PySem.W.subIn K (.ref EBadPad) (.ref EBadStanding) = some false)
    (eb_BadPad_BadPad : PySem.W.subIn K (.ref EBadPad) (.ref EBadPad) = some true)
    (eb_BadPad_BadCount : PySem.W.subIn K (.ref EBadPad) (.ref EBadCount) = some false)
    (eb_BadPad_BadNumber : PySem.W.subIn K (.ref EBadPad) (.ref EBadNumber) = some false)
    (eb_BadPad_TooMany : PySem.W.subIn K (.ref EBadPad) (.ref ETooMany) = some false)
    (eb_BadCount_BadStanding : PySem.W.subIn K (.ref EBadCount) (.ref EBadStanding) = some false)
    (eb_BadCount_BadPad : PySem.W.subIn K (.ref EBadCount) (.ref EBadPad) = some false)
    (eb_BadCount_BadCount : PySem.W.subIn K (.ref EBadCount) (.ref EBadCount) = some true)
    (eb_BadCount_BadNumber : PySem.W.subIn K (.ref EBadCount) (.ref EBadNumber) = some false)
    (eb_BadCount_TooMany : PySem.W.subIn K (.ref EBadCount) (.ref ETooMany) = some false)
    (eb_BadNumber_BadStanding : PySem.W.subIn K (.ref EBadNumber) (.ref EBadStanding) = some false)
    (eb_BadNumber_BadPad : PySem.W.subIn K (.ref EBadNumber) (.ref EBadPad) = some false)
    (eb_BadNumber_BadCount : PySem.W.subIn K (.ref EBadNumber) (.ref EBadCount) = some false)
    (eb_BadNumber_BadNumber : PySem.W.subIn K (.ref EBadNumber) (.ref EBadNumber) = some true)
    (eb_BadNumber_TooMany : PySem.W.subIn K (.ref EBadNumber) (.ref ETooMany) = some false)
    (eb_TooMany_BadStanding : PySem.W.subIn K (.ref ETooMany) (.ref EBadStanding) = some false)
    (eb_TooMany_BadPad : PySem.W.subIn K (.ref ETooMany) (.ref EBadPad) = some false)
    (eb_TooMany_BadCount : PySem.W.subIn K (.ref ETooMany) (.ref EBadCount) = some false)
    (eb_TooMany_BadNumber : PySem.W.subIn K (.ref ETooMany) (.ref EBadNumber) = some false)
    (eb_TooMany_TooMany : PySem.W.subIn K (.ref ETooMany) (.ref ETooMany) = some true)
    : LamX.LawAtS l w K L2.CX0 31 63 "_law_script" mg fa h := by
  have e := hfa.symm.trans (PySem.W.mg_of X G a24)
  cases e
  have F_is_whole := L2.fun_mk (st := s_is_whole) l0 c0 k0
  have D_is_whole : Df K mg "is_whole" s_is_whole ["thing"] := ⟨f0, _, F_is_whole, F_is_whole.binds (ps := ["thing"]) (fun _ _ _ _ _ _ us hl => match us, hl with | [_], _ => rfl), PySem.W.mg_of X G a0⟩
  have F_asked_standing := L2.fun_mk (st := s_asked_standing) l1 c1 k1
  have D_asked_standing : Df K mg "asked_standing" s_asked_standing ["standing"] := ⟨f1, _, F_asked_standing, F_asked_standing.binds (ps := ["standing"]) (fun _ _ _ _ _ _ us hl => match us, hl with | [_], _ => rfl), PySem.W.mg_of X G a1⟩
  have F_asked_small := L2.fun_mk (st := s_asked_small) l2 c2 k2
  have D_asked_small : Df K mg "asked_small" s_asked_small ["standing"] := ⟨f2, _, F_asked_small, F_asked_small.binds (ps := ["standing"]) (fun _ _ _ _ _ _ us hl => match us, hl with | [_], _ => rfl), PySem.W.mg_of X G a2⟩
  have F_movers := L2.fun_mk (st := s_movers) l3 c3 k3
  have D_movers : Df K mg "movers" s_movers ["standing"] := ⟨f3, _, F_movers, F_movers.binds (ps := ["standing"]) (fun _ _ _ _ _ _ us hl => match us, hl with | [_], _ => rfl), PySem.W.mg_of X G a3⟩
  have F_moves := L2.fun_mk (st := s_moves) l4 c4 k4
  have D_moves : Df K mg "moves" s_moves ["standing"] := ⟨f4, _, F_moves, F_moves.binds (ps := ["standing"]) (fun _ _ _ _ _ _ us hl => match us, hl with | [_], _ => rfl), PySem.W.mg_of X G a4⟩
  have F_behind := L2.fun_mk (st := s_behind) l5 c5 k5
  have D_behind : Df K mg "behind" s_behind ["standing", "pad"] := ⟨f5, _, F_behind, F_behind.binds (ps := ["standing", "pad"]) (fun _ _ _ _ _ _ us hl => match us, hl with | [_, _], _ => rfl), PySem.W.mg_of X G a5⟩
  have F_moved := L2.fun_mk (st := s_moved) l6 c6 k6
  have D_moved : Df K mg "moved" s_moved ["standing", "pad"] := ⟨f6, _, F_moved, F_moved.binds (ps := ["standing", "pad"]) (fun _ _ _ _ _ _ us hl => match us, hl with | [_, _], _ => rfl), PySem.W.mg_of X G a6⟩
  have F_goal_of := L2.fun_mk (st := s_goal_of) l7 c7 k7
  have D_goal_of : Df K mg "goal_of" s_goal_of ["standing"] := ⟨f7, _, F_goal_of, F_goal_of.binds (ps := ["standing"]) (fun _ _ _ _ _ _ us hl => match us, hl with | [_], _ => rfl), PySem.W.mg_of X G a7⟩
  have F_goal := L2.fun_mk (st := s_goal) l8 c8 k8
  have D_goal : Df K mg "goal" s_goal ["standing"] := ⟨f8, _, F_goal, F_goal.binds (ps := ["standing"]) (fun _ _ _ _ _ _ us hl => match us, hl with | [_], _ => rfl), PySem.W.mg_of X G a8⟩
  have F_moves_left := L2.fun_mk (st := s_moves_left) l9 c9 k9
  have D_moves_left : Df K mg "moves_left" s_moves_left ["standing"] := ⟨f9, _, F_moves_left, F_moves_left.binds (ps := ["standing"]) (fun _ _ _ _ _ _ us hl => match us, hl with | [_], _ => rfl), PySem.W.mg_of X G a9⟩
  have F_exchange := L2.fun_mk (st := s_exchange) l10 c10 k10
  have D_exchange : Df K mg "exchange" s_exchange ["one", "other"] := ⟨f10, _, F_exchange, F_exchange.binds (ps := ["one", "other"]) (fun _ _ _ _ _ _ us hl => match us, hl with | [_, _], _ => rfl), PySem.W.mg_of X G a10⟩
  have F_mirrored := L2.fun_mk (st := s_mirrored) l11 c11 k11
  have D_mirrored : Df K mg "mirrored" s_mirrored ["standing"] := ⟨f11, _, F_mirrored, F_mirrored.binds (ps := ["standing"]) (fun _ _ _ _ _ _ us hl => match us, hl with | [_], _ => rfl), PySem.W.mg_of X G a11⟩
  have F_ways_of := L2.fun_mk (st := s_ways_of) l12 c12 k12
  have D_ways_of : Df K mg "ways_of" s_ways_of ["standing", "known"] := ⟨f12, _, F_ways_of, F_ways_of.binds (ps := ["standing", "known"]) (fun _ _ _ _ _ _ us hl => match us, hl with | [_, _], _ => rfl), PySem.W.mg_of X G a12⟩
  have F_ways := L2.fun_mk (st := s_ways) l13 c13 k13
  have D_ways : Df K mg "ways" s_ways ["standing"] := ⟨f13, _, F_ways, F_ways.binds (ps := ["standing"]) (fun _ _ _ _ _ _ us hl => match us, hl with | [_], _ => rfl), PySem.W.mg_of X G a13⟩
  have F_way_of := L2.fun_mk (st := s_way_of) l14 c14 k14
  have D_way_of : Df K mg "way_of" s_way_of ["standing", "number"] := ⟨f14, _, F_way_of, F_way_of.binds (ps := ["standing", "number"]) (fun _ _ _ _ _ _ us hl => match us, hl with | [_, _], _ => rfl), PySem.W.mg_of X G a14⟩
  have F_way_by := L2.fun_mk (st := s_way_by) l15 c15 k15
  have D_way_by : Df K mg "way_by" s_way_by ["standing", "number"] := ⟨f15, _, F_way_by, F_way_by.binds (ps := ["standing", "number"]) (fun _ _ _ _ _ _ us hl => match us, hl with | [_, _], _ => rfl), PySem.W.mg_of X G a15⟩
  have F_led := L2.fun_mk (st := s_led) l16 c16 k16
  have D_led : Df K mg "led" s_led ["standing"] := ⟨f16, _, F_led, F_led.binds (ps := ["standing"]) (fun _ _ _ _ _ _ us hl => match us, hl with | [_], _ => rfl), PySem.W.mg_of X G a16⟩
  have F_come_by_all := L2.fun_mk (st := s_come_by_all) l17 c17 k17
  have D_come_by_all : Df K mg "come_by_all" s_come_by_all ["standing"] := ⟨f17, _, F_come_by_all, F_come_by_all.binds (ps := ["standing"]) (fun _ _ _ _ _ _ us hl => match us, hl with | [_], _ => rfl), PySem.W.mg_of X G a17⟩
  have F_come_by := L2.fun_mk (st := s_come_by) l18 c18 k18
  have D_come_by : Df K mg "come_by" s_come_by ["standing"] := ⟨f18, _, F_come_by, F_come_by.binds (ps := ["standing"]) (fun _ _ _ _ _ _ us hl => match us, hl with | [_], _ => rfl), PySem.W.mg_of X G a18⟩
  have F_stuck := L2.fun_mk (st := s_stuck) l19 c19 k19
  have D_stuck : Df K mg "stuck" s_stuck ["standing"] := ⟨f19, _, F_stuck, F_stuck.binds (ps := ["standing"]) (fun _ _ _ _ _ _ us hl => match us, hl with | [_], _ => rfl), PySem.W.mg_of X G a19⟩
  have F__law_refused := L2.fun_mk (st := s__law_refused) l20 c20 k20
  have D__law_refused : Df K mg "_law_refused" s__law_refused ["_law_ask", "_law_thing", "_law_due"] := ⟨f20, _, F__law_refused, F__law_refused.binds (ps := ["_law_ask", "_law_thing", "_law_due"]) (fun _ _ _ _ _ _ us hl => match us, hl with | [_, _, _], _ => rfl), PySem.W.mg_of X G a20⟩
  have F__law_known_right := L2.fun_mk (st := s__law_known_right) l21 c21 k21
  have DT__law_known_right : DfT K mg "_law_known_right" s__law_known_right [] cd21 := ⟨f21, oc21, kV21, dc21, pm21, ct21, od21, an21, sl21, l21, c21, k21, F__law_known_right.binds (ps := []) (fun _ _ _ _ _ _ us hl => match us, hl with | [], _ => rfl), PySem.W.mg_of X G a21⟩
  have D__law_known_right : Df K mg "_law_known_right" s__law_known_right [] := ⟨f21, _, F__law_known_right, F__law_known_right.binds (ps := []) (fun _ _ _ _ _ _ us hl => match us, hl with | [], _ => rfl), PySem.W.mg_of X G a21⟩
  have F__law_sixty_right := L2.fun_mk (st := s__law_sixty_right) l22 c22 k22
  have D__law_sixty_right : Df K mg "_law_sixty_right" s__law_sixty_right ["_law_whole"] := ⟨f22, _, F__law_sixty_right, F__law_sixty_right.binds (ps := ["_law_whole"]) (fun _ _ _ _ _ _ us hl => match us, hl with | [_], _ => rfl), PySem.W.mg_of X G a22⟩
  have F__law_bad_right := L2.fun_mk (st := s__law_bad_right) l23 c23 k23
  have DT__law_bad_right : DfT K mg "_law_bad_right" s__law_bad_right [] cd23 := ⟨f23, oc23, kV23, dc23, pm23, ct23, od23, an23, sl23, l23, c23, k23, F__law_bad_right.binds (ps := []) (fun _ _ _ _ _ _ us hl => match us, hl with | [], _ => rfl), PySem.W.mg_of X G a23⟩
  have D__law_bad_right : Df K mg "_law_bad_right" s__law_bad_right [] := ⟨f23, _, F__law_bad_right, F__law_bad_right.binds (ps := []) (fun _ _ _ _ _ _ us hl => match us, hl with | [], _ => rfl), PySem.W.mg_of X G a23⟩
  have F_law := L2.fun_mk (st := s_law) l24 c24 k24
  have h_MOST : ∃ t, mg "MOST" = some (.int 60 t) := ⟨_, PySem.W.mg_of X G m_MOST⟩
  have h_SMALL : ∃ t, mg "SMALL" = some (.int 9 t) := ⟨_, PySem.W.mg_of X G m_SMALL⟩
  have F_Leads_init := L2.fun_mk (st := s_Leads_init) l_Leads_init c_Leads_init k_Leads_init
  have D_Leads_init : Di K mg "Leads" CLeads "Leads.__init__" s_Leads_init ["self", "pads"] := ⟨f_Leads_init, _, F_Leads_init, F_Leads_init.binds (ps := ["self", "pads"]) (fun _ _ _ _ _ _ us hl => match us, hl with | [_, _], _ => rfl), ⟨q8Leads, a_Leads_init, i_Leads_init, q9Leads⟩, PySem.W.mg_of X G g_Leads⟩
  have F_Leads_shows := L2.fun_mk (st := s_Leads_shows) l_Leads_shows c_Leads_shows k_Leads_shows
  have D_Leads_shows : Dm K CLeads "shows" "Leads.shows" s_Leads_shows ["self", "standing"] := ⟨f_Leads_shows, _, F_Leads_shows, F_Leads_shows.binds (ps := ["self", "standing"]) (fun _ _ _ _ _ _ us hl => match us, hl with | [_, _], _ => rfl), ⟨a_Leads_shows, i_Leads_shows, k_Leads_shows⟩⟩
  have F_Never_shows := L2.fun_mk (st := s_Never_shows) l_Never_shows c_Never_shows k_Never_shows
  have D_Never_shows : Dm K CNever "shows" "Never.shows" s_Never_shows ["self", "standing"] := ⟨f_Never_shows, _, F_Never_shows, F_Never_shows.binds (ps := ["self", "standing"]) (fun _ _ _ _ _ _ us hl => match us, hl with | [_, _], _ => rfl), ⟨a_Never_shows, i_Never_shows, k_Never_shows⟩⟩
  have Y : Ans K mg CAnswer CLeads CNever := ⟨⟨⟨q1Leads, q2Leads, q3Leads, q4Leads⟩, q5Leads, qn, qk, q6Leads, kit_self⟩, ⟨⟨q1Never, q2Never, q3Never, q4Never⟩, q5Never, qn, qk, q6Never, kit_self⟩, PySem.W.mg_of X G g_Answer, PySem.W.mg_of X G g_Leads, PySem.W.mg_of X G g_Never, qP, ⟨q8Never, qI, q9Never⟩, kit_own t_Answer q6Answer qALeads q7Answer, kit_own t_Answer q6Answer qANever q7Answer, kit_own t_Never q6Never qLN q7Never, kit_own t_Leads q6Leads qNL q7Leads⟩
  have T : Bl mg := ⟨PySem.W.mg_none_of X G z_isinstance, PySem.W.mg_none_of X G z_int, PySem.W.mg_none_of X G z_bool, PySem.W.mg_none_of X G z_str, PySem.W.mg_none_of X G z_len, PySem.W.mg_none_of X G z_all, PySem.W.mg_none_of X G z_any, PySem.W.mg_none_of X G z_list, PySem.W.mg_none_of X G z_range, PySem.W.mg_none_of X G z_enumerate, PySem.W.mg_none_of X G z_sum, PySem.W.mg_none_of X G z_abs, PySem.W.mg_none_of X G z_sorted, PySem.W.mg_none_of X G z_tuple, PySem.W.mg_none_of X G z_ValueError⟩
  have R_BadStanding : Er K mg "BadStanding" EBadStanding := ⟨PySem.W.mg_of X G eg_BadStanding, ek_BadStanding, ee_BadStanding, es_BadStanding, et_BadStanding⟩
  have R_BadPad : Er K mg "BadPad" EBadPad := ⟨PySem.W.mg_of X G eg_BadPad, ek_BadPad, ee_BadPad, es_BadPad, et_BadPad⟩
  have R_BadCount : Er K mg "BadCount" EBadCount := ⟨PySem.W.mg_of X G eg_BadCount, ek_BadCount, ee_BadCount, es_BadCount, et_BadCount⟩
  have R_BadNumber : Er K mg "BadNumber" EBadNumber := ⟨PySem.W.mg_of X G eg_BadNumber, ek_BadNumber, ee_BadNumber, es_BadNumber, et_BadNumber⟩
  have R_TooMany : Er K mg "TooMany" ETooMany := ⟨PySem.W.mg_of X G eg_TooMany, ek_TooMany, ee_TooMany, es_TooMany, et_TooMany⟩
  have Z : Ks K mg EPadError EBadStanding EBadPad EBadCount EBadNumber ETooMany := ⟨PySem.W.mg_of X G eg_PadError, PySem.W.mg_of X G eg_BadStanding, PySem.W.mg_of X G eg_BadPad, PySem.W.mg_of X G eg_BadCount, PySem.W.mg_of X G eg_BadNumber, PySem.W.mg_of X G eg_TooMany⟩
  have KD_0 : Kd K EPadError EBadStanding EBadPad EBadCount EBadNumber ETooMany EBadStanding 0 := ⟨⟨e1_BadStanding, e2_BadStanding, es_BadStanding, ed_BadStanding, e3_BadStanding, qn, qk, e4_BadStanding⟩, PySem.W.exm_ref es_PadError ed_PadError et_PadError e6_BadStanding, kd_b (by decide) (kit_own et_BadStanding e4_BadStanding eb_BadStanding_BadStanding eb_BadStanding_BadStanding), kd_b (by decide) (kit_own et_BadPad e4_BadPad eb_BadStanding_BadPad eb_BadPad_BadPad), kd_b (by decide) (kit_own et_BadCount e4_BadCount eb_BadStanding_BadCount eb_BadCount_BadCount), kd_b (by decide) (kit_own et_BadNumber e4_BadNumber eb_BadStanding_BadNumber eb_BadNumber_BadNumber), kd_b (by decide) (kit_own et_TooMany e4_TooMany eb_BadStanding_TooMany eb_TooMany_TooMany), kit_verr e5_BadStanding⟩
  have KD_1 : Kd K EPadError EBadStanding EBadPad EBadCount EBadNumber ETooMany EBadPad 1 := ⟨⟨e1_BadPad, e2_BadPad, es_BadPad, ed_BadPad, e3_BadPad, qn, qk, e4_BadPad⟩, PySem.W.exm_ref es_PadError ed_PadError et_PadError e6_BadPad, kd_b (by decide) (kit_own et_BadStanding e4_BadStanding eb_BadPad_BadStanding eb_BadStanding_BadStanding), kd_b (by decide) (kit_own et_BadPad e4_BadPad eb_BadPad_BadPad eb_BadPad_BadPad), kd_b (by decide) (kit_own et_BadCount e4_BadCount eb_BadPad_BadCount eb_BadCount_BadCount), kd_b (by decide) (kit_own et_BadNumber e4_BadNumber eb_BadPad_BadNumber eb_BadNumber_BadNumber), kd_b (by decide) (kit_own et_TooMany e4_TooMany eb_BadPad_TooMany eb_TooMany_TooMany), kit_verr e5_BadPad⟩
  have KD_2 : Kd K EPadError EBadStanding EBadPad EBadCount EBadNumber ETooMany EBadCount 2 := ⟨⟨e1_BadCount, e2_BadCount, es_BadCount, ed_BadCount, e3_BadCount, qn, qk, e4_BadCount⟩, PySem.W.exm_ref es_PadError ed_PadError et_PadError e6_BadCount, kd_b (by decide) (kit_own et_BadStanding e4_BadStanding eb_BadCount_BadStanding eb_BadStanding_BadStanding), kd_b (by decide) (kit_own et_BadPad e4_BadPad eb_BadCount_BadPad eb_BadPad_BadPad), kd_b (by decide) (kit_own et_BadCount e4_BadCount eb_BadCount_BadCount eb_BadCount_BadCount), kd_b (by decide) (kit_own et_BadNumber e4_BadNumber eb_BadCount_BadNumber eb_BadNumber_BadNumber), kd_b (by decide) (kit_own et_TooMany e4_TooMany eb_BadCount_TooMany eb_TooMany_TooMany), kit_verr e5_BadCount⟩
  have KD_3 : Kd K EPadError EBadStanding EBadPad EBadCount EBadNumber ETooMany EBadNumber 3 := ⟨⟨e1_BadNumber, e2_BadNumber, es_BadNumber, ed_BadNumber, e3_BadNumber, qn, qk, e4_BadNumber⟩, PySem.W.exm_ref es_PadError ed_PadError et_PadError e6_BadNumber, kd_b (by decide) (kit_own et_BadStanding e4_BadStanding eb_BadNumber_BadStanding eb_BadStanding_BadStanding), kd_b (by decide) (kit_own et_BadPad e4_BadPad eb_BadNumber_BadPad eb_BadPad_BadPad), kd_b (by decide) (kit_own et_BadCount e4_BadCount eb_BadNumber_BadCount eb_BadCount_BadCount), kd_b (by decide) (kit_own et_BadNumber e4_BadNumber eb_BadNumber_BadNumber eb_BadNumber_BadNumber), kd_b (by decide) (kit_own et_TooMany e4_TooMany eb_BadNumber_TooMany eb_TooMany_TooMany), kit_verr e5_BadNumber⟩
  have KD_4 : Kd K EPadError EBadStanding EBadPad EBadCount EBadNumber ETooMany ETooMany 4 := ⟨⟨e1_TooMany, e2_TooMany, es_TooMany, ed_TooMany, e3_TooMany, qn, qk, e4_TooMany⟩, PySem.W.exm_ref es_PadError ed_PadError et_PadError e6_TooMany, kd_b (by decide) (kit_own et_BadStanding e4_BadStanding eb_TooMany_BadStanding eb_BadStanding_BadStanding), kd_b (by decide) (kit_own et_BadPad e4_BadPad eb_TooMany_BadPad eb_BadPad_BadPad), kd_b (by decide) (kit_own et_BadCount e4_BadCount eb_TooMany_BadCount eb_BadCount_BadCount), kd_b (by decide) (kit_own et_BadNumber e4_BadNumber eb_TooMany_BadNumber eb_BadNumber_BadNumber), kd_b (by decide) (kit_own et_TooMany e4_TooMany eb_TooMany_TooMany eb_TooMany_TooMany), kit_verr e5_TooMany⟩
  refine ⟨PySem.W.fnOf "law" "law" (defArgs s_law) (defBody s_law) (defScope s_law) .none kV24 dc24 pm24 an24 cd24 ct24, [(cd21, tb21), (cd23, tb23)], spLawT K tb21 tb23, fun p hp => ?_, fun p hp => ?_, fun p hp => ?_, fun s v => .of_eq rfl, fun H a ns hl hb ht hS => ⟨a, ns, rfl, hS, hl, hb, ht (cd21, tb21) (by simp), ht (cd23, tb23) (by simp), fun _ => rfl⟩, fun base _ _ hT => ?_⟩
  · simp only [List.mem_cons, List.not_mem_nil, or_false] at hp
    rcases hp with rfl | rfl
    · exact u21
    · exact u23
  · simp only [List.mem_cons, List.not_mem_nil, or_false] at hp
    rcases hp with rfl | rfl
    · exact w21
    · exact w23
  · simp only [List.mem_cons, List.not_mem_nil, or_false] at hp
    rcases hp with rfl | rfl
    · exact PySem.W.codeHd_of_K X v21
    · exact PySem.W.codeHd_of_K X v23
  have TB__law_known_right := hT (cd21, tb21) (by simp)
  have TB__law_bad_right := hT (cd23, tb23) (by simp)
  have ca := c_asked (P := l.prog) (w := w) (base := base) D_asked_standing T h_MOST
  have cm := c_movers (P := l.prog) (w := w) (base := base) D_movers
  have cb := c_behind (P := l.prog) (w := w) (base := base) D_behind T
  have cw := c_whole (P := l.prog) (w := w) (base := base) D_is_whole T
  have cg := c_goal_of (P := l.prog) (w := w) (base := base) D_goal_of
  have cs := c_small D_asked_small T h_SMALL ca
  have cwo := c_ways D_ways_of cg cm cb 24
  have cy := c_wayof D_way_of cg cm cb cwo
  have ci := c_initL (P := l.prog) (w := w) (base := base) Y T D_Leads_init
  have cled := c_led Y D_led cs cwo cy ci
  have call := c_comeall D_come_by_all T cm cb
  have cmv := c_moves D_moves ca cm
  have cvd := c_moved D_moved ca cw cm cb
  have cgl := c_goal D_goal ca cg
  have cmi := c_mirr D_mirrored ca
  have clf := c_left D_moves_left T ca
  have cwy := c_waysA D_ways cs cwo
  have cby := c_wayby D_way_by cs cw cwo cy
  have cco := c_come D_come_by T cs call
  have cst := c_stuck D_stuck T cs call cm cg
  have cex := c_exch D_exchange cw
  have mL := c_showsL Y D_Leads_shows cg cm cb
  have na := n_asked (P := l.prog) (w := w) (base := base) D_asked_standing T h_MOST R_BadStanding
  have ns := n_small D_asked_small T h_SMALL R_TooMany na ca
  have cr := c_ref (lv := 28) (P := l.prog) (w := w) (base := base) D__law_refused T Z
  have n11 := n_wayby D_way_by R_BadNumber ns cs cw cwo
  exact ok_law F_law T (c_known Y DT__law_known_right TB__law_known_right T cr cmv cwy clf cex cst cled cby cgl cmi cco ci mL n11 KD_3) (c_sixty D__law_sixty_right cmv cvd clf cgl cex) (c_badR DT__law_bad_right TB__law_bad_right T cr cmv cvd (n_moves D_moves na) (n_goal D_goal na) (n_led D_led ns) (n_ways D_ways ns) (n_come D_come_by ns) (n_stuck D_stuck ns) (n_moved D_moved R_BadPad na ca cw cm) (n_exch D_exchange R_BadCount cw) n11 KD_0 KD_1 KD_2 KD_3 KD_4) ne_tabs
end PP
open PySem PySem.W PyProof.Rows in
set_option maxRecDepth 100000 in
set_option maxHeartbeats 0 in
theorem PySem.Challenge.cw_padleap_k09_whole_known_holds : PySem.Challenge.rw_padleap_k09_whole_known.Holds := by
  w_on; o_law; k_head; (case hw => w_witness2)
  k_fill
  refine LamX.walk_ofTs (l := PySem.Challenge.rw_padleap_k09_whole_known) (n := 63) (k := 31) (x := "_law_script") (CX := fun _ => L2.CX0) rfl (by decide) rfl ⟨rfl, by decide, by decide⟩ (fun w h Y => PySem.W.km_in_of Y) ?F (fun _ _ _ _ _ h => h)
  case F =>
    intro w mg fa h Y KX G hmg
    refine' PP.all_mk KX G hmg ?a0 ?l0 ?c0 ?k0 ?a1 ?l1 ?c1 ?k1 ?a2 ?l2 ?c2 ?k2 ?a3 ?l3 ?c3 ?k3 ?a4 ?l4 ?c4 ?k4 ?a5 ?l5 ?c5 ?k5 ?a6 ?l6 ?c6 ?k6 ?a7 ?l7 ?c7 ?k7 ?a8 ?l8 ?c8 ?k8 ?a9 ?l9 ?c9 ?k9 ?a10 ?l10 ?c10 ?k10 ?a11 ?l11 ?c11 ?k11 ?a12 ?l12 ?c12 ?k12 ?a13 ?l13 ?c13 ?k13 ?a14 ?l14 ?c14 ?k14 ?a15 ?l15 ?c15 ?k15 ?a16 ?l16 ?c16 ?k16 ?a17 ?l17 ?c17 ?k17 ?a18 ?l18 ?c18 ?k18 ?a19 ?l19 ?c19 ?k19 ?a20 ?l20 ?c20 ?k20 ?a21 ?l21 ?c21 ?k21 ?x21 ?y21 ?w21 ?v21 ?u21 ?a22 ?l22 ?c22 ?k22 ?a23 ?l23 ?c23 ?k23 ?x23 ?y23 ?w23 ?v23 ?u23 ?a24 ?l24 ?c24 ?k24 ?m_MOST ?m_SMALL ?z_isinstance ?z_int ?z_bool ?z_str ?z_len ?z_all ?z_any ?z_list ?z_range ?z_enumerate ?z_sum ?z_abs ?z_sorted ?z_tuple ?z_ValueError ?g_Answer ?t_Answer ?q6Answer ?q7Answer ?g_Leads ?t_Leads ?q6Leads ?q7Leads ?q1Leads ?q2Leads ?q3Leads ?q4Leads ?q5Leads ?q8Leads ?q9Leads ?qALeads ?a_Leads_init ?i_Leads_init ?l_Leads_init ?c_Leads_init ?k_Leads_init ?a_Leads_shows ?i_Leads_shows ?l_Leads_shows ?c_Leads_shows ?k_Leads_shows ?g_Never ?t_Never ?q6Never ?q7Never ?q1Never ?q2Never ?q3Never ?q4Never ?q5Never ?q8Never ?q9Never ?qANever ?a_Never_shows ?i_Never_shows ?l_Never_shows ?c_Never_shows ?k_Never_shows ?qn ?qk ?qP ?qI ?qLN ?qNL ?ne_tabs ?eg_PadError ?es_PadError ?et_PadError ?ed_PadError ?eg_BadStanding ?es_BadStanding ?et_BadStanding ?ed_BadStanding ?ek_BadStanding ?ee_BadStanding ?e1_BadStanding ?e2_BadStanding ?e3_BadStanding ?e4_BadStanding ?e5_BadStanding ?e6_BadStanding ?eg_BadPad ?es_BadPad ?et_BadPad ?ed_BadPad ?ek_BadPad ?ee_BadPad ?e1_BadPad ?e2_BadPad ?e3_BadPad ?e4_BadPad ?e5_BadPad ?e6_BadPad ?eg_BadCount ?es_BadCount ?et_BadCount ?ed_BadCount ?ek_BadCount ?ee_BadCount ?e1_BadCount ?e2_BadCount ?e3_BadCount ?e4_BadCount ?e5_BadCount ?e6_BadCount ?eg_BadNumber ?es_BadNumber ?et_BadNumber ?ed_BadNumber ?ek_BadNumber ?ee_BadNumber ?e1_BadNumber ?e2_BadNumber ?e3_BadNumber ?e4_BadNumber ?e5_BadNumber ?e6_BadNumber ?eg_TooMany ?es_TooMany ?et_TooMany ?ed_TooMany ?ek_TooMany ?ee_TooMany ?e1_TooMany ?e2_TooMany ?e3_TooMany ?e4_TooMany ?e5_TooMany ?e6_TooMany ?eb_BadStanding_BadStanding ?eb_BadStanding_BadPad ?eb_BadStanding_BadCount ?eb_BadStanding_BadNumber ?eb_BadStanding_TooMany ?eb_BadPad_BadStanding ?eb_BadPad_BadPad ?eb_BadPad_BadCount ?eb_BadPad_BadNumber ?eb_BadPad_TooMany ?eb_BadCount_BadStanding ?eb_BadCount_BadPad ?eb_BadCount_BadCount ?eb_BadCount_BadNumber ?eb_BadCount_TooMany ?eb_BadNumber_BadStanding ?eb_BadNumber_BadPad ?eb_BadNumber_BadCount ?eb_BadNumber_BadNumber ?eb_BadNumber_TooMany ?eb_TooMany_BadStanding ?eb_TooMany_BadPad ?eb_TooMany_BadCount ?eb_TooMany_BadNumber ?eb_TooMany_TooMany
    (case a0 => k_is)
    (case l0 => k_is)
    (case c0 => k_is)
    (case k0 => k_is)
    (case a1 => k_is)
    (case l1 => k_is)
    (case c1 => k_is)
    (case k1 => k_is)
    (case a2 => k_is)
    (case l2 => k_is)
    (case c2 => k_is)
    (case k2 => k_is)
    (case a3 => k_is)
    (case l3 => k_is)
    (case c3 => k_is)
    (case k3 => k_is)
    (case a4 => k_is)
    (case l4 => k_is)
    (case c4 => k_is)
    (case k4 => k_is)
    (case a5 => k_is)
    (case l5 => k_is)
    (case c5 => k_is)
    (case k5 => k_is)
    (case a6 => k_is)
    (case l6 => k_is)
    (case c6 => k_is)
    (case k6 => k_is)
    (case a7 => k_is)
    (case l7 => k_is)
    (case c7 => k_is)
    (case k7 => k_is)
    (case a8 => k_is)
    (case l8 => k_is)
    (case c8 => k_is)
    (case k8 => k_is)
    (case a9 => k_is)
    (case l9 => k_is)
    (case c9 => k_is)
    (case k9 => k_is)
    (case a10 => k_is)
    (case l10 => k_is)
    (case c10 => k_is)
    (case k10 => k_is)
    (case a11 => k_is)
    (case l11 => k_is)
    (case c11 => k_is)
    (case k11 => k_is)
    (case a12 => k_is)
    (case l12 => k_is)
    (case c12 => k_is)
    (case k12 => k_is)
    (case a13 => k_is)
    (case l13 => k_is)
    (case c13 => k_is)
    (case k13 => k_is)
    (case a14 => k_is)
    (case l14 => k_is)
    (case c14 => k_is)
    (case k14 => k_is)
    (case a15 => k_is)
    (case l15 => k_is)
    (case c15 => k_is)
    (case k15 => k_is)
    (case a16 => k_is)
    (case l16 => k_is)
    (case c16 => k_is)
    (case k16 => k_is)
    (case a17 => k_is)
    (case l17 => k_is)
    (case c17 => k_is)
    (case k17 => k_is)
    (case a18 => k_is)
    (case l18 => k_is)
    (case c18 => k_is)
    (case k18 => k_is)
    (case a19 => k_is)
    (case l19 => k_is)
    (case c19 => k_is)
    (case k19 => k_is)
    (case a20 => k_is)
    (case l20 => k_is)
    (case c20 => k_is)
    (case k20 => k_is)
    (case a21 => k_is)
    (case l21 => k_is)
    (case c21 => k_is)
    (case k21 => k_is)
    (case x21 => k_is)
    (case y21 => rfl)
    (case w21 => first | rfl | kernel_rfl)
    (case v21 => first | rfl | kernel_rfl)
    (case u21 => exact PySem.W.km_tabs_of Y _ (by decide))
    (case a22 => k_is)
    (case l22 => k_is)
    (case c22 => k_is)
    (case k22 => k_is)
    (case a23 => k_is)
    (case l23 => k_is)
    (case c23 => k_is)
    (case k23 => k_is)
    (case x23 => k_is)
    (case y23 => rfl)
    (case w23 => first | rfl | kernel_rfl)
    (case v23 => first | rfl | kernel_rfl)
    (case u23 => exact PySem.W.km_tabs_of Y _ (by decide))
    (case a24 => k_is)
    (case l24 => k_is)
    (case c24 => k_is)
    (case k24 => k_is)
    (case m_MOST => k_is)
    (case m_SMALL => k_is)
    (case z_isinstance => k_is)
    (case z_int => k_is)
    (case z_bool => k_is)
    (case z_str => k_is)
    (case z_len => k_is)
    (case z_all => k_is)
    (case z_any => k_is)
    (case z_list => k_is)
    (case z_range => k_is)
    (case z_enumerate => k_is)
    (case z_sum => k_is)
    (case z_abs => k_is)
    (case z_sorted => k_is)
    (case z_tuple => k_is)
    (case z_ValueError => k_is)
    (case g_Answer => k_is)
    (case t_Answer => k_is)
    (case q6Answer => k_is)
    (case q7Answer => k_is)
    (case g_Leads => k_is)
    (case t_Leads => k_is)
    (case q6Leads => k_is)
    (case q7Leads => k_is)
    (case q1Leads => k_is)
    (case q2Leads => k_is)
    (case q3Leads => k_is)
    (case q4Leads => k_is)
    (case q5Leads => k_is)
    (case q8Leads => k_is)
    (case q9Leads => k_is)
    (case qALeads => k_is)
    (case a_Leads_init => k_is)
    (case i_Leads_init => k_is)
    (case l_Leads_init => k_is)
    (case c_Leads_init => k_is)
    (case k_Leads_init => k_is)
    (case a_Leads_shows => k_is)
    (case i_Leads_shows => k_is)
    (case l_Leads_shows => k_is)
    (case c_Leads_shows => k_is)
    (case k_Leads_shows => k_is)
    (case g_Never => k_is)
    (case t_Never => k_is)
    (case q6Never => k_is)
    (case q7Never => k_is)
    (case q1Never => k_is)
    (case q2Never => k_is)
    (case q3Never => k_is)
    (case q4Never => k_is)
    (case q5Never => k_is)
    (case q8Never => k_is)
    (case q9Never => k_is)
    (case qANever => k_is)
    (case a_Never_shows => k_is)
    (case i_Never_shows => k_is)
    (case l_Never_shows => k_is)
    (case c_Never_shows => k_is)
    (case k_Never_shows => k_is)
    (case qn => k_is)
    (case qk => k_is)
    (case qP => k_is)
    (case qI => k_is)
    (case qLN => k_is)
    (case qNL => k_is)
    (case ne_tabs => decide)
    (case eg_PadError => k_is)
    (case es_PadError => k_is)
    (case et_PadError => k_is)
    (case ed_PadError => k_is)
    (case eg_BadStanding => k_is)
    (case es_BadStanding => k_is)
    (case et_BadStanding => k_is)
    (case ed_BadStanding => k_is)
    (case ek_BadStanding => k_is)
    (case ee_BadStanding => k_exc)
    (case e1_BadStanding => k_is)
    (case e2_BadStanding => k_is)
    (case e3_BadStanding => k_is)
    (case e4_BadStanding => k_is)
    (case e5_BadStanding => k_is)
    (case e6_BadStanding => k_is)
    (case eg_BadPad => k_is)
    (case es_BadPad => k_is)
    (case et_BadPad => k_is)
    (case ed_BadPad => k_is)
    (case ek_BadPad => k_is)
    (case ee_BadPad => k_exc)
    (case e1_BadPad => k_is)
    (case e2_BadPad => k_is)
    (case e3_BadPad => k_is)
    (case e4_BadPad => k_is)
    (case e5_BadPad => k_is)
    (case e6_BadPad => k_is)
    (case eg_BadCount => k_is)
    (case es_BadCount => k_is)
    (case et_BadCount => k_is)
    (case ed_BadCount => k_is)
    (case ek_BadCount => k_is)
    (case ee_BadCount => k_exc)
    (case e1_BadCount => k_is)
    (case e2_BadCount => k_is)
    (case e3_BadCount => k_is)
    (case e4_BadCount => k_is)
    (case e5_BadCount => k_is)
    (case e6_BadCount => k_is)
    (case eg_BadNumber => k_is)
    (case es_BadNumber => k_is)
    (case et_BadNumber => k_is)
    (case ed_BadNumber => k_is)
    (case ek_BadNumber => k_is)
    (case ee_BadNumber => k_exc)
    (case e1_BadNumber => k_is)
    (case e2_BadNumber => k_is)
    (case e3_BadNumber => k_is)
    (case e4_BadNumber => k_is)
    (case e5_BadNumber => k_is)
    (case e6_BadNumber => k_is)
    (case eg_TooMany => k_is)
    (case es_TooMany => k_is)
    (case et_TooMany => k_is)
    (case ed_TooMany => k_is)
    (case ek_TooMany => k_is)
    (case ee_TooMany => k_exc)
    (case e1_TooMany => k_is)
    (case e2_TooMany => k_is)
    (case e3_TooMany => k_is)
    (case e4_TooMany => k_is)
    (case e5_TooMany => k_is)
    (case e6_TooMany => k_is)
    (case eb_BadStanding_BadStanding => k_is)
    (case eb_BadStanding_BadPad => k_is)
    (case eb_BadStanding_BadCount => k_is)
    (case eb_BadStanding_BadNumber => k_is)
    (case eb_BadStanding_TooMany => k_is)
    (case eb_BadPad_BadStanding => k_is)
    (case eb_BadPad_BadPad => k_is)
    (case eb_BadPad_BadCount => k_is)
    (case eb_BadPad_BadNumber => k_is)
    (case eb_BadPad_TooMany => k_is)
    (case eb_BadCount_BadStanding => k_is)
    (case eb_BadCount_BadPad => k_is)
    (case eb_BadCount_BadCount => k_is)
    (case eb_BadCount_BadNumber => k_is)
    (case eb_BadCount_TooMany => k_is)
    (case eb_BadNumber_BadStanding => k_is)
    (case eb_BadNumber_BadPad => k_is)
    (case eb_BadNumber_BadCount => k_is)
    (case eb_BadNumber_BadNumber => k_is)
    (case eb_BadNumber_TooMany => k_is)
    (case eb_TooMany_BadStanding => k_is)
    (case eb_TooMany_BadPad => k_is)
    (case eb_TooMany_BadCount => k_is)
    (case eb_TooMany_BadNumber => k_is)
    (case eb_TooMany_TooMany => k_is)
#print axioms PySem.Challenge.cw_padleap_k09_whole_known_holds
