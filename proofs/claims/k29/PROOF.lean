import PyProof.Rows.All
import Wide.All
import OpenK.AllK
import Wide.FinOn
import PySem.Challenge.RW_beaconvale_k29_whole_hours_gone_through
import HandS.ForMost
import HandS.ListItems
import HandS.Zip
import KE.KDictZip
import HandS.Rev
import HandS.SortKw
import HandS.Wide
import HandS.Evl
import KE.DatumOrd
set_option Elab.async false
set_option linter.all false
set_option maxRecDepth 100000
set_option maxHeartbeats 4000000
namespace K29
abbrev Pr := Int × Int
/-- spans -/
def Good (s : List Pr) : Prop := (∀ p ∈ s, p.1 ≤ p.2) ∧ s.Pairwise (fun p q => p.2 + 2 ≤ q.1)
/-- the hours that pairs hold -/
def Mem (s : List Pr) (t : Int) : Prop := ∃ p ∈ s, p.1 ≤ t ∧ t ≤ p.2

theorem good_nil : Good [] := ⟨fun _ h => (by cases h), List.Pairwise.nil⟩
theorem mem_nil (t : Int) : ¬ Mem [] t := fun ⟨_, h, _⟩ => by cases h
theorem mem_append {s u : List Pr} {t : Int} : Mem (s ++ u) t ↔ Mem s t ∨ Mem u t := by
  constructor
  · rintro ⟨p, h, a⟩
    rcases List.mem_append.mp h with h | h
    · exact .inl ⟨p, h, a⟩
    · exact .inr ⟨p, h, a⟩
  · rintro (⟨p, h, a⟩ | ⟨p, h, a⟩)
    · exact ⟨p, List.mem_append_left _ h, a⟩
    · exact ⟨p, List.mem_append_right _ h, a⟩
theorem mem_one {p : Pr} {t : Int} : Mem [p] t ↔ p.1 ≤ t ∧ t ≤ p.2 := by
  constructor
  · rintro ⟨q, h, a⟩
    rw [List.mem_singleton] at h
    subst h
    exact a
  · intro a
    exact ⟨p, List.mem_singleton.mpr rfl, a⟩
theorem mem_cons {p : Pr} {s : List Pr} {t : Int} : Mem (p :: s) t ↔ (p.1 ≤ t ∧ t ≤ p.2) ∨ Mem s t := by
  rw [show p :: s = [p] ++ s from rfl, mem_append, mem_one]
theorem good_snoc {s : List Pr} {l : Pr} : Good (s ++ [l]) ↔ Good s ∧ l.1 ≤ l.2 ∧ ∀ p ∈ s, p.2 + 2 ≤ l.1 := by
  constructor
  · rintro ⟨a, b⟩
    rw [List.pairwise_append] at b
    refine ⟨⟨fun p h => a p (List.mem_append_left _ h), b.1⟩, a l (List.mem_append_right _ (List.mem_singleton.mpr rfl)), fun p h => b.2.2 p h l (List.mem_singleton.mpr rfl)⟩
  · rintro ⟨⟨a, b⟩, c, d⟩
    refine ⟨fun p h => ?_, ?_⟩
    · rcases List.mem_append.mp h with h | h
      · exact a p h
      · rw [List.mem_singleton] at h
        subst h
        exact c
    · rw [List.pairwise_append]
      refine ⟨b, List.pairwise_singleton _ _, fun p h q hq => ?_⟩
      rw [List.mem_singleton] at hq
      subst hq
      exact d p h
theorem good_cons {s : List Pr} {l : Pr} : Good (l :: s) ↔ l.1 ≤ l.2 ∧ (∀ p ∈ s, l.2 + 2 ≤ p.1) ∧ Good s := by
  constructor
  · rintro ⟨a, b⟩
    rw [List.pairwise_cons] at b
    exact ⟨a l List.mem_cons_self, b.1, fun p h => a p (List.mem_cons_of_mem _ h), b.2⟩
  · rintro ⟨a, b, c, d⟩
    refine ⟨fun p h => ?_, List.pairwise_cons.mpr ⟨b, d⟩⟩
    rcases List.mem_cons.mp h with rfl | h
    · exact a
    · exact c p h
theorem Good.low {s : List Pr} (g : Good s) {p : Pr} (h : p ∈ s) : Mem s p.1 := ⟨p, h, Int.le_refl _, g.1 p h⟩
theorem Good.high {s : List Pr} (g : Good s) {p : Pr} (h : p ∈ s) : Mem s p.2 := ⟨p, h, g.1 p h, Int.le_refl _⟩
/-- spans are told by what they hold -/
theorem good_unique : ∀ (s u : List Pr), Good s → Good u → (∀ t, Mem s t ↔ Mem u t) → s = u
  | [], [], _, _, _ => rfl
  | [], q :: u, _, gu, h => absurd ((h q.1).mpr (gu.low List.mem_cons_self)) (mem_nil _)
  | p :: s, [], gs, _, h => absurd ((h p.1).mp (gs.low List.mem_cons_self)) (mem_nil _)
  | p :: s, q :: u, gs, gu, h => by
    obtain ⟨p0, p1, gs'⟩ := good_cons.mp gs
    obtain ⟨q0, q1, gu'⟩ := good_cons.mp gu
    have below : ∀ t, Mem s t → p.2 + 2 ≤ t := fun t ⟨r, hr, a, _⟩ => by
      have := p1 r hr
      omega
    have below' : ∀ t, Mem u t → q.2 + 2 ≤ t := fun t ⟨r, hr, a, _⟩ => by
      have := q1 r hr
      omega
    have f1 : ∀ t, (p.1 ≤ t ∧ t ≤ p.2) ∨ Mem s t → (q.1 ≤ t ∧ t ≤ q.2) ∨ Mem u t := fun t x => mem_cons.mp ((h t).mp (mem_cons.mpr x))
    have f2 : ∀ t, (q.1 ≤ t ∧ t ≤ q.2) ∨ Mem u t → (p.1 ≤ t ∧ t ≤ p.2) ∨ Mem s t := fun t x => mem_cons.mp ((h t).mpr (mem_cons.mpr x))
    have e1 : p.1 = q.1 := by
      rcases f1 p.1 (.inl ⟨by omega, p0⟩) with a | a
      · rcases f2 q.1 (.inl ⟨by omega, q0⟩) with b | b
        · omega
        · have := below _ b
          omega
      · have a' := below' _ a
        rcases f2 q.1 (.inl ⟨by omega, q0⟩) with b | b
        · omega
        · have := below _ b
          omega
    have e2 : p.2 = q.2 := by
      rcases Int.lt_trichotomy p.2 q.2 with c | c | c
      · rcases f2 (p.2 + 1) (.inl ⟨by omega, by omega⟩) with b | b
        · omega
        · have := below _ b
          omega
      · exact c
      · rcases f1 (q.2 + 1) (.inl ⟨by omega, by omega⟩) with b | b
        · omega
        · have := below' _ b
          omega
    have e : p = q := Prod.ext e1 e2
    rw [e, good_unique s u gs' gu' fun t => ⟨fun a => ?_, fun a => ?_⟩]
    · have b := below t a
      rcases f1 t (.inr a) with c | c
      · omega
      · exact c
    · have b := below' t a
      rcases f2 t (.inr a) with c | c
      · omega
      · exact c

/-! ### tidy -/
structure TidyInv (ys : List Pr) (i : Nat) (told : List Pr) : Prop where
  good : Good told
  mem : ∀ t, Mem told t ↔ Mem (ys.take i) t
  low : ∀ p ∈ told, ∀ q ∈ ys.drop i, p.1 ≤ q.1
  len : told.length ≤ i
theorem take_snoc {α : Type} {l : List α} {i : Nat} {x : α} (h : l[i]? = some x) : l.take (i + 1) = l.take i ++ [x] := by
  rw [List.take_add_one, h]
  rfl
theorem drop_at {α : Type} {l : List α} {i : Nat} {x : α} (h : l[i]? = some x) : l.drop i = x :: l.drop (i + 1) := by
  obtain ⟨hi, e⟩ := List.getElem?_eq_some_iff.mp h
  rw [List.drop_eq_getElem_cons hi, e]
theorem tidy_start (ys : List Pr) : TidyInv ys 0 [] := ⟨good_nil, fun t => by rw [List.take_zero], fun _ h => (by cases h), Nat.le_refl _⟩
theorem tidy_join {ys t0 : List Pr} {i : Nat} {l y : Pr} (I : TidyInv ys i (t0 ++ [l])) (hy : ys[i]? = some y) (ho : y.1 ≤ y.2) (hs : ys.Pairwise fun p q => p.1 ≤ q.1) (h : y.1 ≤ l.2 + 1) :
    TidyInv ys (i + 1) (t0 ++ [(l.1, if y.2 > l.2 then y.2 else l.2)]) := by
  obtain ⟨g0, g1, g2⟩ := good_snoc.mp I.good
  have hd := drop_at hy
  have hl : l.1 ≤ y.1 := I.low l (List.mem_append_right _ (List.mem_singleton.mpr rfl)) y (by rw [hd]; exact List.mem_cons_self)
  have hsd : (ys.drop i).Pairwise fun p q => p.1 ≤ q.1 := hs.sublist (List.drop_sublist _ _)
  rw [hd, List.pairwise_cons] at hsd
  refine ⟨good_snoc.mpr ⟨g0, ?_, g2⟩, fun t => ?_, fun p hp q hq => ?_, ?_⟩
  · show l.1 ≤ if y.2 > l.2 then y.2 else l.2
    split <;> omega
  · rw [take_snoc hy, mem_append, mem_append, mem_one, mem_one]
    have e := I.mem t
    rw [mem_append, mem_one] at e
    rw [← e]
    show Mem t0 t ∨ (l.1 ≤ t ∧ t ≤ if y.2 > l.2 then y.2 else l.2) ↔ _
    constructor
    · rintro (a | a)
      · exact .inl (.inl a)
      · split at a
        · by_cases c : t ≤ l.2
          · exact .inl (.inr ⟨a.1, c⟩)
          · exact .inr ⟨by omega, a.2⟩
        · exact .inl (.inr a)
    · rintro ((a | a) | a)
      · exact .inl a
      · right
        split
        · exact ⟨a.1, by omega⟩
        · exact a
      · right
        split
        · exact ⟨by omega, a.2⟩
        · exact ⟨by omega, by omega⟩
  · have hq' : q ∈ ys.drop i := by rw [hd]; exact List.mem_cons_of_mem _ hq
    rcases List.mem_append.mp hp with hp | hp
    · exact I.low p (List.mem_append_left _ hp) q hq'
    · rw [List.mem_singleton] at hp
      subst hp
      exact I.low l (List.mem_append_right _ (List.mem_singleton.mpr rfl)) q hq'
  · have := I.len
    rw [List.length_append, List.length_singleton] at this ⊢
    omega
theorem tidy_new {ys told : List Pr} {i : Nat} {y : Pr} (I : TidyInv ys i told) (hy : ys[i]? = some y) (ho : y.1 ≤ y.2) (hs : ys.Pairwise fun p q => p.1 ≤ q.1) (h : told = [] ∨ ∃ t0 l, told = t0 ++ [l] ∧ l.2 + 1 < y.1) :
    TidyInv ys (i + 1) (told ++ [y]) := by
  have hd := drop_at hy
  have hsd : (ys.drop i).Pairwise fun p q => p.1 ≤ q.1 := hs.sublist (List.drop_sublist _ _)
  rw [hd, List.pairwise_cons] at hsd
  refine ⟨good_snoc.mpr ⟨I.good, ho, fun p hp => ?_⟩, fun t => ?_, fun p hp q hq => ?_, ?_⟩
  · rcases h with rfl | ⟨t0, l, rfl, hl⟩
    · cases hp
    · obtain ⟨g0, g1, g2⟩ := good_snoc.mp I.good
      rcases List.mem_append.mp hp with hp | hp
      · have := g2 p hp
        omega
      · rw [List.mem_singleton] at hp
        subst hp
        omega
  · rw [take_snoc hy, mem_append, mem_append, I.mem t]
  · have hq' : q ∈ ys.drop i := by rw [hd]; exact List.mem_cons_of_mem _ hq
    rcases List.mem_append.mp hp with hp | hp
    · exact I.low p hp q hq'
    · rw [List.mem_singleton] at hp
      subst hp
      exact hsd.1 q hq
  · have := I.len
    rw [List.length_append, List.length_singleton]
    omega
theorem mem_perm {xs ys : List Pr} (h : xs.Perm ys) (t : Int) : Mem xs t ↔ Mem ys t := by
  constructor
  · rintro ⟨p, a, b⟩
    exact ⟨p, h.mem_iff.mp a, b⟩
  · rintro ⟨p, a, b⟩
    exact ⟨p, h.mem_iff.mpr a, b⟩
theorem mem_filter (xs : List Pr) (t : Int) : Mem (xs.filter fun p => decide (p.1 ≤ p.2)) t ↔ Mem xs t := by
  constructor
  · rintro ⟨p, a, b⟩
    exact ⟨p, (List.mem_filter.mp a).1, b⟩
  · rintro ⟨p, a, b⟩
    exact ⟨p, List.mem_filter.mpr ⟨a, decide_eq_true (by omega)⟩, b⟩
theorem tidy_end {ys told : List Pr} (I : TidyInv ys ys.length told) : Good told ∧ (∀ t, Mem told t ↔ Mem ys t) ∧ told.length ≤ ys.length := by
  refine ⟨I.good, fun t => ?_, I.len⟩
  rw [I.mem t, List.take_length]

/-! ### both -/
structure BothInv (xs ys : List Pr) (i j : Nat) (told : List Pr) : Prop where
  good : Good told
  sound : ∀ t, Mem told t → Mem xs t ∧ Mem ys t
  full : ∀ t, Mem xs t → Mem ys t → Mem told t ∨ (Mem (xs.drop i) t ∧ Mem (ys.drop j) t)
  gap : ∀ p ∈ told, ∀ x ∈ xs.drop i, ∀ y ∈ ys.drop j, p.2 + 2 ≤ x.1 ∨ p.2 + 2 ≤ y.1
  len : told.length ≤ i + j
theorem both_start (xs ys : List Pr) : BothInv xs ys 0 0 [] := ⟨good_nil, fun t h => absurd h (mem_nil t), fun t a b => .inr ⟨a, b⟩, fun _ h => (by cases h), Nat.le_refl _⟩
theorem Good.drop {s : List Pr} (g : Good s) (i : Nat) : Good (s.drop i) := ⟨fun p h => g.1 p (List.mem_of_mem_drop h), g.2.sublist (List.drop_sublist _ _)⟩
theorem Good.take {s : List Pr} (g : Good s) (i : Nat) : Good (s.take i) := ⟨fun p h => g.1 p (List.mem_of_mem_take h), g.2.sublist (List.take_sublist _ _)⟩
/-- what a turn of both puts to what is told -/
def bothPut (x y : Pr) (told : List Pr) : List Pr :=
  if (if y.1 > x.1 then y.1 else x.1) ≤ (if y.2 < x.2 then y.2 else x.2) then told ++ [(if y.1 > x.1 then y.1 else x.1, if y.2 < x.2 then y.2 else x.2)] else told
theorem mem_put (x y : Pr) (told : List Pr) (t : Int) : Mem (bothPut x y told) t ↔ Mem told t ∨ ((x.1 ≤ t ∧ t ≤ x.2) ∧ (y.1 ≤ t ∧ t ≤ y.2)) := by
  unfold bothPut
  by_cases c : (if y.1 > x.1 then y.1 else x.1) ≤ (if y.2 < x.2 then y.2 else x.2)
  · rw [if_pos c, mem_append, mem_one]
    show Mem told t ∨ ((if y.1 > x.1 then y.1 else x.1) ≤ t ∧ t ≤ (if y.2 < x.2 then y.2 else x.2)) ↔ _
    have : ((if y.1 > x.1 then y.1 else x.1) ≤ t ∧ t ≤ (if y.2 < x.2 then y.2 else x.2)) ↔ ((x.1 ≤ t ∧ t ≤ x.2) ∧ (y.1 ≤ t ∧ t ≤ y.2)) := by
      split <;> split <;> omega
    rw [this]
  · rw [if_neg c]
    constructor
    · exact .inl
    · rintro (a | a)
      · exact a
      · exfalso
        apply c
        split <;> split <;> omega
theorem put_facts {xs ys told : List Pr} {i j : Nat} {x y : Pr} (I : BothInv xs ys i j told) (gx : Good xs) (gy : Good ys) (hx : xs[i]? = some x) (hy : ys[j]? = some y) :
    Good (bothPut x y told) ∧ (∀ t, Mem (bothPut x y told) t → Mem xs t ∧ Mem ys t) ∧ (bothPut x y told).length ≤ i + j + 1 ∧ (∀ p ∈ bothPut x y told, p ∈ told ∨ (p.2 ≤ x.2 ∧ p.2 ≤ y.2)) := by
  have hxd := drop_at hx
  have hyd := drop_at hy
  have mx : x ∈ xs := List.mem_of_getElem? hx
  have my : y ∈ ys := List.mem_of_getElem? hy
  refine ⟨?_, fun t h => ?_, ?_, ?_⟩
  · unfold bothPut
    by_cases c : (if y.1 > x.1 then y.1 else x.1) ≤ (if y.2 < x.2 then y.2 else x.2)
    · rw [if_pos c]
      refine good_snoc.mpr ⟨I.good, c, fun p hp => ?_⟩
      have := I.gap p hp x (by rw [hxd]; exact List.mem_cons_self) y (by rw [hyd]; exact List.mem_cons_self)
      show p.2 + 2 ≤ if y.1 > x.1 then y.1 else x.1
      split <;> omega
    · rw [if_neg c]
      exact I.good
  · rcases (mem_put x y told t).mp h with h | ⟨a, b⟩
    · exact I.sound t h
    · exact ⟨⟨x, mx, a⟩, ⟨y, my, b⟩⟩
  · have := I.len
    unfold bothPut
    by_cases c : (if y.1 > x.1 then y.1 else x.1) ≤ (if y.2 < x.2 then y.2 else x.2)
    · rw [if_pos c, List.length_append, List.length_singleton]
      omega
    · rw [if_neg c]
      omega
  · intro p hp
    unfold bothPut at hp
    by_cases c : (if y.1 > x.1 then y.1 else x.1) ≤ (if y.2 < x.2 then y.2 else x.2)
    · rw [if_pos c] at hp
      rcases List.mem_append.mp hp with hp | hp
      · exact .inl hp
      · rw [List.mem_singleton] at hp
        subst hp
        right
        show (if y.2 < x.2 then y.2 else x.2) ≤ x.2 ∧ (if y.2 < x.2 then y.2 else x.2) ≤ y.2
        split <;> omega
    · rw [if_neg c] at hp
      exact .inl hp
theorem both_left {xs ys told : List Pr} {i j : Nat} {x y : Pr} (I : BothInv xs ys i j told) (gx : Good xs) (gy : Good ys) (hx : xs[i]? = some x) (hy : ys[j]? = some y) (h : x.2 < y.2) :
    BothInv xs ys (i + 1) j (bothPut x y told) := by
  obtain ⟨f1, f2, f3, f4⟩ := put_facts I gx gy hx hy
  have hxd := drop_at hx
  have hyd := drop_at hy
  have gxd := gx.drop i
  have gyd := gy.drop j
  rw [hxd, good_cons] at gxd
  rw [hyd, good_cons] at gyd
  refine ⟨f1, f2, fun t a b => ?_, fun p hp x' hx' y' hy' => ?_, by omega⟩
  · rcases I.full t a b with c | ⟨c, d⟩
    · exact .inl ((mem_put x y told t).mpr (.inl c))
    · rw [hxd, mem_cons] at c
      rcases c with c | c
      · rw [hyd, mem_cons] at d
        rcases d with d | ⟨q, hq, d, _⟩
        · exact .inl ((mem_put x y told t).mpr (.inr ⟨c, d⟩))
        · have := gyd.2.1 q hq
          omega
      · exact .inr ⟨c, d⟩
  · rcases f4 p hp with hp | hp
    · exact I.gap p hp x' (by rw [hxd]; exact List.mem_cons_of_mem _ hx') y' hy'
    · have := gxd.2.1 x' hx'
      omega
theorem both_right {xs ys told : List Pr} {i j : Nat} {x y : Pr} (I : BothInv xs ys i j told) (gx : Good xs) (gy : Good ys) (hx : xs[i]? = some x) (hy : ys[j]? = some y) (h : ¬ x.2 < y.2) :
    BothInv xs ys i (j + 1) (bothPut x y told) := by
  obtain ⟨f1, f2, f3, f4⟩ := put_facts I gx gy hx hy
  have hxd := drop_at hx
  have hyd := drop_at hy
  have gxd := gx.drop i
  have gyd := gy.drop j
  rw [hxd, good_cons] at gxd
  rw [hyd, good_cons] at gyd
  refine ⟨f1, f2, fun t a b => ?_, fun p hp x' hx' y' hy' => ?_, by omega⟩
  · rcases I.full t a b with c | ⟨c, d⟩
    · exact .inl ((mem_put x y told t).mpr (.inl c))
    · rw [hyd, mem_cons] at d
      rcases d with d | d
      · rw [hxd, mem_cons] at c
        rcases c with c | ⟨q, hq, c, _⟩
        · exact .inl ((mem_put x y told t).mpr (.inr ⟨c, d⟩))
        · have := gxd.2.1 q hq
          omega
      · exact .inr ⟨c, d⟩
  · rcases f4 p hp with hp | hp
    · exact I.gap p hp x' hx' y' (by rw [hyd]; exact List.mem_cons_of_mem _ hy')
    · have := gyd.2.1 y' hy'
      omega
theorem both_end {xs ys told : List Pr} {i j : Nat} (I : BothInv xs ys i j told) (h : xs.length ≤ i ∨ ys.length ≤ j) : Good told ∧ ∀ t, Mem told t ↔ Mem xs t ∧ Mem ys t := by
  refine ⟨I.good, fun t => ⟨I.sound t, fun ⟨a, b⟩ => ?_⟩⟩
  rcases I.full t a b with c | ⟨c, d⟩
  · exact c
  · rcases h with h | h
    · rw [List.drop_of_length_le h] at c
      exact absurd c (mem_nil t)
    · rw [List.drop_of_length_le h] at d
      exact absurd d (mem_nil t)

/-! ### without -/
structure OutInv (xs ys : List Pr) (i : Nat) (told : List Pr) : Prop where
  good : Good told
  mem : ∀ t, Mem told t ↔ Mem (xs.take i) t ∧ ¬ Mem ys t
  len : told.length ≤ i * (ys.length + 1)
structure InInv (xs ys : List Pr) (i : Nat) (x : Pr) (j : Nat) (begin : Int) (told : List Pr) : Prop where
  good : Good told
  lo : x.1 ≤ begin
  mem : ∀ t, Mem told t ↔ (Mem (xs.take i) t ∧ ¬ Mem ys t) ∨ ((x.1 ≤ t ∧ t ≤ x.2) ∧ t < begin ∧ ¬ Mem ys t)
  gap : ∀ p ∈ told, p.2 + 2 ≤ begin
  past : ∀ t, begin ≤ t → t ≤ x.2 → ¬ Mem (ys.take j) t
  len : told.length ≤ i * (ys.length + 1) + j
theorem out_start (xs ys : List Pr) : OutInv xs ys 0 [] := ⟨good_nil, fun t => by
  rw [List.take_zero]
  exact ⟨fun h => absurd h (mem_nil t), fun h => absurd h.1 (mem_nil t)⟩, Nat.zero_le _⟩
theorem take_below {xs : List Pr} {i : Nat} {x : Pr} (gx : Good xs) (hx : xs[i]? = some x) (t : Int) (h : Mem (xs.take i) t) : t + 2 ≤ x.1 := by
  have g := gx.take (i + 1)
  rw [take_snoc hx, good_snoc] at g
  obtain ⟨p, hp, a, b⟩ := h
  have := g.2.2 p hp
  omega
theorem in_start {xs ys told : List Pr} {i : Nat} {x : Pr} (I : OutInv xs ys i told) (gx : Good xs) (hx : xs[i]? = some x) : InInv xs ys i x 0 x.1 told := by
  refine ⟨I.good, Int.le_refl _, fun t => ?_, fun p hp => ?_, fun t _ _ => ?_, by have := I.len; omega⟩
  · rw [I.mem t]
    constructor
    · exact .inl
    · rintro (a | a)
      · exact a
      · omega
  · have m := (I.mem p.2).mp (I.good.high hp)
    exact take_below gx hx _ m.1
  · rw [List.take_zero]
    exact mem_nil t
/-- a gone pair that does not touch -/
theorem in_skip {xs ys told : List Pr} {i j : Nat} {x y : Pr} {b : Int} (I : InInv xs ys i x j b told) (hy : ys[j]? = some y) (h : ¬ (y.1 ≤ x.2 ∧ y.2 ≥ b)) : InInv xs ys i x (j + 1) b told := by
  refine ⟨I.good, I.lo, I.mem, I.gap, fun t h1 h2 => ?_, by have := I.len; omega⟩
  rw [take_snoc hy, mem_append, mem_one]
  rintro (a | a)
  · exact I.past t h1 h2 a
  · exact h ⟨by omega, by omega⟩
theorem in_cut {xs ys told : List Pr} {i j : Nat} {x y : Pr} {b : Int} (I : InInv xs ys i x j b told) (gy : Good ys) (hy : ys[j]? = some y) (h1 : y.1 ≤ x.2) (h2 : y.2 ≥ b) :
    InInv xs ys i x (j + 1) (y.2 + 1) (if y.1 > b then told ++ [(b, y.1 - 1)] else told) := by
  have my : y ∈ ys := List.mem_of_getElem? hy
  have y0 := gy.1 y my
  have hyd := drop_at hy
  have gyd := gy.drop j
  rw [hyd, good_cons] at gyd
  have hlo := I.lo
  -- an hour from b to below y is not held by the other
  have nom : ∀ t, b ≤ t → t < y.1 → ¬ Mem ys t := fun t a c m => by
    rw [← List.take_append_drop j ys, mem_append] at m
    rcases m with m | m
    · exact I.past t a (by omega) m
    · rw [hyd, mem_cons] at m
      rcases m with m | ⟨q, hq, m, _⟩
      · omega
      · have := gyd.2.1 q hq
        omega
  have yes : ∀ t, y.1 ≤ t → t ≤ y.2 → Mem ys t := fun t a c => ⟨y, my, a, c⟩
  by_cases c : y.1 > b
  · rw [if_pos c]
    refine ⟨good_snoc.mpr ⟨I.good, show b ≤ y.1 - 1 by omega, I.gap⟩, by omega, fun t => ?_, fun p hp => ?_, fun t a1 a2 => ?_, ?_⟩
    · rw [mem_append, mem_one, I.mem t]
      show (_ ∨ (b ≤ t ∧ t ≤ y.1 - 1)) ↔ _
      constructor
      · rintro ((a | a) | a)
        · exact .inl a
        · exact .inr ⟨a.1, by omega, a.2.2⟩
        · exact .inr ⟨by omega, by omega, nom t a.1 (by omega)⟩
      · rintro (a | ⟨a1, a2, a3⟩)
        · exact .inl (.inl a)
        · by_cases d : t < b
          · exact .inl (.inr ⟨a1, d, a3⟩)
          · right
            refine ⟨by omega, ?_⟩
            by_cases e : y.1 ≤ t
            · exact absurd (yes t e (by omega)) a3
            · omega
    · rcases List.mem_append.mp hp with hp | hp
      · have := I.gap p hp
        omega
      · rw [List.mem_singleton] at hp
        subst hp
        show y.1 - 1 + 2 ≤ y.2 + 1
        omega
    · rw [take_snoc hy, mem_append, mem_one]
      rintro (a | a)
      · exact I.past t (by omega) a2 a
      · omega
    · have := I.len
      rw [List.length_append, List.length_singleton]
      omega
  · rw [if_neg c]
    refine ⟨I.good, by omega, fun t => ?_, fun p hp => ?_, fun t a1 a2 => ?_, by have := I.len; omega⟩
    · rw [I.mem t]
      constructor
      · rintro (a | a)
        · exact .inl a
        · exact .inr ⟨a.1, by omega, a.2.2⟩
      · rintro (a | ⟨a1, a2, a3⟩)
        · exact .inl a
        · by_cases d : t < b
          · exact .inr ⟨a1, d, a3⟩
          · exact absurd (yes t (by omega) (by omega)) a3
    · have := I.gap p hp
      omega
    · rw [take_snoc hy, mem_append, mem_one]
      rintro (a | a)
      · exact I.past t (by omega) a2 a
      · omega
theorem out_next {xs ys told : List Pr} {i : Nat} {x : Pr} {b : Int} (I : InInv xs ys i x ys.length b told) (gx : Good xs) (hx : xs[i]? = some x) :
    OutInv xs ys (i + 1) (if b ≤ x.2 then told ++ [(b, x.2)] else told) := by
  have hlo := I.lo
  have hp := I.past
  rw [List.take_length] at hp
  by_cases c : b ≤ x.2
  · rw [if_pos c]
    refine ⟨good_snoc.mpr ⟨I.good, c, I.gap⟩, fun t => ?_, ?_⟩
    · rw [mem_append, mem_one, I.mem t, take_snoc hx, mem_append, mem_one]
      show (_ ∨ (b ≤ t ∧ t ≤ x.2)) ↔ _
      constructor
      · rintro ((a | a) | a)
        · exact ⟨.inl a.1, a.2⟩
        · exact ⟨.inr a.1, a.2.2⟩
        · exact ⟨.inr ⟨by omega, a.2⟩, hp t a.1 a.2⟩
      · rintro ⟨a | a, n⟩
        · exact .inl (.inl ⟨a, n⟩)
        · by_cases d : t < b
          · exact .inl (.inr ⟨a, d, n⟩)
          · exact .inr ⟨by omega, a.2⟩
    · have := I.len
      rw [List.length_append, List.length_singleton, Nat.add_mul]
      omega
  · rw [if_neg c]
    refine ⟨I.good, fun t => ?_, ?_⟩
    · rw [I.mem t, take_snoc hx, mem_append, mem_one]
      constructor
      · rintro (a | a)
        · exact ⟨.inl a.1, a.2⟩
        · exact ⟨.inr a.1, a.2.2⟩
      · rintro ⟨a | a, n⟩
        · exact .inl ⟨a, n⟩
        · exact .inr ⟨a, by omega, n⟩
    · have := I.len
      rw [Nat.add_mul]
      omega
theorem out_end {xs ys told : List Pr} (I : OutInv xs ys xs.length told) : Good told ∧ ∀ t, Mem told t ↔ Mem xs t ∧ ¬ Mem ys t := by
  refine ⟨I.good, fun t => ?_⟩
  rw [I.mem t, List.take_length]

/-! ### marks -/
def Marked (marks : List Bool) (f t : Int) : Prop := ∃ j : Nat, marks[j]? = some true ∧ t = f + (j : Int)
def total (s : List Pr) : Int := (s.map fun p => p.2 - p.1 + 1).sum
def trues (m : List Bool) : Nat := (m.filter id).length
structure RunsInv (marks : List Bool) (f : Int) (k : Nat) (told : List Pr) : Prop where
  good : Good told
  mem : ∀ t, Mem told t ↔ Marked (marks.take k) f t
  tot : total told = (trues (marks.take k) : Int)
  len : told.length ≤ k
theorem marked_nil (f t : Int) : ¬ Marked [] f t := fun ⟨j, h, _⟩ => by simp at h
theorem marked_snoc {m : List Bool} {b : Bool} {f t : Int} : Marked (m ++ [b]) f t ↔ Marked m f t ∨ (b = true ∧ t = f + (m.length : Int)) := by
  constructor
  · rintro ⟨j, h, e⟩
    rcases Nat.lt_trichotomy j m.length with c | c | c
    · rw [List.getElem?_append_left c] at h
      exact .inl ⟨j, h, e⟩
    · subst c
      rw [List.getElem?_concat_length] at h
      exact .inr ⟨Option.some.inj h, e⟩
    · rw [List.getElem?_eq_none (by rw [List.length_append, List.length_singleton]; omega)] at h
      cases h
  · rintro (⟨j, h, e⟩ | ⟨rfl, e⟩)
    · refine ⟨j, ?_, e⟩
      rw [List.getElem?_append_left (List.getElem?_eq_some_iff.mp h).1]
      exact h
    · refine ⟨m.length, ?_, e⟩
      rw [List.getElem?_concat_length]
theorem marked_lt {m : List Bool} {f t : Int} (h : Marked m f t) : f ≤ t ∧ t < f + (m.length : Int) := by
  obtain ⟨j, h, e⟩ := h
  have := (List.getElem?_eq_some_iff.mp h).1
  omega
theorem total_snoc (s : List Pr) (p : Pr) : total (s ++ [p]) = total s + (p.2 - p.1 + 1) := by
  unfold total
  rw [List.map_append, List.sum_append]
  show _ + (p.2 - p.1 + 1 + 0) = _
  omega
theorem trues_snoc (m : List Bool) (b : Bool) : trues (m ++ [b]) = trues m + (if b then 1 else 0) := by
  unfold trues
  rw [List.filter_append, List.length_append]
  cases b <;> rfl
theorem runs_start (marks : List Bool) (f : Int) : RunsInv marks f 0 [] := ⟨good_nil, fun t => by
  rw [List.take_zero]
  exact ⟨fun h => absurd h (mem_nil t), fun h => absurd h (marked_nil f t)⟩, rfl, Nat.le_refl _⟩
theorem take_len {α : Type} {l : List α} {k : Nat} {x : α} (h : l[k]? = some x) : (l.take k).length = k := by
  have := (List.getElem?_eq_some_iff.mp h).1
  rw [List.length_take]
  omega
theorem runs_off {marks : List Bool} {f : Int} {k : Nat} {told : List Pr} (I : RunsInv marks f k told) (h : marks[k]? = some false) : RunsInv marks f (k + 1) told := by
  refine ⟨I.good, fun t => ?_, ?_, by have := I.len; omega⟩
  · rw [take_snoc h, marked_snoc, I.mem t]
    simp
  · rw [take_snoc h, trues_snoc, I.tot]
    simp
/-- behind a mark the last pair ends there -/
theorem runs_last {marks : List Bool} {f : Int} {k : Nat} {told : List Pr} (I : RunsInv marks f (k + 1) told) (h : marks[k]? = some true) : ∃ t0 l, told = t0 ++ [l] ∧ l.2 = f + (k : Int) := by
  have hm : Mem told (f + (k : Int)) := by
    rw [I.mem]
    refine ⟨k, ?_, rfl⟩
    rw [List.getElem?_take_of_lt (Nat.lt_succ_self k)]
    exact h
  obtain ⟨p, hp, a, b⟩ := hm
  have up : ∀ t, Mem told t → t ≤ f + (k : Int) := fun t m => by
    have := (marked_lt ((I.mem t).mp m)).2
    have e : (marks.take (k + 1)).length ≤ k + 1 := by
      rw [List.length_take]
      omega
    omega
  have hne : told ≠ [] := fun z => by rw [z] at hp; cases hp
  refine ⟨told.dropLast, told.getLast hne, (List.dropLast_concat_getLast hne).symm, ?_⟩
  have g := I.good
  rw [← List.dropLast_concat_getLast hne, good_snoc] at g
  have hl := up _ (I.good.high (List.getLast_mem hne))
  have hl1 := up _ (I.good.low (List.getLast_mem hne))
  rw [← List.dropLast_concat_getLast hne] at hp
  rcases List.mem_append.mp hp with hp | hp
  · have := g.2.2 p hp
    omega
  · rw [List.mem_singleton] at hp
    subst hp
    omega
theorem runs_more {marks : List Bool} {f : Int} {k : Nat} {t0 : List Pr} {l : Pr} (I : RunsInv marks f (k + 1) (t0 ++ [l])) (h0 : marks[k]? = some true) (h : marks[k + 1]? = some true) :
    RunsInv marks f (k + 1 + 1) (t0 ++ [(l.1, f + ((k + 1 : Nat) : Int))]) := by
  obtain ⟨t1, l1, e, el⟩ := runs_last I h0
  have e' := List.append_inj' e rfl
  have e2 : l = l1 := List.head_eq_of_cons_eq e'.2
  subst e2
  obtain ⟨g0, g1, g2⟩ := good_snoc.mp I.good
  refine ⟨good_snoc.mpr ⟨g0, show l.1 ≤ f + ((k + 1 : Nat) : Int) by omega, g2⟩, fun t => ?_, ?_, ?_⟩
  · have m := I.mem t
    rw [mem_append, mem_one] at m
    rw [take_snoc h, marked_snoc, ← m, mem_append, mem_one, take_len h]
    show (_ ∨ (l.1 ≤ t ∧ t ≤ f + ((k + 1 : Nat) : Int))) ↔ _
    constructor
    · rintro (a | a)
      · exact .inl (.inl a)
      · by_cases c : t = f + ((k + 1 : Nat) : Int)
        · exact .inr ⟨rfl, c⟩
        · exact .inl (.inr ⟨a.1, by omega⟩)
    · rintro ((a | a) | a)
      · exact .inl a
      · exact .inr ⟨a.1, by omega⟩
      · exact .inr ⟨by omega, by omega⟩
  · have q := I.tot
    rw [total_snoc] at q ⊢
    rw [take_snoc h, trues_snoc]
    show total t0 + (f + ((k + 1 : Nat) : Int) - l.1 + 1) = _
    simp only [if_true]
    omega
  · have := I.len
    rw [List.length_append, List.length_singleton] at this ⊢
    omega
theorem runs_new {marks : List Bool} {f : Int} {k : Nat} {told : List Pr} (I : RunsInv marks f k told) (h : marks[k]? = some true) (h0 : k = 0 ∨ ∃ j, k = j + 1 ∧ marks[j]? = some false) :
    RunsInv marks f (k + 1) (told ++ [(f + (k : Int), f + (k : Int))]) := by
  refine ⟨good_snoc.mpr ⟨I.good, Int.le_refl _, fun p hp => ?_⟩, fun t => ?_, ?_, ?_⟩
  · show p.2 + 2 ≤ f + (k : Int)
    obtain ⟨j, hj, e⟩ := (I.mem p.2).mp (I.good.high hp)
    have hjk : j < k := by
      have := (List.getElem?_eq_some_iff.mp hj).1
      rw [List.length_take] at this
      omega
    rw [List.getElem?_take_of_lt hjk] at hj
    rcases h0 with rfl | ⟨i, rfl, hi⟩
    · omega
    · have : j ≠ i := fun z => by
        subst z
        rw [hj] at hi
        cases hi
      omega
  · rw [mem_append, mem_one, I.mem t, take_snoc h, marked_snoc, take_len h]
    show (_ ∨ (f + (k : Int) ≤ t ∧ t ≤ f + (k : Int))) ↔ _
    constructor
    · rintro (a | a)
      · exact .inl a
      · exact .inr ⟨rfl, by omega⟩
    · rintro (a | a)
      · exact .inl a
      · exact .inr ⟨by omega, by omega⟩
  · rw [total_snoc, take_snoc h, trues_snoc, I.tot]
    show _ + (f + (k : Int) - (f + (k : Int)) + 1) = _
    simp only [if_true]
    omega
  · have := I.len
    rw [List.length_append, List.length_singleton]
    omega
/-- what runs of marks are -/
structure IsRuns (marks : List Bool) (f : Int) (ps : List Pr) : Prop where
  good : Good ps
  mem : ∀ t, Mem ps t ↔ Marked marks f t
theorem runs_end {marks : List Bool} {f : Int} {told : List Pr} (I : RunsInv marks f marks.length told) : IsRuns marks f told ∧ total told = (trues marks : Int) ∧ told.length ≤ marks.length := by
  have m := I.mem
  have t := I.tot
  rw [List.take_length] at m t
  exact ⟨⟨I.good, m⟩, t, I.len⟩
theorem IsRuns.unique {marks : List Bool} {f : Int} {ps qs : List Pr} (a : IsRuns marks f ps) (b : IsRuns marks f qs) : ps = qs :=
  good_unique _ _ a.good b.good fun t => (a.mem t).trans (b.mem t).symm
theorem runs_at (marks : List Bool) (f : Int) : ∀ k, k ≤ marks.length → ∃ told, RunsInv marks f k told
  | 0, _ => ⟨[], runs_start marks f⟩
  | k + 1, h => by
    obtain ⟨told, I⟩ := runs_at marks f k (by omega)
    have hk : k < marks.length := by omega
    have e := List.getElem?_eq_getElem hk
    cases hb : marks[k] with
    | false =>
      rw [hb] at e
      exact ⟨told, runs_off I e⟩
    | true =>
      rw [hb] at e
      match k, I, e with
      | 0, I, e => exact ⟨_, runs_new I e (.inl rfl)⟩
      | j + 1, I, e =>
        have hj : j < marks.length := by omega
        have ej := List.getElem?_eq_getElem hj
        cases hc : marks[j] with
        | false =>
          rw [hc] at ej
          exact ⟨_, runs_new I e (.inr ⟨j, rfl, ej⟩)⟩
        | true =>
          rw [hc] at ej
          obtain ⟨t0, l, rfl, _⟩ := runs_last I ej
          exact ⟨_, runs_more I ej e⟩
theorem IsRuns.tot {marks : List Bool} {f : Int} {ps : List Pr} (a : IsRuns marks f ps) : total ps = (trues marks : Int) := by
  obtain ⟨told, I⟩ := runs_at marks f marks.length (Nat.le_refl _)
  obtain ⟨b, t, _⟩ := runs_end I
  rw [a.unique b, t]
theorem IsRuns.len {marks : List Bool} {f : Int} {ps : List Pr} (a : IsRuns marks f ps) : ps.length ≤ marks.length := by
  obtain ⟨told, I⟩ := runs_at marks f marks.length (Nat.le_refl _)
  obtain ⟨b, _, t⟩ := runs_end I
  rw [a.unique b]
  exact t

/-! ### the marks of two -/
theorem marked_both {m u : List Bool} {f t : Int} : Marked (List.zipWith (· && ·) m u) f t ↔ Marked m f t ∧ Marked u f t := by
  constructor
  · rintro ⟨j, h, e⟩
    rw [List.getElem?_zipWith] at h
    cases h1 : m[j]? with
    | none => rw [h1] at h; simp at h
    | some a =>
      cases h2 : u[j]? with
      | none => rw [h1, h2] at h; simp at h
      | some b =>
        rw [h1, h2] at h
        have : (a && b) = true := by simpa using h
        obtain ⟨ha, hb⟩ := Bool.and_eq_true_iff.mp this
        exact ⟨⟨j, by rw [h1, ha], e⟩, ⟨j, by rw [h2, hb], e⟩⟩
  · rintro ⟨⟨j, h1, e⟩, ⟨i, h2, e'⟩⟩
    have : i = j := by omega
    subst this
    refine ⟨i, ?_, e⟩
    rw [List.getElem?_zipWith, h1, h2]
    rfl
theorem marked_either {m u : List Bool} {f t : Int} (hl : m.length = u.length) : Marked (List.zipWith (· || ·) m u) f t ↔ Marked m f t ∨ Marked u f t := by
  constructor
  · rintro ⟨j, h, e⟩
    rw [List.getElem?_zipWith] at h
    cases h1 : m[j]? with
    | none => rw [h1] at h; simp at h
    | some a =>
      cases h2 : u[j]? with
      | none => rw [h1, h2] at h; simp at h
      | some b =>
        rw [h1, h2] at h
        have : (a || b) = true := by simpa using h
        rcases Bool.or_eq_true_iff.mp this with ha | hb
        · exact .inl ⟨j, by rw [h1, ha], e⟩
        · exact .inr ⟨j, by rw [h2, hb], e⟩
  · rintro (⟨j, h1, e⟩ | ⟨j, h2, e⟩)
    · have hj := (List.getElem?_eq_some_iff.mp h1).1
      refine ⟨j, ?_, e⟩
      rw [List.getElem?_zipWith, h1, List.getElem?_eq_getElem (hl ▸ hj)]
      simp
    · have hj := (List.getElem?_eq_some_iff.mp h2).1
      refine ⟨j, ?_, e⟩
      rw [List.getElem?_zipWith, h2, List.getElem?_eq_getElem (hl.symm ▸ hj)]
      simp
theorem marked_without {m u : List Bool} {f t : Int} (hl : m.length = u.length) : Marked (List.zipWith (fun a b => a && !b) m u) f t ↔ Marked m f t ∧ ¬ Marked u f t := by
  constructor
  · rintro ⟨j, h, e⟩
    rw [List.getElem?_zipWith] at h
    cases h1 : m[j]? with
    | none => rw [h1] at h; simp at h
    | some a =>
      cases h2 : u[j]? with
      | none => rw [h1, h2] at h; simp at h
      | some b =>
        rw [h1, h2] at h
        have : (a && !b) = true := by simpa using h
        obtain ⟨ha, hb⟩ := Bool.and_eq_true_iff.mp this
        refine ⟨⟨j, by rw [h1, ha], e⟩, fun ⟨i, h3, e'⟩ => ?_⟩
        have : i = j := by omega
        subst this
        rw [h2] at h3
        have : b = true := Option.some.inj h3
        subst this
        cases hb
  · rintro ⟨⟨j, h1, e⟩, n⟩
    have hj := (List.getElem?_eq_some_iff.mp h1).1
    have h2 := List.getElem?_eq_getElem (hl ▸ hj)
    refine ⟨j, ?_, e⟩
    rw [List.getElem?_zipWith, h1, h2]
    cases hb : u[j] with
    | false => rfl
    | true => exact absurd ⟨j, by rw [h2, hb], e⟩ n
theorem IsRuns.both {m u : List Bool} {f : Int} {ps qs rs : List Pr} (a : IsRuns m f ps) (b : IsRuns u f qs) (g : Good rs) (h : ∀ t, Mem rs t ↔ Mem ps t ∧ Mem qs t) : IsRuns (List.zipWith (· && ·) m u) f rs :=
  ⟨g, fun t => by rw [h t, a.mem t, b.mem t, marked_both]⟩
theorem IsRuns.either {m u : List Bool} {f : Int} {ps qs rs : List Pr} (hl : m.length = u.length) (a : IsRuns m f ps) (b : IsRuns u f qs) (g : Good rs) (h : ∀ t, Mem rs t ↔ Mem ps t ∨ Mem qs t) : IsRuns (List.zipWith (· || ·) m u) f rs :=
  ⟨g, fun t => by rw [h t, a.mem t, b.mem t, marked_either hl]⟩
theorem IsRuns.without {m u : List Bool} {f : Int} {ps qs rs : List Pr} (hl : m.length = u.length) (a : IsRuns m f ps) (b : IsRuns u f qs) (g : Good rs) (h : ∀ t, Mem rs t ↔ Mem ps t ∧ ¬ Mem qs t) : IsRuns (List.zipWith (fun a b => a && !b) m u) f rs :=
  ⟨g, fun t => by rw [h t, a.mem t, b.mem t, marked_without hl]⟩

/-! ### first_from, last_to -/
/-- the least of the hours with C, if any -/
def Least (C : Int → Prop) : Option Int → Prop
  | some v => C v ∧ ∀ t, C t → v ≤ t
  | none => ∀ t, ¬ C t
def Greatest (C : Int → Prop) : Option Int → Prop
  | some v => C v ∧ ∀ t, C t → t ≤ v
  | none => ∀ t, ¬ C t
theorem Least.unique {C D : Int → Prop} (h : ∀ t, C t ↔ D t) : ∀ {a b : Option Int}, Least C a → Least D b → a = b
  | none, none, _, _ => rfl
  | none, some v, x, y => absurd ((h v).mpr y.1) (x v)
  | some v, none, x, y => absurd ((h v).mp x.1) (y v)
  | some v, some u, x, y => by
    have a := x.2 u ((h u).mpr y.1)
    have b := y.2 v ((h v).mp x.1)
    rw [show v = u by omega]
theorem Greatest.unique {C D : Int → Prop} (h : ∀ t, C t ↔ D t) : ∀ {a b : Option Int}, Greatest C a → Greatest D b → a = b
  | none, none, _, _ => rfl
  | none, some v, x, y => absurd ((h v).mpr y.1) (x v)
  | some v, none, x, y => absurd ((h v).mp x.1) (y v)
  | some v, some u, x, y => by
    have a := x.2 u ((h u).mpr y.1)
    have b := y.2 v ((h v).mp x.1)
    rw [show v = u by omega]
theorem first_hit {ps : List Pr} {h : Int} {i : Nat} {p : Pr} (g : Good ps) (hp : ps[i]? = some p) (no : ∀ q ∈ ps.take i, ¬ h ≤ q.2) (hh : h ≤ p.2) : Least (fun t => Mem ps t ∧ h ≤ t) (some (if h > p.1 then h else p.1)) := by
  have m : p ∈ ps := List.mem_of_getElem? hp
  have p0 := g.1 p m
  have gd := g.drop i
  have hd := drop_at hp
  rw [hd, good_cons] at gd
  refine ⟨⟨⟨p, m, ?_⟩, ?_⟩, fun t ⟨hm, ht⟩ => ?_⟩
  · split <;> omega
  · split <;> omega
  · rw [← List.take_append_drop i ps, mem_append] at hm
    rcases hm with ⟨q, hq, a, b⟩ | hm
    · have := no q hq
      omega
    · rw [hd, mem_cons] at hm
      rcases hm with hm | ⟨q, hq, a, b⟩
      · split <;> omega
      · have := gd.2.1 q hq
        split <;> omega
theorem first_none {ps : List Pr} {h : Int} (no : ∀ q ∈ ps, ¬ h ≤ q.2) : Least (fun t => Mem ps t ∧ h ≤ t) none := fun t ⟨⟨q, hq, a, b⟩, ht⟩ => by
  have := no q hq
  omega
/-- i turns from the end -/
theorem last_hit {ps : List Pr} {h : Int} {i : Nat} {p : Pr} (g : Good ps) (hp : ps[i]? = some p) (no : ∀ q ∈ ps.drop (i + 1), ¬ q.1 ≤ h) (hh : p.1 ≤ h) : Greatest (fun t => Mem ps t ∧ t ≤ h) (some (if h < p.2 then h else p.2)) := by
  have m : p ∈ ps := List.mem_of_getElem? hp
  have p0 := g.1 p m
  have gt := g.take (i + 1)
  rw [take_snoc hp, good_snoc] at gt
  refine ⟨⟨⟨p, m, ?_⟩, ?_⟩, fun t ⟨hm, ht⟩ => ?_⟩
  · split <;> omega
  · split <;> omega
  · rw [← List.take_append_drop (i + 1) ps, mem_append] at hm
    rcases hm with hm | ⟨q, hq, a, b⟩
    · rw [take_snoc hp, mem_append, mem_one] at hm
      rcases hm with ⟨q, hq, a, b⟩ | hm
      · have := gt.2.2 q hq
        split <;> omega
      · split <;> omega
    · have := no q hq
      omega
theorem last_none {ps : List Pr} {h : Int} (no : ∀ q ∈ ps, ¬ q.1 ≤ h) : Greatest (fun t => Mem ps t ∧ t ≤ h) none := fun t ⟨⟨q, hq, a, b⟩, ht⟩ => by
  have := no q hq
  omega
end K29

/-! list(zip(a, b)) of two lists of one length: an iterator that hands out new objects fills a new list (Fills), the zip is one, and the layer's rule. -/
namespace LZ
open PySem PySem.Calls PySem.Spec PyProof.Rows PySem.W L2

theorem zip_len_less : typeLookup (.type "zip") "__len__" = pure none := by rw [typeLookup_type, builtinLookup_eq_fast]; kernel_rfl
theorem zip_hint_less : typeLookup (.type "zip") "__length_hint__" = pure none := by rw [typeLookup_type, builtinLookup_eq_fast]; kernel_rfl

/-- the list object that holds the objects at as -/
abbrev refsObj (as : List Addr) (c : Nat) : Obj := { cls := .type "list", data := .seq (as.map Value.ref).toArray c }
theorem refs_push (as : List Addr) (a : Addr) : ((as.map Value.ref).toArray).push (.ref a) = ((as ++ [a]).map Value.ref).toArray := by simp
/-- two heaps agree but at one address -/
def OffOne (S : Addr) (h h' : Heap) : Prop := ∀ b o, b ≠ S → h.get? b = some o → h'.get? b = some o
theorem offOne_update (S : Addr) (h : Heap) (f : Obj → Obj) : OffOne S h (h.update S f) := fun b o hb e => by
  rw [Heap.get?_update_other _ _ (Ne.symm hb)]
  exact e

section
variable {prog : Program} {w : World} {A : Around}
/-- the iterator at I hands out n objects; the list at S is being filled with them, as: those so far -/
structure Fills (prog : Program) (w : World) (A : Around) (I S : Addr) (n : Nat) (St Fin : List Addr → Heap → Prop) : Prop where
  next : ∀ (as : List Addr) (s : Shared) (Q : Option Value → Shared → Prop) (E : Value → Shared → Prop), as.length < n → S < s.heap.objs.size → St as s.heap →
    (∀ h' a, St (as ++ [a]) h' → (∀ o, s.heap.get? S = some o → h'.get? S = some o) → Q (some (.ref a)) { s with heap := h' }) → wpAny (model prog w) A (pyNext (.ref I)) Q E s
  stop : ∀ (as : List Addr) (s : Shared) (Q : Option Value → Shared → Prop) (E : Value → Shared → Prop), as.length = n → St as s.heap →
    (∀ h', Fin as h' → (∀ o, s.heap.get? S = some o → h'.get? S = some o) → Q none { s with heap := h' }) → wpAny (model prog w) A (pyNext (.ref I)) Q E s
  stay : ∀ as h h', St as h → OffOne S h h' → St as h'
variable {I S : Addr} {n : Nat} {St Fin : List Addr → Heap → Prop} {R : Result → Shared → Prop}
theorem Fills.loop (F : Fills prog w A.in1 I S n St Fin) (hn : n ≤ sizeLine) (res : Value) (g : Array GenState) (d : Drawn) (tk : Nat) (os : OsState)
    (fin : ∀ as h c, as.length = n → Fin as h → h.get? S = some (refsObj as c) → R (.ok (.ret res)) ⟨h, g, d, tk, os⟩) :
    ∀ (left : Nat) (as : List Addr) (h : Heap) (c : Nat), as.length + left = n → St as h → h.get? S = some (refsObj as c) → codeAny (model prog w) A (.builtin "list.extend.loop" ⟨[.ref S, .ref I, res], []⟩) R ⟨h, g, d, tk, os⟩
  | 0, as, h, c, hl, st, hS => codeAny_builtin PySem.F.entry_extend_loop (by
    rw [Around.under_plainId PySem.F.plain_extend_loop]
    exact wpAny_bind (F.stop as ⟨h, g, d, tk, os⟩ _ _ (by omega) st fun h' st' kS => wpAny_pure (fin as h' c (by omega) st' (kS _ hS))))
  | left + 1, as, h, c, hl, st, hS => codeAny_builtin PySem.F.entry_extend_loop (by
    rw [Around.under_plainId PySem.F.plain_extend_loop]
    refine wpAny_bind (F.next as ⟨h, g, d, tk, os⟩ _ _ (by omega) (Heap.lt_size hS) st fun h' a st' kS => ?_)
    have hz : ((as.map Value.ref).toArray).size = as.length := by simp
    refine wpAny_bind (wpAny_updateSeq (kS _ hS) rfl (wpAny_pure ⟨plainId_quiet PySem.F.plain_extend_loop _, ?_⟩) (by omega) (by rw [Array.size_push]; omega))
    have eS : (h'.update S (Obj.mapSeq (·.push (.ref a)))).get? S = some { cls := .type "list", data := .seq ((as.map Value.ref).toArray.push (.ref a)) _ } := Heap.get?_update_self _ (kS _ hS) rfl
    rw [refs_push] at eS
    exact Fills.loop F hn res g d tk os fin left (as ++ [a]) _ _ (by rw [List.length_append, List.length_singleton]; omega) (F.stay _ _ _ st' (offOne_update S h' _)) eS)
end

/-! ### the zip -/
/-- where a zip's parts lie: below the list -/
structure Lies (z TI TO i1 i2 l1 l2 S : Addr) : Prop where
  apart : ZipApart z TI TO i1 i2 l1 l2
  z : z < S
  TI : TI < S
  TO : TO < S
  i1 : i1 < S
  i2 : i2 < S
  l1 : l1 < S
  l2 : l2 < S
/-- the pairs given stand at as; base: the heap ahead of them -/
structure Stand (base : Heap) (z TO i1 i2 S : Addr) (xs ys : Array Value) (as : List Addr) (h : Heap) : Prop where
  high : ∀ a ∈ as, S < a
  nodup : as.Nodup
  put : ∀ (j : Nat) (a : Addr), as[j]? = some a → ∃ x y, xs[j]? = some x ∧ ys[j]? = some y ∧ IsPair h a x y
  old : ∀ b o, b ≠ S → b ≠ z → b ≠ TO → b ≠ i1 → b ≠ i2 → base.get? b = some o → h.get? b = some o
/-- a zip that has given the pairs at as -/
structure Given (base : Heap) (z TI TO i1 i2 l1 l2 S : Addr) (xs ys : Array Value) (as : List Addr) (h : Heap) : Prop extends Stand base z TO i1 i2 S xs ys as h where
  pair : IsPair h TI (.ref i1) (.ref i2)
  it1 : h.IsListIter i1 l1 as.length
  it2 : h.IsListIter i2 l2 as.length
  in1 : h.IsList l1 xs
  in2 : h.IsList l2 ys
  out : (IsZip h z TI TO .none ∧ ∃ a b, IsPair h TO a b) ∨ ∃ T f oT, IsZipHeld h z TI TO T f ∧ h.get? T = some oT ∧ T ≠ z ∧ T ≠ i1 ∧ T ≠ i2 ∧ T ≠ S
section
variable {prog : Program} {w : World} {A : Around} {base h h' : Heap} {z TI TO i1 i2 l1 l2 S : Addr} {xs ys : Array Value} {as : List Addr}
theorem far (L : Lies z TI TO i1 i2 l1 l2 S) {a : Addr} (q : S < a) : a ≠ z ∧ a ≠ TO ∧ a ≠ i1 ∧ a ≠ i2 :=
  ⟨Nat.ne_of_gt (Nat.lt_trans L.z q), Nat.ne_of_gt (Nat.lt_trans L.TO q), Nat.ne_of_gt (Nat.lt_trans L.i1 q), Nat.ne_of_gt (Nat.lt_trans L.i2 q)⟩
theorem Stand.keep (L : Lies z TI TO i1 i2 l1 l2 S) (G : Stand base z TO i1 i2 S xs ys as h) (k : ∀ b o, b ≠ z → b ≠ TO → b ≠ i1 → b ≠ i2 → h.get? b = some o → h'.get? b = some o) : Stand base z TO i1 i2 S xs ys as h' where
  high := G.high
  nodup := G.nodup
  put := fun j a e => by
    obtain ⟨x, y, e1, e2, p⟩ := G.put j a e
    obtain ⟨f1, f2, f3, f4⟩ := far L (G.high a (List.mem_of_getElem? e))
    exact ⟨x, y, e1, e2, k _ _ f1 f2 f3 f4 p⟩
  old := fun b o q1 q2 q3 q4 q5 e => k b o q2 q3 q4 q5 (G.old b o q1 q2 q3 q4 q5 e)
theorem Given.stay (L : Lies z TI TO i1 i2 l1 l2 S) (G : Given base z TI TO i1 i2 l1 l2 S xs ys as h) (k : OffOne S h h') : Given base z TI TO i1 i2 l1 l2 S xs ys as h' where
  pair := k _ _ (Nat.ne_of_lt L.TI) G.pair
  it1 := G.it1.at fun o => k _ o (Nat.ne_of_lt L.i1)
  it2 := G.it2.at fun o => k _ o (Nat.ne_of_lt L.i2)
  in1 := G.in1.at fun o => k _ o (Nat.ne_of_lt L.l1)
  in2 := G.in2.at fun o => k _ o (Nat.ne_of_lt L.l2)
  out := by
    rcases G.out with ⟨m, a, b, n⟩ | ⟨T, f, oT, m, n, p⟩
    · exact .inl ⟨k _ _ (Nat.ne_of_lt L.z) m, a, b, k _ _ (Nat.ne_of_lt L.TO) n⟩
    · exact .inr ⟨T, f, oT, k _ _ (Nat.ne_of_lt L.z) m, k _ _ p.2.2.2 n, p⟩
  high := G.high
  nodup := G.nodup
  put := fun j a e => (G.put j a e).imp fun x q => q.imp fun y r => ⟨r.1, r.2.1, k _ _ (Nat.ne_of_gt (G.high a (List.mem_of_getElem? e))) r.2.2⟩
  old := fun b o q1 q2 q3 q4 q5 e => k b o q1 (G.old b o q1 q2 q3 q4 q5 e)
/-- what a turn leaves, whether the tuple given out was known to the zip or not -/
theorem Given.more (L : Lies z TI TO i1 i2 l1 l2 S) (G : Given base z TI TO i1 i2 l1 l2 S xs ys as h) {T : Addr} {f : Bool} {oT : Obj} {x y : Value} (hS : S < h.objs.size) (ex : xs[as.length]? = some x) (ey : ys[as.length]? = some y)
    (k : ∀ b o, b ≠ z → b ≠ TO → b ≠ i1 → b ≠ i2 → h.get? b = some o → h'.get? b = some o) (hz : IsZipHeld h' z TI TO T f) (hT : h'.get? T = some oT) (nT : T ≠ z ∧ T ≠ i1 ∧ T ≠ i2 ∧ T ≠ S)
    (j1 : h'.IsListIter i1 l1 (as.length + 1)) (j2 : h'.IsListIter i2 l2 (as.length + 1)) (new : IsPair h' h.objs.size x y) : Given base z TI TO i1 i2 l1 l2 S xs ys (as ++ [h.objs.size]) h' := by
  have D := L.apart
  have len : (as ++ [h.objs.size]).length = as.length + 1 := by simp
  have G' := G.toStand.keep L k
  refine { high := fun a ha => ?_, nodup := ?_, put := fun j a e => ?_, old := G'.old, pair := k _ _ D.TIz D.TITO D.TIi1 D.TIi2 G.pair, it1 := (by rw [len]; exact j1), it2 := (by rw [len]; exact j2), in1 := G.in1.at fun o => k _ o D.l1z D.l1TO D.l1i1 D.l1i2, in2 := G.in2.at fun o => k _ o D.l2z D.l2TO D.l2i1 D.l2i2, out := .inr ⟨T, f, oT, hz, hT, nT⟩ }
  · rw [List.mem_append, List.mem_singleton] at ha
    exact ha.elim (G.high a) fun q => q ▸ hS
  · rw [List.nodup_append]
    refine ⟨G.nodup, by simp, fun a ha b hb q => ?_⟩
    rw [List.mem_singleton] at hb
    obtain ⟨j, e⟩ := List.getElem?_of_mem ha
    obtain ⟨_, _, _, _, p⟩ := G.put j a e
    have lt := Heap.lt_size p
    rw [q, hb] at lt
    exact Nat.lt_irrefl _ lt
  · by_cases c : j < as.length
    · exact G'.put j a (by rw [List.getElem?_append_left c] at e; exact e)
    · have cl := (List.getElem?_eq_some_iff.mp e).1
      have cj : j = as.length := by omega
      subst cj
      rw [List.getElem?_concat_length] at e
      cases e
      exact ⟨x, y, ex, ey, new⟩
theorem Given.fills (hh : A.handled = none) (L : Lies z TI TO i1 i2 l1 l2 S) (hxy : xs.size = ys.size) : Fills prog w A z S xs.size (Given base z TI TO i1 i2 l1 l2 S xs ys) (Stand base z TO i1 i2 S xs ys) where
  next := fun as s Q E hlt hS G hQ => by
    have D := L.apart
    have ex := Array.getElem?_eq_getElem hlt
    have ey := Array.getElem?_eq_getElem (hxy ▸ hlt)
    have un : ∀ b, b < S → s.heap.objs.size ≠ b := fun b q => Nat.ne_of_gt (Nat.lt_trans q hS)
    have nS : ∀ b, S = b → ¬ b < S := fun b q => by rw [q]; exact Nat.lt_irrefl _
    rcases G.out with ⟨m, a, b, n⟩ | ⟨T, f, oT, m, n, p⟩
    · exact wpAny_pyNext_zip_item D m G.pair n G.it1 G.it2 G.in1 G.in2 ex ey fun h' b1 _ b3 b4 b5 _ k =>
        hQ h' _ (G.more L hS ex ey k b1 b5 ⟨un _ L.z, un _ L.i1, un _ L.i2, Nat.ne_of_gt hS⟩ b3 b4 b5) fun o => k S o (Nat.ne_of_gt L.z) (Nat.ne_of_gt L.TO) (Nat.ne_of_gt L.i1) (Nat.ne_of_gt L.i2)
    · exact wpAny_pyNext_zip_item_held D m n G.pair G.it1 G.it2 G.in1 G.in2 ex ey fun h' b1 b3 b4 b5 _ k =>
        hQ h' _ (G.more L hS ex ey (fun b o q1 _ q3 q4 => k b o q1 q3 q4) b1 (k T oT p.1 p.2.1 p.2.2.1 n) p b3 b4 b5) fun o => k S o (Nat.ne_of_gt L.z) (Nat.ne_of_gt L.i1) (Nat.ne_of_gt L.i2)
  stop := fun as s Q E hl G hQ => by
    have D := L.apart
    have e : xs[as.length]? = none ∨ ys[as.length]? = none := .inl (Array.getElem?_eq_none (by omega))
    have stays : ∀ h', (∀ b o, b ≠ z → b ≠ TO → b ≠ i1 → b ≠ i2 → s.heap.get? b = some o → h'.get? b = some o) → Q none { s with heap := h' } := fun h' k =>
      hQ h' (G.toStand.keep L k) fun o => k S o (Nat.ne_of_gt L.z) (Nat.ne_of_gt L.TO) (Nat.ne_of_gt L.i1) (Nat.ne_of_gt L.i2)
    rcases G.out with ⟨m, a, b, n⟩ | ⟨T, f, oT, m, n, p⟩
    · exact wpAny_pyNext_zip_end hh D m G.pair n G.it1 G.it2 G.in1 G.in2 e stays
    · exact wpAny_pyNext_zip_end_held hh D m n G.pair G.it1 G.it2 G.in1 G.in2 e fun h' k => stays h' fun b o q1 _ q3 q4 => k b o q1 q3 q4
  stay := fun as h h' G k => G.stay L k
end

/-! ### list(z) -/
section
variable {prog : Program} {w : World} {A : Around} {E : Value → Shared → Prop} {s : Shared} {S : Addr}
/-- an empty list is cleared, or lengthened and cut again: it is empty as before, all else stands -/
theorem clear_ok {Q : Unit → Shared → Prop} {c : Nat} (hS : s.heap.get? S = some (refsObj [] c)) (h : ∀ h' c', OffOne S s.heap h' → h'.get? S = some (refsObj [] c') → Q () { s with heap := h' }) :
    wpAny (model prog w) A (Builtin.List.listUpdate (.ref S) fun _ => #[]) Q E s :=
  listUpdate_at hS rfl (h _ _ (offOne_update S s.heap _) (Heap.get?_update_self (Obj.mapSeq fun _ => (#[] : Array Value)) hS rfl)) (Nat.zero_le _) (Nat.zero_le _)
theorem touch_ok {Q : Unit → Shared → Prop} {c : Nat} (hS : s.heap.get? S = some (refsObj [] c)) (h : ∀ h' c', OffOne S s.heap h' → h'.get? S = some (refsObj [] c') → Q () { s with heap := h' }) :
    wpAny (model prog w) A (Builtin.List.listTouch (.ref S)) Q E s := by
  have e1 := Heap.get?_update_self (Obj.mapSeq fun v => v.push Value.none) hS rfl
  have e2 := Heap.get?_update_self (Obj.mapSeq fun v => v.pop) e1 rfl
  unfold Builtin.List.listTouch
  refine wpAny_bind (listUpdate_at hS rfl ?_ (Nat.zero_le _) (by decide))
  refine listUpdate_at (s := { s with heap := s.heap.update S (Obj.mapSeq fun v => v.push Value.none) }) e1 rfl (h _ _ (fun b o hb e => ?_) e2) (by decide) (by decide)
  exact offOne_update S _ _ b o hb (offOne_update S _ _ b o hb e)
variable {z TI TO : Addr} {f : Value}
/-- a zip tells no length -/
theorem hint_ok {Q : Bool → Shared → Prop} (hT : s.TypeIs (.ref z) "zip") (h : Q true s) : wpAny (model prog w) A (Builtin.List.listLengthHint (.ref z)) Q E s := by
  unfold Builtin.List.listLengthHint
  exact wpAny_bind (wpAny_specialOf hT zip_len_less (wpAny_bind (wpAny_specialOf hT zip_hint_less (wpAny_pure h))))
/-- the list is extended by the zip -/
theorem extend_ok {R : Result → Shared → Prop} {res : Value} {n c : Nat} {St Fin : List Addr → Heap → Prop} (F : Fills prog w A.in1 z S n St Fin) (hn : n ≤ sizeLine) (hSz : z < S) (hz : IsZip s.heap z TI TO f) (st : St [] s.heap) (hS : s.heap.get? S = some (refsObj [] c))
    (fin : ∀ as h' c', as.length = n → Fin as h' → h'.get? S = some (refsObj as c') → R (.ok (.ret res)) { s with heap := h' }) :
    wpAny (model prog w) A.in1 (Builtin.List.listExtendWith (.ref S) (.ref z) res)
      (fun r s' => match r with | .done x => R (.ok x) s' | .again c' => c'.quiet = true ∧ codeAny (model prog w) A c' R s') (fun e s' => R (.error e) s') s := by
  have hT : s.TypeIs (.ref z) "zip" := ⟨_, hz, rfl⟩
  have go : ∀ h' c', OffOne S s.heap h' → h'.get? S = some (refsObj [] c') → codeAny (model prog w) A (.builtin "list.extend.loop" ⟨[.ref S, .ref z, res], []⟩) R { s with heap := h' } := fun h' c' k e =>
    F.loop hn res s.gens s.drawn s.toks s.os fin n [] h' c' (Nat.zero_add n) (F.stay _ _ _ st k) e
  have ne : Builtin.List.listSameRef (.ref S) (.ref z) = false := beq_false_of_ne (Nat.ne_of_gt hSz)
  unfold Builtin.List.listExtendWith
  refine wpAny_bind (wpAny_typeOf hT (wpAny_ite_split (fun q => ?_) fun _ => ?_))
  · rw [ne] at q
    exact absurd q (by decide)
  · refine wpAny_bind (wpAny_pyIter_zip hz (wpAny_bind (wpAny_holding (hint_ok hT (wpAny_ite_split (fun _ => ?_) fun q => absurd rfl q)))))
    exact wpAny_bind (wpAny_rule (wpAny_bind (touch_ok hS fun h' c' k e => wpAny_pure ⟨plainId_quiet PySem.F.plain_extend_loop _, go h' c' k e⟩)))
end

section
variable {prog : Program} {w : World} {A : Around} {E : Value → Shared → Prop} {s : Shared} {z TI TO i1 i2 l1 l2 : Addr} {xs ys : Array Value}
/-- list(z), z a zip as it was made: a new list of new pairs -/
theorem list_zip {Q : Value → Shared → Prop} (hh : A.handled = none) (D : ZipApart z TI TO i1 i2 l1 l2) (hxy : xs.size = ys.size) (hn : xs.size ≤ sizeLine) (hz : IsZip s.heap z TI TO .none) (hTI : IsPair s.heap TI (.ref i1) (.ref i2)) {a b : Value} (hTO : IsPair s.heap TO a b)
    (h1 : s.heap.IsListIter i1 l1 0) (h2 : s.heap.IsListIter i2 l2 0) (hl1 : s.heap.IsList l1 xs) (hl2 : s.heap.IsList l2 ys)
    (done : ∀ as h' c, as.length = xs.size → Stand s.heap z TO i1 i2 s.heap.objs.size xs ys as h' → h'.get? s.heap.objs.size = some (refsObj as c) → Q (.ref s.heap.objs.size) { s with heap := h' }) :
    wpAny (model prog w) A (call (.type "list") [.ref z]) Q E s := by
  obtain ⟨_, g1, _⟩ := id h1
  obtain ⟨_, g2, _⟩ := id h2
  obtain ⟨_, g3, _⟩ := id hl1
  obtain ⟨_, g4, _⟩ := id hl2
  have L : Lies z TI TO i1 i2 l1 l2 s.heap.objs.size := ⟨D, Heap.lt_size hz, Heap.lt_size hTI, Heap.lt_size hTO, Heap.lt_size g1, Heap.lt_size g2, Heap.lt_size g3, Heap.lt_size g4⟩
  -- the new list's heap
  have hS : (s.heap.push (refsObj [] 0)).get? s.heap.objs.size = some (refsObj [] 0) := Heap.get?_push_size _ rfl
  have up : ∀ c o, s.heap.get? c = some o → (s.heap.push (refsObj [] 0)).get? c = some o := fun _ _ e => Heap.get?_push_of_some _ e
  have st0 : ∀ h', OffOne s.heap.objs.size (s.heap.push (refsObj [] 0)) h' → Given s.heap z TI TO i1 i2 l1 l2 s.heap.objs.size xs ys [] h' := fun h' k => Given.stay L
    { high := (fun _ q => nomatch q), nodup := List.nodup_nil, put := (fun _ _ q => nomatch q), old := (fun c o _ _ _ _ _ e => up c o e), pair := up _ _ hTI, it1 := (h1.at fun o e => up _ o e), it2 := (h2.at fun o e => up _ o e), in1 := (hl1.at fun o e => up _ o e), in2 := (hl2.at fun o e => up _ o e), out := .inl ⟨up _ _ hz, a, b, up _ _ hTO⟩ } k
  refine callType_codes (Q₁ := fun v s' => v = .ref s.heap.objs.size ∧ s' = { s with heap := s.heap.push (refsObj [] 0) }) PySem.F.called_list (PySem.F.typeCall_list_1 _) PySem.F.entry_list_init (code_list_new _ ⟨rfl, rfl⟩) fun v s' q => ?_
  obtain ⟨rfl, rfl⟩ := q
  refine ⟨⟨_, hS, rfl⟩, PySem.F.args_list_init_2 _ _, ?_⟩
  refine wpAny_bind (listItems_at hS rfl (wpAny_bind (clear_ok (s := { s with heap := s.heap.push (refsObj [] 0) }) hS fun h' c' k e => wpAny_bind (wpAny_letGo ?_))))
  refine extend_ok (A := A.in1) (s := { s with heap := h' }) (Given.fills (A := A.in1.in1) hh L hxy) hn L.z (k _ _ (Nat.ne_of_lt L.z) (up _ _ hz)) (st0 h' k) e fun as h2' c2 hl G e2 => ?_
  exact ⟨rfl, done as h2' c2 hl G e2⟩
end

/-! ### over the layer -/
/-- H, with a list of as at S and the pairs ps at as -/
def laidAt (H : Hp) (S : Addr) (as : List Addr) (ps : List (V × V)) : Hp := fun b => if b = S then some (.lst (as.map V.ref)) else match (as.zip ps).lookup b with
  | some p => some (.tup [p.1, p.2])
  | none => H b
theorem lookup_at : ∀ {as : List Addr} {ps : List (V × V)} {j : Nat} {a : Addr} {p : V × V}, as.Nodup → as[j]? = some a → ps[j]? = some p → (as.zip ps).lookup a = some p
  | x :: as, q :: ps, 0, a, p, _, e1, e2 => by
    cases e1
    cases e2
    exact List.lookup_cons_self
  | x :: as, q :: ps, j + 1, a, p, hn, e1, e2 => by
    have e1' : as[j]? = some a := by simpa using e1
    have ne : (a == x) = false := beq_false_of_ne fun e => (List.nodup_cons.mp hn).1 (e ▸ List.mem_of_getElem? e1')
    rw [List.zip_cons_cons, List.lookup_cons, ne]
    exact lookup_at (List.nodup_cons.mp hn).2 e1' (by simpa using e2)
  | [], _, _, _, _, _, e1, _ => by simp at e1
  | _ :: _, [], _, _, _, _, _, e2 => by simp at e2
theorem at_lookup : ∀ {as : List Addr} {ps : List (V × V)} {a : Addr} {p : V × V}, (as.zip ps).lookup a = some p → ∃ j : Nat, as[j]? = some a ∧ ps[j]? = some p
  | [], _, _, _, e => by simp at e
  | _ :: _, [], _, _, e => by simp at e
  | x :: as, q :: ps, a, p, e => by
    rw [List.zip_cons_cons, List.lookup_cons] at e
    by_cases c : a = x
    · subst c
      rw [beq_self_eq_true] at e
      exact ⟨0, rfl, e⟩
    · rw [beq_false_of_ne c] at e
      obtain ⟨j, e1, e2⟩ := at_lookup e
      exact ⟨j + 1, e1, e2⟩
theorem laid_pairs {H : Hp} {S : Addr} {as : List Addr} {ps : List (V × V)} (hn : as.Nodup) (hS : ∀ a ∈ as, S < a) : ∀ (j : Nat) (a : Addr) (p : V × V), as[j]? = some a → ps[j]? = some p → laidAt H S as ps a = some (.tup [p.1, p.2]) := fun j a p e1 e2 => by
  unfold laidAt
  rw [if_neg (Nat.ne_of_gt (hS a (List.mem_of_getElem? e1))), lookup_at hn e1 e2]
theorem laid_old {H : Hp} {S : Addr} {as : List Addr} {ps : List (V × V)} (hS : ∀ a ∈ as, S < a) {b : Addr} (h : b < S) : laidAt H S as ps b = H b := by
  unfold laidAt
  rw [if_neg (Nat.ne_of_lt h)]
  cases e : (as.zip ps).lookup b with
  | none => rfl
  | some p =>
    obtain ⟨j, e1, _⟩ := at_lookup e
    exact absurd (hS b (List.mem_of_getElem? e1)) (Nat.lt_asymm h)
theorem paired_of {α β : Type} {F : α → β → Prop} : ∀ {xs : List α} {ys : List β}, xs.length = ys.length → (∀ (j : Nat) x y, xs[j]? = some x → ys[j]? = some y → F x y) → Paired F xs ys
  | [], [], _, _ => .nil
  | [], _ :: _, h, _ => absurd h (by simp)
  | _ :: _, [], h, _ => absurd h (by simp)
  | x :: xs, y :: ys, h, f => .cons (f 0 x y rfl rfl) (paired_of (by simpa using h) fun j u v e1 e2 => f (j + 1) u v (by simpa using e1) (by simpa using e2))
section
variable {X : Cx}
/-- the new list and its pairs, known to the layer -/
theorem Inv.list_pairs {pins : List (Addr × Obj)} {σ : L2.St} {H : Hp} {s : Shared} {h' : Heap} {S c : Nat} {xs ys : List V} {us vs : List Value} {as : List Addr} (I : Inv X pins σ H s) (hSs : s.heap.objs.size ≤ S) (hxy : xs.length = ys.length) (hz : xs.length ≤ sizeLine)
    (rx : Vals xs us) (ry : Vals ys vs) (hl : as.length = xs.length) (k : ∀ b o, s.heap.get? b = some o → h'.get? b = some o) (high : ∀ a ∈ as, S < a) (nd : as.Nodup)
    (put : ∀ (j : Nat) (a : Addr), as[j]? = some a → ∃ x y, us.toArray[j]? = some x ∧ vs.toArray[j]? = some y ∧ IsPair h' a x y) (hS : h'.get? S = some (refsObj as c)) :
    Inv X pins (σ := σ) (laidAt H S as (xs.zip ys)) { s with heap := h' } := by
  have below : ∀ b o, s.heap.get? b = some o → laidAt H S as (xs.zip ys) b = H b := fun b o e => laid_old high (Nat.lt_of_lt_of_le (Heap.lt_size e) hSs)
  have kept : ∀ b u, H b = some u → laidAt H S as (xs.zip ys) b = some u := fun b u e => (laid_old high (Nat.lt_of_lt_of_le (I.hok.lt e) hSs)).trans e
  refine I.un (h' := h') (t' := s.toks) { keep := fun b o e _ _ _ => k b o e, slot := fun b o e _ _ _ => ⟨o.slots, k b o e⟩, free := fun b o e n _ => (below b o e).trans n, there := fun b o e _ => ⟨o, k b o e⟩, tups := fun b _ e => kept b _ e, frzs := fun b _ _ e => kept b _ e, tbls := fun b t e => ⟨#[], by rw [kept b _ e, Array.append_empty]⟩ } fun b u e => ?_
  by_cases c1 : b = S
  · subst c1
    have e' : laidAt H b as (xs.zip ys) b = some (.lst (as.map V.ref)) := if_pos rfl
    rw [e'] at e
    cases e
    exact ⟨by rw [List.length_map]; omega, as.map Value.ref, c, LiI.vals_refs as, hS⟩
  · cases q : (as.zip (xs.zip ys)).lookup b with
    | some p =>
      have e' : laidAt H S as (xs.zip ys) b = some (.tup [p.1, p.2]) := by
        unfold laidAt
        rw [if_neg c1, q]
      rw [e'] at e
      cases e
      obtain ⟨j, j1, j2⟩ := at_lookup q
      obtain ⟨x, y, p1, p2, p3⟩ := put j b j1
      rw [List.getElem?_zip_eq_some] at j2
      obtain ⟨x', q1, r1⟩ := rx.get j2.1
      obtain ⟨y', q2, r2⟩ := ry.get j2.2
      rw [List.getElem?_toArray, q1] at p1
      rw [List.getElem?_toArray, q2] at p2
      cases p1
      cases p2
      exact ⟨show 2 ≤ sizeLine by decide, [x, y], .cons r1 (.cons r2 .nil), ⟨_, p3, rfl, _, rfl⟩⟩
    | none =>
      have e' : laidAt H S as (xs.zip ys) b = H b := by
        unfold laidAt
        rw [if_neg c1, q]
      rw [e'] at e
      exact (I.hok b u e).stay (fun c v _ y => k c v y) (fun c y => kept c _ y) fun c v y => kept c _ y
/-- list(zip(a, b)), two lists of one length -/
def rListZip (K : PySem.W.Frag) : List V → Hp → VK → Prop := fun vs H Q => ∃ (a b : Addr) (xs ys : List V), vs = [.ref a, .ref b] ∧ SqL K H a xs ∧ SqL K H b ys ∧ xs.length = ys.length ∧
  ∀ (H' : Hp) (p : Addr) (ts : List Addr), (∀ b o, H b = some o → H' b = some o) → H p = none → H' p = some (.lst (ts.map V.ref)) → Paired (fun (t : Addr) (q : V × V) => H' t = some (.tup [q.1, q.2])) ts (xs.zip ys) → Q (.ref p) H'
def tListZip (K : PySem.W.Frag) (ta : TA) : TE := fun σ H Q => ta σ H fun vs H1 => rListZip K vs H1 Q
theorem pe_listZip {e e2 : Expr} {ta : TA} {p p2 pos pos2 : Pos} (hc : X.calm = true) (hg : Gl X "list") (hm : X.mg "list" = none) (hv : bootBuiltins "list" = some (.type "list")) (hg2 : Gl X "zip") (hm2 : X.mg "zip" = none) (ha : PA X [e, e2] ta)
    (hs : starEach [e, e2] X.env = (false, eval e X.env) :: starEach [e2] X.env := by rfl) (hpl : (backTo pos2 (starEach [e2] X.env)).any (·.1) = false := by rfl)
    (hs2 : starEach [.Call (.Name "zip" p2) [e, e2] [] pos2] X.env = (false, eval (.Call (.Name "zip" p2) [e, e2] [] pos2) X.env) :: starEach [] X.env := by rfl) :
    PE X (.Call (.Name "list" p) [.Call (.Name "zip" p2) [e, e2] [] pos2] [] pos) (tListZip X.K ta) where
  run := fun pins s σ H Q I h => by
    refine Call_ (ld_blt I hg hm hv (PyProof.Rows.callWith_type1 (args_cons (Call_ (ld_blt I hg2 hm2 PyProof.Rows.boot_zip (PyProof.Rows.callWith_type1 (thn (ha.run pos2 pins s σ H _ I h) fun us s1 ⟨vs, H1, I1, r1, q1⟩ => ?_) hs hpl))) hs2) hs2 rfl))
    obtain ⟨a, b, xs, ys, rfl, hx, hy, hxy, q⟩ := q1
    obtain ⟨u1, u2, rfl, r, r'⟩ := vals2 r1
    cases r
    cases r'
    obtain ⟨us1, v1, p1, z1⟩ := I1.list hx
    obtain ⟨us2, v2, p2', z2⟩ := I1.list hy
    have n1 := v1.length
    have n2 := v2.length
    refine call_zip_2 p1.isList p2'.isList fun h0 hz hTI hTO hi1 hi2 _ k0 => args_nil ?_
    refine list_zip (s := { s1 with heap := h0 }) (I1.ok.hd hc) (PySem.W.ktu_apart s1.heap.objs.size a b p1.lt p2'.lt) (by simp; omega) (by simp; omega) hz hTI hTO hi1 hi2 (p1.isList.at fun o e => k0 _ o e) (p2'.isList.at fun o e => k0 _ o e) fun as h' c hl G hS => ?_
    have big : s1.heap.objs.size ≤ h0.objs.size := Nat.le_of_lt (Nat.lt_of_le_of_lt (Nat.le_add_right _ 4) (Heap.lt_size hz))
    have off : ∀ b o, s1.heap.get? b = some o → ∀ m, b ≠ s1.heap.objs.size + m := fun b o e m => Nat.ne_of_lt (Nat.lt_of_lt_of_le (Heap.lt_size e) (Nat.le_add_right _ m))
    have hl' : as.length = xs.length := by rw [hl, List.size_toArray, n1]
    have J := Inv.list_pairs (h' := h') I1 big hxy z1 v1 v2 hl' (fun b o e => G.old b o (Nat.ne_of_lt (Nat.lt_of_lt_of_le (Heap.lt_size e) big)) (off b o e 4) (off b o e 3) (off b o e 0) (off b o e 1) (k0 b o e)) G.high G.nodup G.put hS
    refine ⟨.ref h0.objs.size, _, J, rfl, q _ h0.objs.size as (fun b u e => (laid_old G.high (Nat.lt_of_lt_of_le (I1.hok.lt e) big)).trans e) (I1.hok.fresh big) (if_pos rfl) (paired_of (by rw [List.length_zip, hl', ← hxy, Nat.min_self]) (laid_pairs G.nodup G.high))⟩
end
end LZ

namespace K29
open PySem PySem.Spec PyProof.Rows L2 Evl

/-! ### min, max with default=None -/
def oV : Option Int → V
  | none => .non
  | some i => .int i
def rMinD (K : PySem.W.Frag) : List V → List V → Hp → VK → Prop := fun vs zs H Q => ∃ (a : Addr) (ns : List Int), vs = [V.ref a] ∧ zs = [.non] ∧ SqL K H a (ns.map V.int) ∧ ∀ r, Least (fun t => t ∈ ns) r → Q (oV r) H
def rMaxD (K : PySem.W.Frag) : List V → List V → Hp → VK → Prop := fun vs zs H Q => ∃ (a : Addr) (ns : List Int), vs = [V.ref a] ∧ zs = [.non] ∧ SqL K H a (ns.map V.int) ∧ ∀ r, Greatest (fun t => t ∈ ns) r → Q (oV r) H
theorem minOf_least : ∀ (ys : List Int) (x : Int), PySem.W.minOf x ys ∈ x :: ys ∧ ∀ t, t ∈ x :: ys → PySem.W.minOf x ys ≤ t
  | [], x => ⟨List.mem_cons_self, fun t ht => by
    rw [List.mem_singleton] at ht
    subst ht
    exact Int.le_refl _⟩
  | y :: ys, x => by
    have e : PySem.W.minOf x (y :: ys) = PySem.W.minOf (if decide (y < x) = true then y else x) ys := rfl
    obtain ⟨a, b⟩ := minOf_least ys (if decide (y < x) = true then y else x)
    rw [e]
    by_cases c : y < x
    · rw [decide_eq_true c, if_pos rfl] at a b ⊢
      refine ⟨List.mem_cons_of_mem _ a, fun t ht => ?_⟩
      rcases List.mem_cons.mp ht with rfl | ht
      · have := b y List.mem_cons_self
        omega
      · exact b t ht
    · rw [decide_eq_false c, if_neg Bool.false_ne_true] at a b ⊢
      refine ⟨?_, fun t ht => ?_⟩
      · rcases List.mem_cons.mp a with a | a
        · rw [a]
          exact List.mem_cons_self
        · exact List.mem_cons_of_mem _ (List.mem_cons_of_mem _ a)
      · rcases List.mem_cons.mp ht with rfl | ht
        · exact b _ List.mem_cons_self
        · rcases List.mem_cons.mp ht with rfl | ht
          · have := b x List.mem_cons_self
            omega
          · exact b t (List.mem_cons_of_mem _ ht)
theorem maxOf_greatest : ∀ (ys : List Int) (x : Int), PySem.W.maxOf x ys ∈ x :: ys ∧ ∀ t, t ∈ x :: ys → t ≤ PySem.W.maxOf x ys
  | [], x => ⟨List.mem_cons_self, fun t ht => by
    rw [List.mem_singleton] at ht
    subst ht
    exact Int.le_refl _⟩
  | y :: ys, x => by
    have e : PySem.W.maxOf x (y :: ys) = PySem.W.maxOf (if decide (x < y) = true then y else x) ys := rfl
    obtain ⟨a, b⟩ := maxOf_greatest ys (if decide (x < y) = true then y else x)
    rw [e]
    by_cases c : x < y
    · rw [decide_eq_true c, if_pos rfl] at a b ⊢
      refine ⟨List.mem_cons_of_mem _ a, fun t ht => ?_⟩
      rcases List.mem_cons.mp ht with rfl | ht
      · have := b y List.mem_cons_self
        omega
      · exact b t ht
    · rw [decide_eq_false c, if_neg Bool.false_ne_true] at a b ⊢
      refine ⟨?_, fun t ht => ?_⟩
      · rcases List.mem_cons.mp a with a | a
        · rw [a]
          exact List.mem_cons_self
        · exact List.mem_cons_of_mem _ (List.mem_cons_of_mem _ a)
      · rcases List.mem_cons.mp ht with rfl | ht
        · exact b _ List.mem_cons_self
        · rcases List.mem_cons.mp ht with rfl | ht
          · have := b x List.mem_cons_self
            omega
          · exact b t (List.mem_cons_of_mem _ ht)
section
variable {X : Cx}
theorem holds_int_is {h : Heap} {v : Value} {n : Int} (a : PySem.W.Holds h v n) : RelV (.int n) v := by
  obtain ⟨as, r⟩ := a
  cases r
  exact ⟨_, rfl⟩
theorem args_none {a : Addr} {us ws : List Value} (r : Vals [V.ref a] us) (rz : Vals [V.non] ws) : us = [Value.ref a] ∧ ws = [Value.none] := by
  obtain ⟨u, eu, ru⟩ := vals1 r
  obtain ⟨v, ev, rv⟩ := vals1 rz
  cases ru
  cases rv
  exact ⟨eu, ev⟩
theorem cr_minD (hc : X.calm = true) (hu : X.A.units + 1 < cLine) : CallRK X (.builtin "min") [Str.ofString "default"] (rMinD X.K) := fun pins s σ H vs zs us ws Q I r rz ⟨a, ns, ev, ez, hs, q⟩ => by
  subst ev ez
  obtain ⟨rfl, rfl⟩ := args_none r rz
  obtain ⟨its, rv, p1, _⟩ := I.list hs
  refine PySem.W.min_list_datum_default (xs := ns) (I.ok.hd hc) p1.isList (PySem.W.HoldAll.of_ints rv.ints) hu (fun e h' tk hk => ⟨.non, H, I.kept hk, rfl, q none fun t ht => ?_⟩) (fun y ys i v h' tk e hi hv hk => ⟨.int (PySem.W.minOf y ys), H, I.kept hk, holds_int_is hv, q (some _) ?_⟩)
  · rw [e] at ht
    cases ht
  · rw [e]
    exact minOf_least ys y
theorem cr_maxD (hc : X.calm = true) (hu : X.A.units + 1 < cLine) : CallRK X (.builtin "max") [Str.ofString "default"] (rMaxD X.K) := fun pins s σ H vs zs us ws Q I r rz ⟨a, ns, ev, ez, hs, q⟩ => by
  subst ev ez
  obtain ⟨rfl, rfl⟩ := args_none r rz
  obtain ⟨its, rv, p1, _⟩ := I.list hs
  refine PySem.W.max_list_datum_default (xs := ns) (I.ok.hd hc) p1.isList (PySem.W.HoldAll.of_ints rv.ints) hu (fun e h' tk hk => ⟨.non, H, I.kept hk, rfl, q none fun t ht => ?_⟩) (fun y ys i v h' tk e hi hv hk => ⟨.int (PySem.W.maxOf y ys), H, I.kept hk, holds_int_is hv, q (some _) ?_⟩)
  · rw [e] at ht
    cases ht
  · rw [e]
    exact maxOf_greatest ys y
end

/-! ### pairs on the heap -/
def PP (H : Hp) (v : V) (p : Pr) : Prop := ∃ t, v = .ref t ∧ H t = some (.tup [.int p.1, .int p.2])
abbrev PPs (H : Hp) : List V → List Pr → Prop := Paired (PP H)
theorem PP.mono {H H' : Hp} {v : V} {p : Pr} (e : Ex H H') (h : PP H v p) : PP H' v p := by
  obtain ⟨t, a, b⟩ := h
  exact ⟨t, a, e _ _ b⟩
theorem pps_mono {H H' : Hp} {vs : List V} {ps : List Pr} (e : Ex H H') (h : PPs H vs ps) : PPs H' vs ps := Paired.mapP h fun _ _ q => q.mono e
theorem pps_get : ∀ {H : Hp} {vs : List V} {ps : List Pr} {i : Nat} {v : V}, PPs H vs ps → vs[i]? = some v → ∃ p, ps[i]? = some p ∧ PP H v p
  | _, _, _, i, v, .nil, h => by simp at h
  | _, _, _, 0, v, .cons r _, h => by
    have e := Option.some.inj h
    subst e
    exact ⟨_, rfl, r⟩
  | _, _, _, i + 1, v, .cons _ t, h => pps_get (i := i) t (by simpa using h)
theorem pps_at : ∀ {H : Hp} {vs : List V} {ps : List Pr} {i : Nat} {p : Pr}, PPs H vs ps → ps[i]? = some p → ∃ v, vs[i]? = some v ∧ PP H v p
  | _, _, _, i, v, .nil, h => by simp at h
  | _, _, _, 0, v, .cons r _, h => by
    have e := Option.some.inj h
    subst e
    exact ⟨_, rfl, r⟩
  | _, _, _, i + 1, v, .cons _ t, h => pps_at (i := i) t (by simpa using h)
theorem pps_append : ∀ {H : Hp} {vs us : List V} {ps qs : List Pr}, PPs H vs ps → PPs H us qs → PPs H (vs ++ us) (ps ++ qs)
  | _, _, _, _, _, .nil, s => s
  | _, _, _, _, _, .cons r t, s => .cons r (pps_append t s)
theorem pps_one {H : Hp} {v : V} {p : Pr} (h : PP H v p) : PPs H [v] [p] := .cons h .nil
theorem pps_split : ∀ {H : Hp} {vs : List V} {t0 : List Pr} {l : Pr}, PPs H vs (t0 ++ [l]) → ∃ us v, vs = us ++ [v] ∧ PPs H us t0 ∧ PP H v l
  | _, _, [], _, .cons r .nil => ⟨[], _, rfl, .nil, r⟩
  | _, _, _ :: t0, _, .cons r t => by
    obtain ⟨us, v, e, a, b⟩ := pps_split t
    exact ⟨_ :: us, v, by rw [e]; rfl, .cons r a, b⟩
def pr (H : Hp) (v : V) : Pr := match v with
  | .ref t => match H t with
    | some (.tup [.int a, .int b]) => (a, b)
    | _ => (0, 0)
  | _ => (0, 0)
theorem PP.pr {H : Hp} {v : V} {p : Pr} (h : PP H v p) : pr H v = p := by
  obtain ⟨t, rfl, e⟩ := h
  unfold K29.pr
  simp only [e]
theorem pps_map : ∀ {H : Hp} {vs : List V} {ps : List Pr}, PPs H vs ps → vs.map (pr H) = ps
  | _, _, _, .nil => rfl
  | _, _, _, .cons r t => by
    rw [List.map_cons, r.pr, pps_map t]
theorem pps_all : ∀ {H : Hp} {vs : List V} {ps : List Pr}, PPs H vs ps → ∀ x ∈ vs, PP H x (pr H x)
  | _, _, _, .nil, _, h => by cases h
  | _, _, _, .cons r t, x, h => by
    rcases List.mem_cons.mp h with rfl | h
    · rw [r.pr]
      exact r
    · exact pps_all t x h
theorem pps_of : ∀ {H : Hp} {vs : List V}, (∀ x ∈ vs, PP H x (pr H x)) → PPs H vs (vs.map (pr H))
  | _, [], _ => .nil
  | _, v :: vs, h => .cons (h v List.mem_cons_self) (pps_of fun x hx => h x (List.mem_cons_of_mem _ hx))
/-- a tuple of pairs -/
def SpT (H : Hp) (a : Addr) (ps : List Pr) : Prop := ∃ vs, H a = some (.tup vs) ∧ PPs H vs ps
theorem SpT.mono {H H' : Hp} {a : Addr} {ps : List Pr} (e : Ex H H') (h : SpT H a ps) : SpT H' a ps := by
  obtain ⟨vs, x, y⟩ := h
  exact ⟨vs, e _ _ x, pps_mono e y⟩
def dP (p : Pr) : PyData := .tuple [.int p.1, .int p.2]
def dPs (ps : List Pr) : PyData := .tuple (ps.map dP)
theorem dp_pair {K : PySem.W.Frag} {H : Hp} {v : V} {p : Pr} (h : PP H v p) : Dp K H v (dP p) := by
  obtain ⟨t, rfl, e⟩ := h
  exact .tup (SqT.of e) (.cons (.int _) (.cons (.int _) .nil))
theorem dp_pairs {K : PySem.W.Frag} : ∀ {H : Hp} {vs : List V} {ps : List Pr}, PPs H vs ps → DpAll K H vs (ps.map dP)
  | _, _, _, .nil => .nil
  | _, _, _, .cons r t => .cons (dp_pair r) (dp_pairs t)
theorem SpT.dp {K : PySem.W.Frag} {H : Hp} {a : Addr} {ps : List Pr} (h : SpT H a ps) : Dp K H (.ref a) (dPs ps) := by
  obtain ⟨vs, x, y⟩ := h
  exact .tup (SqT.of x) (dp_pairs y)
theorem lay_all : ∀ ps : List Pr, PyData.canLayAll0 (ps.map dP) = true
  | [] => rfl
  | p :: ps => by
    rw [List.map_cons, PyData.canLayAll0, lay_all ps]
    rfl
theorem depth_all : ∀ ps : List Pr, PyData.depthAll (ps.map dP) ≤ 1
  | [] => Nat.zero_le _
  | p :: ps => by
    rw [List.map_cons, PyData.depthAll]
    exact Nat.max_le.mpr ⟨Nat.le_of_eq rfl, depth_all ps⟩
theorem shaped_dPs (ps : List Pr) : SeqAt.shaped (dPs ps) = true := by
  unfold SeqAt.shaped dPs
  refine Bool.and_eq_true_iff.mpr ⟨?_, decide_eq_true ?_⟩
  · show PyData.canLay0 (.tuple (ps.map dP)) = true
    rw [PyData.canLay0]
    exact lay_all ps
  · rw [PyData.depth]
    have := depth_all ps
    omega
theorem eqv_dPs (ps : List Pr) : PyData.eqv (dPs ps) (dPs ps) = true := SeqAt.eqv_refl _ (SeqAt.canLay_of_shaped (shaped_dPs ps))
/-- a != b of two tuples of the same pairs -/
theorem ne_same {K : PySem.W.Frag} {H : Hp} {a b : Addr} {ps : List Pr} {Q : VK} (h1 : SpT H a ps) (h2 : SpT H b ps) (q : Q (.bl false) H) : rNeD K (.ref a) (.ref b) H Q :=
  ⟨dPs ps, dPs ps, h1.dp, h2.dp, shaped_dPs ps, shaped_dPs ps, by rw [eqv_dPs]; exact q⟩
end K29

namespace K29
open PySem PySem.Spec PyProof.Rows L2 Evl
/-! ### the text -/
def topS (i : Nat) : Stmt := PySem.Challenge.pw_beaconvale_k29_whole_hours_gone_through.main.body.getD i (.Pass ⟨0, 0, 0, 0⟩)
abbrev sTidy : Stmt := topS 1
abbrev sBoth : Stmt := topS 2
abbrev sEither : Stmt := topS 3
abbrev sWithout : Stmt := topS 4
abbrev sHolds : Stmt := topS 5
abbrev sMany : Stmt := topS 6
abbrev sFirst : Stmt := topS 7
abbrev sLast : Stmt := topS 8
abbrev sAt : Stmt := topS 10
abbrev sMix : Stmt := topS 11
abbrev sFolded : Stmt := topS 12
abbrev sRuns : Stmt := topS 13
abbrev sMarks : Stmt := topS 14
abbrev sWays : Stmt := topS 15
abbrev sLaw : Stmt := topS 16
abbrev nTidy : List Str := ["pairs", "told", "low", "high", "pair"]
abbrev nBoth : List Str := ["one", "other", "told", "at", "to", "low", "high"]
abbrev nEither : List Str := ["one", "other"]
abbrev nWithout : List Str := ["one", "other", "told", "low", "high", "begin", "gone_low", "gone_high"]
abbrev nHolds : List Str := ["spans", "hour", "low", "high"]
abbrev nMany : List Str := ["spans", "low", "high"]
abbrev nFirst : List Str := ["spans", "hour", "low", "high"]
abbrev nAt : List Str := ["script", "k"]
abbrev nMix : List Str := ["cell", "k", "size", "prime", "base", "mixed"]
abbrev nFolded : List Str := ["script", "first", "most", "numbers", "k", "kept"]
abbrev nRuns : List Str := ["marks", "first", "told", "k"]
abbrev nMarks : List Str := ["numbers", "k", "j", "cell"]
abbrev nWays : List Str := ["spans", "marks", "first", "k", "held", "later", "sooner", "j", "mark"]
abbrev nLaw : List Str := ["script", "first", "numbers", "one", "other", "mine", "yours", "pairs", "k", "left", "right"]
theorem scTidy : FnScope nTidy ["pairs"] (defScope sTidy) := ⟨rfl, rfl, rfl, by decide +kernel, rfl, by decide +kernel, by decide +kernel⟩
theorem scBoth : FnScope nBoth ["one", "other"] (defScope sBoth) := ⟨rfl, rfl, rfl, by decide +kernel, rfl, by decide +kernel, by decide +kernel⟩
theorem scEither : FnScope nEither ["one", "other"] (defScope sEither) := ⟨rfl, rfl, rfl, by decide +kernel, rfl, by decide +kernel, by decide +kernel⟩
theorem scWithout : FnScope nWithout ["one", "other"] (defScope sWithout) := ⟨rfl, rfl, rfl, by decide +kernel, rfl, by decide +kernel, by decide +kernel⟩
theorem scHolds : FnScope nHolds ["spans", "hour"] (defScope sHolds) := ⟨rfl, rfl, rfl, by decide +kernel, rfl, by decide +kernel, by decide +kernel⟩
theorem scMany : FnScope nMany ["spans"] (defScope sMany) := ⟨rfl, rfl, rfl, by decide +kernel, rfl, by decide +kernel, by decide +kernel⟩
theorem scFirst : FnScope nFirst ["spans", "hour"] (defScope sFirst) := ⟨rfl, rfl, rfl, by decide +kernel, rfl, by decide +kernel, by decide +kernel⟩
theorem scLast : FnScope nFirst ["spans", "hour"] (defScope sLast) := ⟨rfl, rfl, rfl, by decide +kernel, rfl, by decide +kernel, by decide +kernel⟩
theorem scAt : FnScope nAt ["script", "k"] (defScope sAt) := ⟨rfl, rfl, rfl, by decide +kernel, rfl, by decide +kernel, by decide +kernel⟩
theorem scMix : FnScope nMix ["cell", "k", "size"] (defScope sMix) := ⟨rfl, rfl, rfl, by decide +kernel, rfl, by decide +kernel, by decide +kernel⟩
theorem scFolded : FnScope nFolded ["script", "first", "most"] (defScope sFolded) := ⟨rfl, rfl, rfl, by decide +kernel, rfl, by decide +kernel, by decide +kernel⟩
theorem scRuns : FnScope nRuns ["marks", "first"] (defScope sRuns) := ⟨rfl, rfl, rfl, by decide +kernel, rfl, by decide +kernel, by decide +kernel⟩
theorem scMarks : FnScope nMarks ["numbers", "k"] (defScope sMarks) := ⟨rfl, rfl, rfl, by decide +kernel, rfl, by decide +kernel, by decide +kernel⟩
theorem scWays : FnScope nWays ["spans", "marks", "first"] (defScope sWays) := ⟨rfl, rfl, rfl, by decide +kernel, rfl, by decide +kernel, by decide +kernel⟩
theorem scLaw : FnScope nLaw ["script"] (defScope sLaw) := ⟨rfl, rfl, rfl, by decide +kernel, rfl, by decide +kernel, by decide +kernel⟩

/-! ### promises -/
section
variable (K : PySem.W.Frag)
/-- what hands back spans that hold just the hours of C -/
def rSpans (C : Int → Prop) (H : Hp) (Q : VK) : Prop := ∀ (H' : Hp) (p : Addr) (rs : List Pr), Ex H H' → SpT H' p rs → Good rs → (∀ t, Mem rs t ↔ C t) → Q (.ref p) H'
def rVal (v : V) (H : Hp) (Q : VK) : Prop := ∀ H', Ex H H' → Q v H'
def spTidy : Sp := fun vs H Q _ => ∃ (a : Addr) (us : List V) (ps : List Pr), vs = [.ref a] ∧ SqL K H a us ∧ PPs H us ps ∧ ps.length ≤ 1000 ∧ rSpans (fun t => Mem ps t) H Q
def spBoth : Sp := fun vs H Q _ => ∃ (a b : Addr) (ps qs : List Pr), vs = [.ref a, .ref b] ∧ SpT H a ps ∧ SpT H b qs ∧ Good ps ∧ Good qs ∧ ps.length ≤ 100 ∧ qs.length ≤ 100 ∧ rSpans (fun t => Mem ps t ∧ Mem qs t) H Q
def spEither : Sp := fun vs H Q _ => ∃ (a b : Addr) (ps qs : List Pr), vs = [.ref a, .ref b] ∧ SpT H a ps ∧ SpT H b qs ∧ ps.length ≤ 100 ∧ qs.length ≤ 100 ∧ rSpans (fun t => Mem ps t ∨ Mem qs t) H Q
def spWithout : Sp := fun vs H Q _ => ∃ (a b : Addr) (ps qs : List Pr), vs = [.ref a, .ref b] ∧ SpT H a ps ∧ SpT H b qs ∧ Good ps ∧ Good qs ∧ ps.length ≤ 100 ∧ qs.length ≤ 100 ∧ rSpans (fun t => Mem ps t ∧ ¬ Mem qs t) H Q
def spHolds : Sp := fun vs H Q _ => ∃ (a : Addr) (h : Int) (ps : List Pr), vs = [.ref a, .int h] ∧ SpT H a ps ∧ ps.length ≤ 100 ∧ ∀ b : Bool, (b = true ↔ Mem ps h) → rVal (.bl b) H Q
def spMany : Sp := fun vs H Q _ => ∃ (a : Addr) (ps : List Pr), vs = [.ref a] ∧ SpT H a ps ∧ ps.length ≤ 100 ∧ rVal (.int (total ps)) H Q
def spFirst : Sp := fun vs H Q _ => ∃ (a : Addr) (h : Int) (ps : List Pr), vs = [.ref a, .int h] ∧ SpT H a ps ∧ Good ps ∧ ∀ r, Least (fun t => Mem ps t ∧ h ≤ t) r → rVal (oV r) H Q
def spLast : Sp := fun vs H Q _ => ∃ (a : Addr) (h : Int) (ps : List Pr), vs = [.ref a, .int h] ∧ SpT H a ps ∧ Good ps ∧ ∀ r, Greatest (fun t => Mem ps t ∧ t ≤ h) r → rVal (oV r) H Q
def spAt : Sp := fun vs H Q _ => ∃ (a : Addr) (ns : List Int), vs = [.ref a, .int 0] ∧ SqL K H a (ns.map V.int) ∧ ∀ i : Int, rVal (.int i) H Q
def spMix : Sp := fun vs H Q _ => ∃ (c k : Int), vs = [.int c, .int k, .int 2] ∧ 0 ≤ k ∧ k ≤ 2 ∧ ∀ i : Int, 0 ≤ i → i < 2 → rVal (.int i) H Q
def spFolded : Sp := fun vs H Q _ => ∃ (a : Addr) (ns : List Int), vs = [.ref a, .int 1, .int 40] ∧ SqL K H a (ns.map V.int) ∧ ns.length ≤ 63 ∧ ∀ (H' : Hp) (p : Addr) (ms : List Int), Ex H H' → H' p = some (.lst (ms.map V.int)) → ms.length ≤ 40 → Q (.ref p) H'
def spRuns : Sp := fun vs H Q _ => ∃ (a : Addr) (f : Int) (ms : List Bool), vs = [.ref a, .int f] ∧ SqL K H a (ms.map V.bl) ∧ ms.length ≤ 100 ∧ ∀ (H' : Hp) (p : Addr) (rs : List Pr), Ex H H' → SpT H' p rs → IsRuns ms f rs → Q (.ref p) H'
def spMarks : Sp := fun vs H Q _ => ∃ (a : Addr) (ns : List Int) (k : Int), vs = [.ref a, .int k] ∧ H a = some (.lst (ns.map V.int)) ∧ ns.length ≤ 40 ∧ 0 ≤ k ∧ k ≤ 2 ∧ ∀ (H' : Hp) (p : Addr) (ms : List Bool), Ex H H' → H' p = some (.lst (ms.map V.bl)) → ms.length = 40 → Q (.ref p) H'
def spWays : Sp := fun vs H Q _ => ∃ (a b : Addr) (ps : List Pr) (ms : List Bool) (f : Int), vs = [.ref a, .ref b, .int f] ∧ SpT H a ps ∧ SqL K H b (ms.map V.bl) ∧ ms.length = 40 ∧ IsRuns ms f ps ∧ rVal (.bl true) H Q
def spLaw : Sp := fun vs H Q _ => ∃ (a : Addr) (ns : List Int), vs = [.ref a] ∧ SqL K H a (ns.map V.int) ∧ ns.length ≤ 63 ∧ ∀ H', Q (.bl true) H'
end
end K29

namespace K29
open PySem PySem.Spec PyProof.Rows L2 Evl
theorem ixN_last {n : Nat} (h : 0 < n) : ixN n (-1) = some (n - 1) := by
  unfold ixN
  rw [if_neg (by omega), if_pos (by omega)]
  congr 1
  omega
theorem atI_snoc (xs : List V) (v : V) : atI (xs ++ [v]) (-1) = some v := atI_last xs v
theorem set_snoc {xs : List V} {v u : V} : (xs ++ [v]).set ((xs ++ [v]).length - 1) u = xs ++ [u] := by
  rw [List.length_append, List.length_singleton, Nat.add_sub_cancel, List.set_append_right _ _ (Nat.le_refl _), Nat.sub_self]
  rfl
theorem srtd_low {k : V → Int × Int} {ys : List V} (h : SrtO.Srtd (ltP k) ys) : (ys.map k).Pairwise fun p q => p.1 ≤ q.1 := by
  rw [List.pairwise_map]
  refine List.Pairwise.imp (fun {a b} q => ?_) h
  have q' := SrtO.lexB_no.mp q
  omega
theorem PP.wr {H : Hp} {v : V} {p : Pr} {D : Addr} {xs : List V} {o : HO} (h : PP H v p) (hd : H D = some (.lst xs)) : PP (upd H D o) v p := by
  obtain ⟨t, e, ht⟩ := h
  exact ⟨t, e, by rw [upd_ne (ne_of ht hd (fun z => by cases z))]; exact ht⟩
theorem pps_wr {H : Hp} {vs : List V} {ps : List Pr} {D : Addr} {xs : List V} {o : HO} (h : PPs H vs ps) (hd : H D = some (.lst xs)) : PPs (upd H D o) vs ps := Paired.mapP h fun _ _ q => q.wr hd
theorem nil_or_snoc {α : Type} (l : List α) : l = [] ∨ ∃ a b, l = a ++ [b] := by
  by_cases h : l = []
  · exact .inl h
  · exact .inr ⟨l.dropLast, l.getLast h, (List.dropLast_concat_getLast h).symm⟩
section
variable {P : Program} {w : World} {K : PySem.W.Frag} {mg : Str → Option Value} {base : Heap}
theorem ok_tidy {f : Addr} {fd : FuncData} {k : Nat} (F : Fun K "tidy" "tidy" sTidy f fd) (ms : mg "sorted" = none) (ml : mg "len" = none) (mm : mg "max" = none) (mt : mg "tuple" = none) : FnOk P w K mg base CX0 (k + 1) f fd ["pairs"] (spTidy K) := by
  refine F.ok scTidy (fun vs H Q E h => ?_) (fun cdv A outer s H vs Q E hr h => ?_)
  · obtain ⟨a, us, ps, rfl, _⟩ := h
    rfl
  · obtain ⟨a, us, ps, rfl, hS, hP, hlen, q⟩ := h
    refine ⟨_, pss_cons (ps_set (i := 1) scTidy.nd rfl (.inl rfl) (pe_lst pa_nil))
      (pss_cons (ps_for PassesOwn.never rfl (pi_list (pe_callB cr_sortedPO (by rfl) ms (by decide +kernel) (pa_cons
            (pe_lc (own := [("pair", 4)]) (g := gName 4) rfl scTidy.nd (pi_list (pv 0)) (blkOk_by (own := [("pair", 4)]) (N := nTidy) (sc := defScope sTidy) (by decide +kernel)) (fun _ _ _ _ _ => pg_name (i := 4) scTidy.nd rfl (Or.inl rfl))
              (fun _ _ _ _ _ => pts_one (pt_cmpR op_le (pe_ix (show IxR _ (rIxT K) from ix_tup) (pv 4) pe_int (fun _ _ => rfl)) (pe_ix (show IxR _ (rIxT K) from ix_tup) (pv 4) pe_int (fun _ _ => rfl)) (nomark _))) (fun _ _ _ _ _ => pv 4)) pa_nil)))
          (pg_tup rfl (pgs_cons (pg_name (i := 2) scTidy.nd rfl (.inl rfl)) (pgs_cons (pg_name (i := 3) scTidy.nd rfl (.inl rfl)) pgs_nil)))
        (pss_one (ps_if (PW.pt (pw_and (pt_cmpR op_gt (pe_callB call_len_seq (by rfl) ml PySem.boot_len (pa_cons (pv 1) pa_nil)) pe_int (nomark _))
              (pw_and1 (pt_cmpR op_le (pv 2) (pe_op op_add (pe_ix ix_tup (pe_ix ix_list (pv 1) (pe_un un_neg pe_int) (fun _ _ => rfl)) pe_int (fun _ _ => rfl)) pe_int) (nomark _)))))
            (pss_one (ps_asg (pe_tup (pa_cons (pe_ix ix_tup (pe_ix ix_list (pv 1) (pe_un un_neg pe_int) (fun _ _ => rfl)) pe_int (fun _ _ => rfl))
                (pa_cons (pe_callB (call_max2 rfl) (by rfl) mm (by decide +kernel) (pa_cons (pe_ix ix_tup (pe_ix ix_list (pv 1) (pe_un un_neg pe_int) (fun _ _ => rfl)) pe_int (fun _ _ => rfl)) (pa_cons (pv 3) pa_nil))) pa_nil)))
              (pg_sub (pv 1) (pe_un un_neg pe_int) set_list)))
            (pss_one (ps_expr (pe_bm PySem.F.plainAttrs_list PySem.F.slot_list_append PySem.F.type_list_append mt_append (pv 1) (pa_cons (pe_tup (pa_cons (pv 2) (pa_cons (pv 3) pa_nil))) pa_nil)))))))
      (pss_one (ps_ret (pe_callTy call_tuple_of (by rfl) mt (by decide +kernel) (pa_cons (pv 1) pa_nil))))), ?_⟩
    -- told = []
    refine ⟨Nat.zero_le _, fun o no => ?_⟩
    have e1 : Ex H (upd H o (.lst [])) := Ex.new no
    -- the comprehension
    refine ⟨.ref a, rfl, a, rfl, ⟨_, ex_l e1 hS⟩, fun D nD => ?_⟩
    have nDo : o ≠ D := ne_of_none upd_same nD
    refine lc_list (xs := us) (fun i H' => Ex (upd H o (.lst [])) H' ∧ ∃ acc, H' D = some (.lst acc) ∧ PPs H' acc ((ps.take i).filter fun p => decide (p.1 ≤ p.2)) ∧ acc.length ≤ i) ⟨Ex.new nD, [], upd_same, .nil, Nat.le_refl _⟩ (fun i H' _ p => ex_l (e1.trans p.1) hS) (fun i x H' hi p => ?_) (fun H' p => ?_)
    · obtain ⟨p1, acc, p2, p3, p4⟩ := p
      obtain ⟨pp, hp, t, rfl, ht⟩ := pps_get (pps_mono (e1.trans p1) hP) hi
      have hT : SqT K H' t [.int pp.1, .int pp.2] := st_of ht
      refine ⟨rfl, ?_⟩
      refine et_test (ev_op (ev_op (ev_var rfl) ev_c (rv_ixT hT (atI_nat (j := 0) rfl))) (ev_op (ev_var rfl) ev_c (rv_ixT hT (atI_nat (j := 1) rfl))) rv_I0) H' (Ex.refl H') _ fun H3 e3 => ?_
      have hD3 : H3 D = some (.lst acc) := e3 _ _ p2
      have hacc := pps_mono e3 p3
      refine ite2 (fun c => ?_) (fun c => ?_)
      · have c' : pp.1 ≤ pp.2 := of_decide_eq_true c
        refine ⟨.ref t, rfl, acc, hD3, sz_lt (by have := (List.getElem?_eq_some_iff.mp hi).1; have := hP.length; omega), Ex.mut (p1.trans e3) nD, acc ++ [.ref t], upd_same, ?_, ?_⟩
        · rw [take_snoc hp, List.filter_append, show [pp].filter (fun p => decide (p.1 ≤ p.2)) = [pp] by rw [List.filter_cons, if_pos c] <;> rfl]
          exact pps_append (pps_wr hacc hD3) (pps_one (PP.wr ⟨t, rfl, e3 _ _ ht⟩ hD3))
        · rw [List.length_append, List.length_singleton]
          omega
      · refine ⟨p1.trans e3, acc, hD3, ?_, by omega⟩
        rw [take_snoc hp, List.filter_append, show [pp].filter (fun p => decide (p.1 ≤ p.2)) = [] by rw [List.filter_cons, if_neg c] <;> rfl, List.append_nil]
        exact hacc
    · obtain ⟨p1, acc, p2, p3, p4⟩ := p
      have hlu := hP.length
      rw [List.take_of_length_le (by omega)] at p3
      have e2 : Ex H H' := e1.trans p1
      -- sorted
      refine ⟨D, acc, pr H', rfl, sq_of p2, fun x hx => pps_all p3 x hx, fun ys S srt stb nS => ?_⟩
      have hys : PPs H' ys (ys.map (pr H')) := pps_of fun x hx => pps_all p3 x (stb.perm.mem_iff.mp hx)
      have hlow := srtd_low srt
      have hperm : (ys.map (pr H')).Perm (ps.filter fun p => decide (p.1 ≤ p.2)) := by
        rw [← pps_map p3]
        exact stb.perm.map _
      have hord : ∀ y ∈ ys.map (pr H'), y.1 ≤ y.2 := fun y hy => of_decide_eq_true (List.mem_filter.mp (hperm.mem_iff.mp hy)).2
      have hyl : (ys.map (pr H')).length ≤ 1000 := by
        rw [hperm.length_eq]
        exact Nat.le_trans (List.length_filter_le _ _) hlen
      have ho2 : H' o = some (.lst []) := p1 _ _ upd_same
      have nSo : o ≠ S := ne_of_none ho2 nS
      generalize hk : ys.map (pr H') = kys at *
      have eS : Ex H' (upd H' S (.lst ys)) := Ex.new nS
      -- the loop
      refine ⟨S, rfl, ⟨ys, sq_of upd_same⟩, for_list (xs := ys) (fun i σ' H'' => ∃ y2 y3 told tvs, σ' = [some (.ref a), some (.ref o), y2, y3, none] ∧ Ex H H'' ∧ H'' S = some (.lst ys) ∧ PPs H'' ys kys ∧ H'' o = some (.lst tvs) ∧ PPs H'' tvs told ∧ TidyInv kys i told)
        ⟨none, none, [], [], rfl, e2.trans eS, upd_same, pps_mono eS hys, by rw [upd_ne nSo]; exact ho2, .nil, tidy_start _⟩ (fun i σ' H'' _ p => ?_) (fun i x σ' H'' hi p => ?_) (fun σ' H'' p => ?_)⟩
      · obtain ⟨y2, y3, told, tvs, _, _, h3, _⟩ := p
        exact sq_of h3
      · obtain ⟨y2, y3, told, tvs, rfl, h2, h3, h4, h5, h6, I⟩ := p
        obtain ⟨y, hy, t, rfl, ht⟩ := pps_get h4 hi
        have hyo := hord y (List.mem_of_getElem? hy)
        have hil := (List.getElem?_eq_some_iff.mp hy).1
        have htl : tvs.length < 100000 := by
          have := h6.length
          have := I.len
          omega
        refine ⟨t, [.int y.1, .int y.2], rfl, st_of ht, rfl, .int y.1, [.int y.2], rfl, .int y.2, [], rfl, rfl, ?_⟩
        -- what an append leaves
        have app : ∀ (H4 : Hp) (p : Addr) (H5 : Hp), Ex H'' H4 → H4 p = none → Ex H4 H5 → H5 p = some (.tup [.int y.1, .int y.2]) → (told = [] ∨ ∃ t0 l, told = t0 ++ [l] ∧ l.2 + 1 < y.1) →
            ∃ (y2 y3 : Option V) (told' : List Pr) (tvs' : List V), ([some (V.ref a), some (V.ref o), some (V.int y.1), some (V.int y.2), none] : L2.St) = [some (V.ref a), some (V.ref o), y2, y3, none] ∧ Ex H (upd H5 o (.lst (tvs ++ [.ref p]))) ∧ (upd H5 o (.lst (tvs ++ [.ref p]))) S = some (.lst ys) ∧ PPs (upd H5 o (.lst (tvs ++ [.ref p]))) ys kys ∧ (upd H5 o (.lst (tvs ++ [.ref p]))) o = some (.lst tvs') ∧ PPs (upd H5 o (.lst (tvs ++ [.ref p]))) tvs' told' ∧ TidyInv kys (i + 1) told' := by
          intro H4 p H5 e4 np e5 hp hc
          have eo : H5 o = some (.lst tvs) := (e4.trans e5) _ _ h5
          refine ⟨_, _, told ++ [y], tvs ++ [.ref p], rfl, Ex.mut ((h2.trans e4).trans e5) no, ?_, pps_wr (pps_mono (e4.trans e5) h4) eo, upd_same, pps_append (pps_wr (pps_mono (e4.trans e5) h6) eo) (pps_one (PP.wr ⟨p, rfl, hp⟩ eo)), tidy_new I hy hyo hlow hc⟩
          rw [upd_ne nSo.symm]
          exact (e4.trans e5) _ _ h3
        rcases nil_or_snoc told with e | ⟨t0, l, e⟩
        · subst e
          cases h6
          refine s_if (b := false) (et_is (et_and (a := false) (b := false) (et_is (et_test (ev_op (ev_len (ev_var rfl) (sq_of h5)) ev_c rv_I0)) (by decide)) (fun z => by cases z)) (b := false) rfl) (fun z => by cases z) (fun _ H4 e4 => ?_)
          exact s_appU (xs := []) (e4 _ _ h5) (ev_var rfl) (eu_tup (ea_cons (ev_var rfl) (ea_cons (ev_var rfl) ea_nil)) (show 2 ≤ 100000 by decide)) (by decide) fun p H5 np e5 hp => app H4 p H5 e4 np e5 hp (.inl rfl)
        · subst e
          obtain ⟨us', v, rfl, h7, t1, rfl, ht1⟩ := pps_split h6
          have el : ∀ H4, Ex H'' H4 → ∀ (y : Int) (j : Nat) σ2, σ2[1]? = some (some (.ref o)) → [V.int l.1, V.int l.2][j]? = some (.int y) → Ev (tOp (rIxT K) (tOp (rIxL K) (tVar 1) (tUn (rU fun i => .int (-i)) (tC (.int 1)))) (tC (.int (j : Int)))) σ2 H4 (.int y) := fun H4 e4 y j σ2 hσ hj =>
            ev_op (ev_op (ev_var hσ) (ev_un ev_c ru_neg) (rv_ixL (sq_of (e4 _ _ h5)) (atI_snoc us' (.ref t1)))) ev_c (rv_ixT (st_of (e4 _ _ ht1)) (atI_nat hj))
          refine s_if (b := decide (y.1 ≤ l.2 + 1)) (et_is (et_and (a := true) (et_is (et_test (ev_op (ev_len (ev_var rfl) (sq_of h5)) ev_c rv_I0)) (decide_eq_true (by rw [List.length_append, List.length_singleton]; omega))) (fun _ => et_test (ev_op (ev_var rfl) (ev_op (el H'' (Ex.refl _) l.2 1 _ rfl rfl) ev_c rv_I0) rv_I0))) (Bool.true_and _)) (fun c H4 e4 => ?_) (fun c H4 e4 => ?_)
          · have c' := of_decide_eq_true c
            refine eu_tup (ea_cons (el H4 e4 l.1 0 _ rfl rfl) (ea_cons (ev_max2 (el H4 e4 l.2 1 _ rfl rfl) (ev_var rfl)) ea_nil)) (show 2 ≤ 100000 by decide) H4 (Ex.refl _) _ fun p H5 np e5 hp => ?_
            have eo : H5 o = some (.lst (us' ++ [.ref t1])) := (e4.trans e5) _ _ h5
            refine ⟨.ref o, rfl, 1, rfl, o, us' ++ [.ref t1], -1, (us' ++ [V.ref t1]).length - 1, rfl, rfl, eo, ixN_last (by rw [List.length_append, List.length_singleton]; omega), ?_⟩
            rw [set_snoc]
            refine ⟨_, _, t0 ++ [(l.1, if y.2 > l.2 then y.2 else l.2)], us' ++ [.ref p], rfl, Ex.mut ((h2.trans e4).trans e5) no, ?_, pps_wr (pps_mono (e4.trans e5) h4) eo, upd_same, pps_append (pps_wr (pps_mono (e4.trans e5) h7) eo) (pps_one (PP.wr ⟨p, rfl, hp⟩ eo)), tidy_join I hy hyo hlow c'⟩
            rw [upd_ne nSo.symm]
            exact (e4.trans e5) _ _ h3
          · have c' := of_decide_eq_false c
            exact s_appU (e4 _ _ h5) (ev_var rfl) (eu_tup (ea_cons (ev_var rfl) (ea_cons (ev_var rfl) ea_nil)) (show 2 ≤ 100000 by decide)) htl fun p H5 np e5 hp => app H4 p H5 e4 np e5 hp (.inr ⟨t0, l, rfl, by omega⟩)
      · obtain ⟨y2, y3, told, tvs, rfl, h2, h3, h4, h5, h6, I⟩ := p
        have hl4 := h4.length
        rw [hl4] at I
        obtain ⟨g1, g2, g3⟩ := tidy_end I
        refine ⟨.ref o, rfl, o, tvs, rfl, .inl ⟨sq_of h5, fun r nr => ?_⟩⟩
        exact q _ r told (h2.trans (Ex.new nr)) ⟨tvs, upd_same, pps_mono (Ex.new nr) h6⟩ g1 fun t => by rw [g2 t, mem_perm hperm t, mem_filter]
end
end K29

namespace K29
open PySem PySem.Spec PyProof.Rows L2 Evl
section
variable {K : PySem.W.Frag} {σ : L2.St} {H : Hp} {ta tb : TE}
theorem ev_lenT {p : Addr} {xs : List V} (ha : Ev ta σ H (.ref p)) (h : SqT K H p xs) : Ev (tCB (rLenS K) (tCons ta tNil)) σ H (.int (xs.length : Int)) := fun H1 e Q q =>
  ha H1 e _ fun H2 e2 => ⟨p, xs, rfl, Or.inr (ex_t (e.trans e2) h), q H2 e2⟩
def rMin2 : List V → Hp → VK → Prop := fun xs H Q => ∃ i j, xs = [.int i, .int j] ∧ Q (.int (if j < i then j else i)) H
theorem ev_min2 {i j : Int} (ha : Ev ta σ H (.int i)) (hb : Ev tb σ H (.int j)) : Ev (tCB rMin2 (tCons ta (tCons tb tNil))) σ H (.int (if j < i then j else i)) := fun H1 e Q q =>
  ha H1 e _ fun H2 e2 => hb H2 (e.trans e2) _ fun H3 e3 => ⟨i, j, rfl, q H3 (e2.trans e3)⟩
/-- o[i][0], o[i][1], o a tuple of pairs -/
theorem ev_pick0 {a : Addr} {vs : List V} {v : V} {p : Pr} {i : Nat} (ho : Ev ta σ H (.ref a)) (hi : Ev tb σ H (.int (i : Int))) (S : SqT K H a vs) (hv : vs[i]? = some v) (pp : PP H v p) :
    Ev (tOp (rIxT K) (tOp (rIxT K) ta tb) (tC (.int 0))) σ H (.int p.1) := by
  obtain ⟨t, rfl, ht⟩ := pp
  exact ev_op (ev_op ho hi (rv_ixT S (atI_nat hv))) ev_c (rv_ixT (st_of ht) (atI_nat (j := 0) rfl))
theorem ev_pick1 {a : Addr} {vs : List V} {v : V} {p : Pr} {i : Nat} (ho : Ev ta σ H (.ref a)) (hi : Ev tb σ H (.int (i : Int))) (S : SqT K H a vs) (hv : vs[i]? = some v) (pp : PP H v p) :
    Ev (tOp (rIxT K) (tOp (rIxT K) ta tb) (tC (.int 1))) σ H (.int p.2) := by
  obtain ⟨t, rfl, ht⟩ := pp
  exact ev_op (ev_op ho hi (rv_ixT S (atI_nat hv))) ev_c (rv_ixT (st_of ht) (atI_nat (j := 1) rfl))
end
section
variable {P : Program} {w : World} {K : PySem.W.Frag} {mg : Str → Option Value} {base : Heap}
theorem ok_both {f : Addr} {fd : FuncData} {k : Nat} (F : Fun K "both" "both" sBoth f fd) (ml : mg "len" = none) (mm : mg "max" = none) (mn : mg "min" = none) (mt : mg "tuple" = none) : FnOk P w K mg base CX0 (k + 1) f fd ["one", "other"] (spBoth) := by
  refine F.ok scBoth (fun vs H Q E h => ?_) (fun cdv A outer s H vs Q E hr h => ?_)
  · obtain ⟨a, b, ps, qs, rfl, _⟩ := h
    rfl
  · obtain ⟨a, b, ps, qs, rfl, ⟨vs1, hA, hP⟩, ⟨vs2, hB, hQ⟩, gp, gq, lp, lq, q⟩ := h
    refine ⟨_, pss_cons (ps_set (i := 2) scBoth.nd rfl (.inl rfl) (pe_lst pa_nil))
      (pss_cons (ps_set (i := 3) scBoth.nd rfl (.inl rfl) pe_int)
      (pss_cons (ps_set (i := 4) scBoth.nd rfl (.inl rfl) pe_int)
      (pss_cons (ps_while PassesOwn.never (PW.pt (pw_and (pt_cmpR op_lt (pv 3) (pe_callB call_len_seq (by rfl) ml PySem.boot_len (pa_cons (pv 0) pa_nil)) (nomark _))
            (pw_and1 (pt_cmpR op_lt (pv 4) (pe_callB call_len_seq (by rfl) ml PySem.boot_len (pa_cons (pv 1) pa_nil)) (nomark _)))))
          (pss_cons (ps_set (i := 5) scBoth.nd rfl (.inl rfl) (pe_callB (call_max2 rfl) (by rfl) mm (by decide +kernel)
              (pa_cons (pe_ix ix_tup (pe_ix ix_tup (pv 0) (pv 3) (fun _ _ => rfl)) pe_int (fun _ _ => rfl)) (pa_cons (pe_ix ix_tup (pe_ix ix_tup (pv 1) (pv 4) (fun _ _ => rfl)) pe_int (fun _ _ => rfl)) pa_nil))))
          (pss_cons (ps_set (i := 6) scBoth.nd rfl (.inl rfl) (pe_callB (call_min2 rfl) (by rfl) mn (by decide +kernel)
              (pa_cons (pe_ix ix_tup (pe_ix ix_tup (pv 0) (pv 3) (fun _ _ => rfl)) pe_int (fun _ _ => rfl)) (pa_cons (pe_ix ix_tup (pe_ix ix_tup (pv 1) (pv 4) (fun _ _ => rfl)) pe_int (fun _ _ => rfl)) pa_nil))))
          (pss_cut (ps_if (pt_cmpR op_le (pv 5) (pv 6) (nomark _))
              (pss_one (ps_expr (pe_bm PySem.F.plainAttrs_list PySem.F.slot_list_append PySem.F.type_list_append mt_append (pv 2) (pa_cons (pe_tup (pa_cons (pv 5) (pa_cons (pv 6) pa_nil))) pa_nil)))) pss_nil)
          (pss_one (ps_if (pt_cmpR op_lt (pe_ix ix_tup (pe_ix ix_tup (pv 0) (pv 3) (fun _ _ => rfl)) pe_int (fun _ _ => rfl)) (pe_ix ix_tup (pe_ix ix_tup (pv 1) (pv 4) (fun _ _ => rfl)) pe_int (fun _ _ => rfl)) (nomark _))
              (pss_one (ps_aug (i := 3) scBoth.nd rfl (.inl rfl) pe_int ip_add)) (pss_one (ps_aug (i := 4) scBoth.nd rfl (.inl rfl) pe_int ip_add))))))))
      (pss_one (ps_ret (pe_callTy call_tuple_of (by rfl) mt (by decide +kernel) (pa_cons (pv 2) pa_nil))))))), ?_⟩
    refine ⟨Nat.zero_le _, fun o no => ?_⟩
    have e1 : Ex H (upd H o (.lst [])) := Ex.new no
    have l1 := hP.length
    have l2 := hQ.length
    refine q_while (fun m σ' H' => ∃ (i j : Nat) (y5 y6 : Option V) (told : List Pr) (tvs : List V), m = (ps.length - i) + (qs.length - j) ∧ i ≤ ps.length ∧ j ≤ qs.length ∧ σ' = [some (.ref a), some (.ref b), some (.ref o), some (.int (i : Int)), some (.int (j : Int)), y5, y6] ∧ Ex H H' ∧ H' o = some (.lst tvs) ∧ PPs H' tvs told ∧ BothInv ps qs i j told)
      _ ⟨0, 0, none, none, [], [], rfl, Nat.zero_le _, Nat.zero_le _, rfl, e1, upd_same, .nil, both_start _ _⟩ (fun m σ' H' hW => ?_)
    obtain ⟨i, j, y5, y6, told, tvs, hm, hi, hj, rfl, e2, ho, ht, I⟩ := hW
    have sA : SqT K H' a vs1 := st_of (e2 _ _ hA)
    have sB : SqT K H' b vs2 := st_of (e2 _ _ hB)
    refine ⟨decide ((i : Int) < (vs1.length : Int)) && decide ((j : Int) < (vs2.length : Int)), et_and (et_test (ev_op (ev_var rfl) (ev_lenT (ev_var rfl) sA) rv_I0)) (fun _ => et_test (ev_op (ev_var rfl) (ev_lenT (ev_var rfl) sB) rv_I0)), fun c H3 e3 => ?_, fun c H3 e3 => ?_⟩
    · obtain ⟨c1, c2⟩ := Bool.and_eq_true_iff.mp c
      have c1' := of_decide_eq_true c1
      have c2' := of_decide_eq_true c2
      have hi' : i < ps.length := by omega
      have hj' : j < qs.length := by omega
      have hx : ps[i]? = some ps[i] := List.getElem?_eq_getElem hi'
      have hy : qs[j]? = some qs[j] := List.getElem?_eq_getElem hj'
      generalize ps[i] = x at hx
      generalize qs[j] = y at hy
      obtain ⟨v1, hv1, pp1⟩ := pps_at hP hx
      obtain ⟨v2, hv2, pp2⟩ := pps_at hQ hy
      refine ⟨fun σ2 H2 => ∃ m', m' < m ∧ ∃ (i j : Nat) (y5 y6 : Option V) (told : List Pr) (tvs : List V), m' = (ps.length - i) + (qs.length - j) ∧ i ≤ ps.length ∧ j ≤ qs.length ∧ σ2 = [some (.ref a), some (.ref b), some (.ref o), some (.int (i : Int)), some (.int (j : Int)), y5, y6] ∧ Ex H H2 ∧ H2 o = some (.lst tvs) ∧ PPs H2 tvs told ∧ BothInv ps qs i j told, fun _ _ n => n, ?_⟩
      have e3' : Ex H H3 := e2.trans e3
      refine q_asg (ev_max2 (ev_pick0 (ev_var rfl) (ev_var rfl) (st_of (e3' _ _ hA)) hv1 (pp1.mono e3')) (ev_pick0 (ev_var rfl) (ev_var rfl) (st_of (e3' _ _ hB)) hv2 (pp2.mono e3'))) fun H4 e4 => ?_
      have e4' : Ex H H4 := e3'.trans e4
      refine q_asg (ev_min2 (ev_pick1 (ev_var rfl) (ev_var rfl) (st_of (e4' _ _ hA)) hv1 (pp1.mono e4')) (ev_pick1 (ev_var rfl) (ev_var rfl) (st_of (e4' _ _ hB)) hv2 (pp2.mono e4'))) fun H5 e5 => ?_
      have e5' : Ex H H5 := e4'.trans e5
      have ho5 : H5 o = some (.lst tvs) := ((e3.trans e4).trans e5) _ _ ho
      have ht5 := pps_mono ((e3.trans e4).trans e5) ht
      have htl : tvs.length < 100000 := by
        have := ht.length
        have := I.len
        omega
      refine q_cut (M := fun σ6 H6 => σ6 = [some (.ref a), some (.ref b), some (.ref o), some (.int (i : Int)), some (.int (j : Int)), some (.int (if y.1 > x.1 then y.1 else x.1)), some (.int (if y.2 < x.2 then y.2 else x.2))] ∧ Ex H H6 ∧ ∃ tvs', H6 o = some (.lst tvs') ∧ PPs H6 tvs' (bothPut x y told)) ?_ ?_
      · refine s_when (et_test (ev_op (ev_var rfl) (ev_var rfl) rv_I0)) (fun c H6 e6 => ?_) (fun c H6 e6 => ?_)
        · refine s_appU (e6 _ _ ho5) (ev_var rfl) (eu_tup (ea_cons (ev_var rfl) (ea_cons (ev_var rfl) ea_nil)) (show 2 ≤ 100000 by decide)) htl fun p H7 np e7 hp => ?_
          have ho7 : H7 o = some (.lst tvs) := (e6.trans e7) _ _ ho5
          refine ⟨rfl, Ex.mut ((e5'.trans e6).trans e7) no, _, upd_same, ?_⟩
          unfold bothPut
          rw [if_pos (of_decide_eq_true c)]
          exact pps_append (pps_wr (pps_mono (e6.trans e7) ht5) ho7) (pps_one (PP.wr ⟨p, rfl, hp⟩ ho7))
        · refine ⟨rfl, e5'.trans e6, tvs, e6 _ _ ho5, ?_⟩
          unfold bothPut
          rw [if_neg (of_decide_eq_false c)]
          exact pps_mono e6 ht5
      · rintro σ6 H6 ⟨rfl, e6, tvs', ho6, ht6⟩
        refine s_if (et_test (ev_op (ev_pick1 (ev_var rfl) (ev_var rfl) (st_of (e6 _ _ hA)) hv1 (pp1.mono e6)) (ev_pick1 (ev_var rfl) (ev_var rfl) (st_of (e6 _ _ hB)) hv2 (pp2.mono e6)) rv_I0)) (fun c H7 e7 => ?_) (fun c H7 e7 => ?_)
        · refine s_aug (a := (i : Int)) (b := 1) rfl ev_c fun H8 e8 => ?_
          exact ⟨(ps.length - (i + 1)) + (qs.length - j), by omega, i + 1, j, _, _, _, tvs', rfl, by omega, hj, rfl, (e6.trans e7).trans e8, (e7.trans e8) _ _ ho6, pps_mono (e7.trans e8) ht6, both_left I gp gq hx hy (of_decide_eq_true c)⟩
        · refine s_aug (a := (j : Int)) (b := 1) rfl ev_c fun H8 e8 => ?_
          exact ⟨(ps.length - i) + (qs.length - (j + 1)), by omega, i, j + 1, _, _, _, tvs', rfl, hi, by omega, rfl, (e6.trans e7).trans e8, (e7.trans e8) _ _ ho6, pps_mono (e7.trans e8) ht6, both_right I gp gq hx hy (of_decide_eq_false c)⟩
    · have c' : ps.length ≤ i ∨ qs.length ≤ j := by
        rcases Bool.and_eq_false_iff.mp c with c | c
        · have := of_decide_eq_false c
          exact .inl (by omega)
        · have := of_decide_eq_false c
          exact .inr (by omega)
      obtain ⟨g1, g2⟩ := both_end I c'
      refine ⟨.ref o, rfl, o, tvs, rfl, .inl ⟨sq_of (e3 _ _ ho), fun r nr => ?_⟩⟩
      exact q _ r told ((e2.trans e3).trans (Ex.new nr)) ⟨tvs, upd_same, pps_mono (e3.trans (Ex.new nr)) ht⟩ g1 g2
end
end K29

namespace K29
open PySem PySem.Spec PyProof.Rows L2 Evl
section
variable {P : Program} {w : World} {K : PySem.W.Frag} {mg : Str → Option Value} {base : Heap}
theorem ok_either {f fT : Addr} {fd fdT : FuncData} {k : Nat} (F : Fun K "either" "either" sEither f fd) (FT : Fun K "tidy" "tidy" sTidy fT fdT) (bT : Binds K fdT ["pairs"] []) (gT : mg "tidy" = some (.ref fT))
    (GT : FnOk P w K mg base CX0 k fT fdT ["pairs"] (spTidy K)) (ml : mg "list" = none) : FnOk P w K mg base CX0 (k + 1) f fd ["one", "other"] spEither := by
  refine F.ok scEither (fun vs H Q E h => ?_) (fun cdv A outer s H vs Q E hr h => ?_)
  · obtain ⟨a, b, ps, qs, rfl, _⟩ := h
    rfl
  · obtain ⟨a, b, ps, qs, rfl, ⟨vs1, hA, hP⟩, ⟨vs2, hB, hQ⟩, lp, lq, q⟩ := h
    refine ⟨_, pss_one (ps_ret (pe_call GT hr (by rfl) gT FT.kp bT .nil pass0 (pa_cons (pe_op op_cat (pe_callTy call_list_of (by rfl) ml (by decide +kernel) (pa_cons (pv 0) pa_nil)) (pe_callTy call_list_of (by rfl) ml (by decide +kernel) (pa_cons (pv 1) pa_nil))) pa_nil))), ?_⟩
    have l1 := hP.length
    have l2 := hQ.length
    refine ⟨.ref a, rfl, a, vs1, rfl, .inr (st_of hA), fun x1 n1 => ?_⟩
    have e1 : Ex H (upd H x1 (.lst vs1)) := Ex.new n1
    refine ⟨.ref b, rfl, b, vs2, rfl, .inr (st_of (e1 _ _ hB)), fun x2 n2 => ?_⟩
    have e2 : Ex (upd H x1 (.lst vs1)) (upd (upd H x1 (.lst vs1)) x2 (.lst vs2)) := Ex.new n2
    refine ⟨x1, x2, vs1, vs2, rfl, rfl, e2 _ _ upd_same, upd_same, sz_of (by omega), fun p np => ?_⟩
    have e3 : Ex H (upd (upd (upd H x1 (.lst vs1)) x2 (.lst vs2)) p (.lst (vs1 ++ vs2))) := (e1.trans e2).trans (Ex.new np)
    refine ⟨p, vs1 ++ vs2, ps ++ qs, rfl, sq_of upd_same, pps_append (pps_mono e3 hP) (pps_mono e3 hQ), by rw [List.length_append]; omega, fun H' r rs e sp g m => ?_⟩
    exact q H' r rs (e3.trans e) sp g fun t => (m t).trans mem_append
theorem len_bound {i j n l : Nat} (h : l ≤ i * (n + 1) + j) (hi : i ≤ 100) (hn : n ≤ 100) (hj : j ≤ 100) : l < 100000 := by
  have : i * (n + 1) ≤ 100 * 101 := Nat.mul_le_mul hi (by omega)
  omega
theorem ok_without {f : Addr} {fd : FuncData} {k : Nat} (F : Fun K "without" "without" sWithout f fd) (mt : mg "tuple" = none) : FnOk P w K mg base CX0 (k + 1) f fd ["one", "other"] spWithout := by
  refine F.ok scWithout (fun vs H Q E h => ?_) (fun cdv A outer s H vs Q E hr h => ?_)
  · obtain ⟨a, b, ps, qs, rfl, _⟩ := h
    rfl
  · obtain ⟨a, b, ps, qs, rfl, ⟨vs1, hA, hP⟩, ⟨vs2, hB, hQ⟩, gp, gq, lp, lq, q⟩ := h
    refine ⟨_, pss_cons (ps_set (i := 2) scWithout.nd rfl (.inl rfl) (pe_lst pa_nil))
      (pss_cons (ps_for PassesOwn.never rfl (pi_tup (pv 0)) (pg_tup rfl (pgs_cons (pg_name (i := 3) scWithout.nd rfl (.inl rfl)) (pgs_cons (pg_name (i := 4) scWithout.nd rfl (.inl rfl)) pgs_nil)))
          (pss_cons (ps_set (i := 5) scWithout.nd rfl (.inl rfl) (pv 3))
          (pss_cons (ps_for PassesOwn.never rfl (pi_tup (pv 1)) (pg_tup rfl (pgs_cons (pg_name (i := 6) scWithout.nd rfl (.inl rfl)) (pgs_cons (pg_name (i := 7) scWithout.nd rfl (.inl rfl)) pgs_nil)))
              (pss_one (ps_if (PW.pt (pw_and (pt_cmpR op_le (pv 6) (pv 4) (nomark _)) (pw_and1 (pt_cmpR op_ge (pv 7) (pv 5) (nomark _)))))
                (pss_cut (ps_if (pt_cmpR op_gt (pv 6) (pv 5) (nomark _))
                    (pss_one (ps_expr (pe_bm PySem.F.plainAttrs_list PySem.F.slot_list_append PySem.F.type_list_append mt_append (pv 2) (pa_cons (pe_tup (pa_cons (pv 5) (pa_cons (pe_op op_sub (pv 6) pe_int) pa_nil))) pa_nil)))) pss_nil)
                  (pss_one (ps_set (i := 5) scWithout.nd rfl (.inl rfl) (pe_op op_add (pv 7) pe_int)))) pss_nil)))
          (pss_one (ps_if (pt_cmpR op_le (pv 5) (pv 4) (nomark _))
              (pss_one (ps_expr (pe_bm PySem.F.plainAttrs_list PySem.F.slot_list_append PySem.F.type_list_append mt_append (pv 2) (pa_cons (pe_tup (pa_cons (pv 5) (pa_cons (pv 4) pa_nil))) pa_nil)))) pss_nil)))))
      (pss_one (ps_ret (pe_callTy call_tuple_of (by rfl) mt (by decide +kernel) (pa_cons (pv 2) pa_nil))))), ?_⟩
    refine ⟨Nat.zero_le _, fun o no => ?_⟩
    have e1 : Ex H (upd H o (.lst [])) := Ex.new no
    have l1 := hP.length
    have l2 := hQ.length
    refine q_forT (ev_var rfl) (st_of (e1 _ _ hA)) (fun i σ' H' => ∃ (y3 y4 y5 y6 y7 : Option V) (told : List Pr) (tvs : List V), σ' = [some (.ref a), some (.ref b), some (.ref o), y3, y4, y5, y6, y7] ∧ Ex H H' ∧ H' o = some (.lst tvs) ∧ PPs H' tvs told ∧ OutInv ps qs i told)
      (fun H1 e => ⟨none, none, none, none, none, [], [], rfl, e1.trans e, e _ _ upd_same, .nil, out_start _ _⟩) (fun i σ' H' _ p => ?_) (fun i v σ' H' hi p => ?_) (fun σ' H' p => ?_)
    · obtain ⟨_, _, _, _, _, _, _, _, e2, _⟩ := p
      exact st_of (e2 _ _ hA)
    · obtain ⟨y3, y4, y5, y6, y7, told, tvs, rfl, e2, ho, ht, I⟩ := p
      obtain ⟨x, hx, t, rfl, hxt⟩ := pps_get (pps_mono e2 hP) hi
      have hil := (List.getElem?_eq_some_iff.mp hx).1
      refine ⟨t, [.int x.1, .int x.2], rfl, st_of hxt, rfl, .int x.1, [.int x.2], rfl, .int x.2, [], rfl, rfl, ?_⟩
      refine q_asg (ev_var rfl) fun H3 e3 => ?_
      have e3' : Ex H H3 := e2.trans e3
      refine q_forT (ev_var rfl) (st_of (e3' _ _ hB)) (fun j σ' H' => ∃ (y6 y7 : Option V) (bg : Int) (told : List Pr) (tvs : List V), σ' = [some (.ref a), some (.ref b), some (.ref o), some (.int x.1), some (.int x.2), some (.int bg), y6, y7] ∧ Ex H H' ∧ H' o = some (.lst tvs) ∧ PPs H' tvs told ∧ InInv ps qs i x j bg told)
        (fun H1 e => ⟨y6, y7, x.1, told, tvs, rfl, e3'.trans e, (e3.trans e) _ _ ho, pps_mono (e3.trans e) ht, in_start I gp hx⟩) (fun j σ' H' _ p => ?_) (fun j v σ' H' hj p => ?_) (fun σ' H' p => ?_)
      · obtain ⟨_, _, _, _, _, _, e4, _⟩ := p
        exact st_of (e4 _ _ hB)
      · obtain ⟨y6, y7, bg, told, tvs, rfl, e4, ho, ht, J⟩ := p
        obtain ⟨y, hy, u, rfl, hyt⟩ := pps_get (pps_mono e4 hQ) hj
        have hjl := (List.getElem?_eq_some_iff.mp hy).1
        have htl : tvs.length < 100000 := by
          have := ht.length
          have := len_bound J.len (by omega) (by omega) (by omega)
          omega
        refine ⟨u, [.int y.1, .int y.2], rfl, st_of hyt, rfl, .int y.1, [.int y.2], rfl, .int y.2, [], rfl, rfl, ?_⟩
        refine s_when (et_and (et_test (ev_op (ev_var rfl) (ev_var rfl) rv_I0)) (fun _ => et_test (ev_op (ev_var rfl) (ev_var rfl) rv_I0))) (fun c H5 e5 => ?_) (fun c H5 e5 => ?_)
        · obtain ⟨c1, c2⟩ := Bool.and_eq_true_iff.mp c
          have c1' := of_decide_eq_true c1
          have c2' := of_decide_eq_true c2
          refine q_cut (M := fun σ6 H6 => σ6 = [some (.ref a), some (.ref b), some (.ref o), some (.int x.1), some (.int x.2), some (.int bg), some (.int y.1), some (.int y.2)] ∧ Ex H H6 ∧ ∃ tvs', H6 o = some (.lst tvs') ∧ PPs H6 tvs' (if y.1 > bg then told ++ [(bg, y.1 - 1)] else told)) ?_ ?_
          · refine s_when (et_test (ev_op (ev_var rfl) (ev_var rfl) rv_I0)) (fun c H6 e6 => ?_) (fun c H6 e6 => ?_)
            · refine s_appU ((e5.trans e6) _ _ ho) (ev_var rfl) (eu_tup (ea_cons (ev_var rfl) (ea_cons (ev_op (ev_var rfl) ev_c rv_I0) ea_nil)) (show 2 ≤ 100000 by decide)) htl fun p H7 np e7 hp => ?_
              have ho7 : H7 o = some (.lst tvs) := ((e5.trans e6).trans e7) _ _ ho
              refine ⟨rfl, Ex.mut (((e4.trans e5).trans e6).trans e7) no, _, upd_same, ?_⟩
              rw [if_pos (of_decide_eq_true c)]
              exact pps_append (pps_wr (pps_mono ((e5.trans e6).trans e7) ht) ho7) (pps_one (PP.wr ⟨p, rfl, hp⟩ ho7))
            · refine ⟨rfl, (e4.trans e5).trans e6, tvs, (e5.trans e6) _ _ ho, ?_⟩
              rw [if_neg (of_decide_eq_false c)]
              exact pps_mono (e5.trans e6) ht
          · rintro σ6 H6 ⟨rfl, e6, tvs', ho6, ht6⟩
            refine s_asg (ev_op (ev_var rfl) ev_c rv_I0) fun H7 e7 => ?_
            exact ⟨_, _, y.2 + 1, _, tvs', rfl, e6.trans e7, e7 _ _ ho6, pps_mono e7 ht6, in_cut J gq hy c1' c2'⟩
        · refine ⟨_, _, bg, told, tvs, rfl, e4.trans e5, e5 _ _ ho, pps_mono e5 ht, in_skip J hy fun z => ?_⟩
          rw [decide_eq_true z.1, decide_eq_true z.2] at c
          cases c
      · obtain ⟨y6, y7, bg, told, tvs, rfl, e4, ho, ht, J⟩ := p
        rw [l2] at J
        have htl : tvs.length < 100000 := by
          have := ht.length
          have := len_bound J.len (by omega) (by omega) (by omega)
          omega
        have nx := out_next J gp hx
        refine s_when (et_test (ev_op (ev_var rfl) (ev_var rfl) rv_I0)) (fun c H6 e6 => ?_) (fun c H6 e6 => ?_)
        · refine s_appU (e6 _ _ ho) (ev_var rfl) (eu_tup (ea_cons (ev_var rfl) (ea_cons (ev_var rfl) ea_nil)) (show 2 ≤ 100000 by decide)) htl fun p H7 np e7 hp => ?_
          have ho7 : H7 o = some (.lst tvs) := (e6.trans e7) _ _ ho
          rw [if_pos (of_decide_eq_true c)] at nx
          exact ⟨_, _, _, _, _, _, _, rfl, Ex.mut ((e4.trans e6).trans e7) no, upd_same, pps_append (pps_wr (pps_mono (e6.trans e7) ht) ho7) (pps_one (PP.wr ⟨p, rfl, hp⟩ ho7)), nx⟩
        · rw [if_neg (of_decide_eq_false c)] at nx
          exact ⟨_, _, _, _, _, _, _, rfl, e4.trans e6, e6 _ _ ho, pps_mono e6 ht, nx⟩
    · obtain ⟨y3, y4, y5, y6, y7, told, tvs, rfl, e2, ho, ht, I⟩ := p
      rw [l1] at I
      obtain ⟨g1, g2⟩ := out_end I
      refine ⟨.ref o, rfl, o, tvs, rfl, .inl ⟨sq_of ho, fun r nr => ?_⟩⟩
      exact q _ r told (e2.trans (Ex.new nr)) ⟨tvs, upd_same, pps_mono (Ex.new nr) ht⟩ g1 g2
end
end K29

namespace K29
open PySem PySem.Spec PyProof.Rows L2 Evl
section
variable {K : PySem.W.Frag} {σ : L2.St} {H : Hp} {ta tb tc : TE} {x y z : V}
theorem ev_chain {r r' : R2} {b c : Bool} (ha : Ev ta σ H x) (hb : Ev tb σ H y) (h1 : RV r x y H (.bl b)) (hc : Ev tc σ H z) (h2 : RV r' y z H (.bl c)) : Ev (tChain r r' ta tb tc) σ H (.bl (b && c)) := fun H1 e Q q =>
  ha H1 e _ fun H2 e2 => hb H2 (e.trans e2) _ fun H3 e3 => h1 H3 ((e.trans e2).trans e3) _ fun H4 e4 => ⟨b, rfl, by
    cases b with
    | true =>
      show tc σ H4 fun w' H5 => r' y w' H5 Q
      exact hc H4 (((e.trans e2).trans e3).trans e4) _ fun H5 e5 => h2 H5 ((((e.trans e2).trans e3).trans e4).trans e5) Q fun H6 e6 => q H6 ((((e2.trans e3).trans e4).trans e5).trans e6)
    | false =>
      show Q (.bl false) H4
      exact q H4 ((e2.trans e3).trans e4)⟩
end
section
variable {P : Program} {w : World} {K : PySem.W.Frag} {mg : Str → Option Value} {base : Heap}
def inP (h : Int) (p : Pr) : Bool := decide (p.1 ≤ h) && decide (h ≤ p.2)
theorem ok_holds {f : Addr} {fd : FuncData} {k : Nat} (F : Fun K "holds" "holds" sHolds f fd) (ma : mg "any" = none) : FnOk P w K mg base CX0 (k + 1) f fd ["spans", "hour"] spHolds := by
  refine F.ok scHolds (fun vs H Q E h => ?_) (fun cdv A outer s H vs Q E hr h => ?_)
  · obtain ⟨a, h, ps, rfl, _⟩ := h
    rfl
  · obtain ⟨a, h, ps, rfl, ⟨vs1, hA, hP⟩, lp, q⟩ := h
    refine ⟨_, pss_one (ps_ret (pe_callB (cr_any rfl) (by rfl) ma (by decide +kernel) (pa_cons
      (pe_lc (own := [("low", 2), ("high", 3)]) (g := gTup K 2 (gCons (gName 2) (gCons (gName 3) gNil))) (tt := tYes) rfl scHolds.nd (pi_tup (pv 0)) (blkOk_by (own := [("low", 2), ("high", 3)]) (N := nHolds) (sc := defScope sHolds) (by decide +kernel))
        (fun _ _ _ _ _ => pg_tup rfl (pgs_cons (pg_name (i := 2) scHolds.nd rfl (Or.inl rfl)) (pgs_cons (pg_name (i := 3) scHolds.nd rfl (Or.inl rfl)) pgs_nil)))
        (fun _ _ _ _ _ => pts_nil) (fun _ _ _ _ _ => pe_chain op_le op_le (pv 2) (pv 1) (pv 3))) pa_nil))), ?_⟩
    have l1 := hP.length
    refine ⟨.ref a, rfl, a, rfl, ⟨_, st_of hA⟩, fun D nD => ?_⟩
    refine lc_tup (xs := vs1) (fun i H' => Ex H H' ∧ H' D = some (.lst (((ps.take i).map (inP h)).map V.bl))) ⟨Ex.new nD, upd_same⟩ (fun i H' _ p => st_of (p.1 _ _ hA)) (fun i v H' hi p => ?_) (fun H' p => ?_)
    · obtain ⟨e1, hD⟩ := p
      obtain ⟨x, hx, t, rfl, ht⟩ := pps_get (pps_mono e1 hP) hi
      have hil := (List.getElem?_eq_some_iff.mp hx).1
      refine ⟨t, [.int x.1, .int x.2], rfl, st_of ht, rfl, .int x.1, [.int x.2], rfl, .int x.2, [], rfl, rfl, rfl, ?_⟩
      refine ev_chain (ev_var rfl) (ev_var rfl) rv_I0 (ev_var rfl) rv_I0 H' (Ex.refl _) _ fun H3 e3 => ?_
      refine ⟨_, e3 _ _ hD, sz_lt (by rw [List.length_map, List.length_map, List.length_take]; omega), Ex.mut (e1.trans e3) nD, ?_⟩
      rw [upd_same, take_snoc hx, List.map_append, List.map_append]
      rfl
    · obtain ⟨e1, hD⟩ := p
      rw [List.take_of_length_le (by omega)] at hD
      refine ⟨D, ps.map (inP h), rfl, sq_of hD, ?_⟩
      refine q _ ?_ _ e1
      rw [List.any_eq_true]
      constructor
      · rintro ⟨b, hb, hb1⟩
        obtain ⟨p, hp, e⟩ := List.mem_map.mp hb
        have hb2 : b = true := hb1
        rw [hb2] at e
        obtain ⟨c1, c2⟩ := Bool.and_eq_true_iff.mp e
        exact ⟨p, hp, of_decide_eq_true c1, of_decide_eq_true c2⟩
      · rintro ⟨p, hp, c1, c2⟩
        refine ⟨true, List.mem_map.mpr ⟨p, hp, ?_⟩, rfl⟩
        unfold inP
        rw [decide_eq_true c1, decide_eq_true c2]
        rfl
theorem ok_many {f : Addr} {fd : FuncData} {k : Nat} (F : Fun K "many" "many" sMany f fd) (ma : mg "sum" = none) : FnOk P w K mg base CX0 (k + 1) f fd ["spans"] spMany := by
  refine F.ok scMany (fun vs H Q E h => ?_) (fun cdv A outer s H vs Q E hr h => ?_)
  · obtain ⟨a, ps, rfl, _⟩ := h
    rfl
  · obtain ⟨a, ps, rfl, ⟨vs1, hA, hP⟩, lp, q⟩ := h
    refine ⟨_, pss_one (ps_ret (pe_callB (cr_sum rfl) (by rfl) ma (by decide +kernel) (pa_cons
      (pe_lc (own := [("low", 1), ("high", 2)]) (g := gTup K 2 (gCons (gName 1) (gCons (gName 2) gNil))) (tt := tYes) rfl scMany.nd (pi_tup (pv 0)) (blkOk_by (own := [("low", 1), ("high", 2)]) (N := nMany) (sc := defScope sMany) (by decide +kernel))
        (fun _ _ _ _ _ => pg_tup rfl (pgs_cons (pg_name (i := 1) scMany.nd rfl (Or.inl rfl)) (pgs_cons (pg_name (i := 2) scMany.nd rfl (Or.inl rfl)) pgs_nil)))
        (fun _ _ _ _ _ => pts_nil) (fun _ _ _ _ _ => pe_op op_add (pe_op op_sub (pv 2) (pv 1)) pe_int)) pa_nil))), ?_⟩
    have l1 := hP.length
    refine ⟨.ref a, rfl, a, rfl, ⟨_, st_of hA⟩, fun D nD => ?_⟩
    refine lc_tup (xs := vs1) (fun i H' => Ex H H' ∧ H' D = some (.lst (((ps.take i).map fun p => p.2 - p.1 + 1).map V.int))) ⟨Ex.new nD, upd_same⟩ (fun i H' _ p => st_of (p.1 _ _ hA)) (fun i v H' hi p => ?_) (fun H' p => ?_)
    · obtain ⟨e1, hD⟩ := p
      obtain ⟨x, hx, t, rfl, ht⟩ := pps_get (pps_mono e1 hP) hi
      have hil := (List.getElem?_eq_some_iff.mp hx).1
      refine ⟨t, [.int x.1, .int x.2], rfl, st_of ht, rfl, .int x.1, [.int x.2], rfl, .int x.2, [], rfl, rfl, rfl, ?_⟩
      refine ev_op (ev_op (ev_var rfl) (ev_var rfl) rv_I0) ev_c rv_I0 H' (Ex.refl _) _ fun H3 e3 => ?_
      refine ⟨_, e3 _ _ hD, sz_lt (by rw [List.length_map, List.length_map, List.length_take]; omega), Ex.mut (e1.trans e3) nD, ?_⟩
      rw [upd_same, take_snoc hx, List.map_append, List.map_append]
      rfl
    · obtain ⟨e1, hD⟩ := p
      rw [List.take_of_length_le (by omega)] at hD
      exact ⟨D, _, rfl, sq_of hD, q _ e1⟩
theorem ok_first {f : Addr} {fd : FuncData} {k : Nat} (F : Fun K "first_from" "first_from" sFirst f fd) (mm : mg "max" = none) : FnOk P w K mg base CX0 (k + 1) f fd ["spans", "hour"] spFirst := by
  refine F.ok scFirst (fun vs H Q E h => ?_) (fun cdv A outer s H vs Q E hr h => ?_)
  · obtain ⟨a, h, ps, rfl, _⟩ := h
    rfl
  · obtain ⟨a, h, ps, rfl, ⟨vs1, hA, hP⟩, gp, q⟩ := h
    refine ⟨_, pss_cons (ps_for PassesOwn.never rfl (pi_tup (pv 0)) (pg_tup rfl (pgs_cons (pg_name (i := 2) scFirst.nd rfl (.inl rfl)) (pgs_cons (pg_name (i := 3) scFirst.nd rfl (.inl rfl)) pgs_nil)))
        (pss_one (ps_if (pt_cmpR op_le (pv 1) (pv 3) (nomark _)) (pss_one (ps_ret (pe_callB (call_max2 rfl) (by rfl) mm (by decide +kernel) (pa_cons (pv 2) (pa_cons (pv 1) pa_nil))))) pss_nil)))
      (pss_one (ps_ret pe_non)), ?_⟩
    have l1 := hP.length
    refine q_forT (ev_var rfl) (st_of hA) (fun i σ' H' => ∃ (y2 y3 : Option V), σ' = [some (.ref a), some (.int h), y2, y3] ∧ Ex H H' ∧ ∀ p ∈ ps.take i, ¬ h ≤ p.2)
      (fun H1 e => ⟨none, none, rfl, e, fun p hp => by rw [List.take_zero] at hp; cases hp⟩) (fun i σ' H' _ p => ?_) (fun i v σ' H' hi p => ?_) (fun σ' H' p => ?_)
    · obtain ⟨_, _, _, e, _⟩ := p
      exact st_of (e _ _ hA)
    · obtain ⟨y2, y3, rfl, e, no⟩ := p
      obtain ⟨x, hx, t, rfl, ht⟩ := pps_get (pps_mono e hP) hi
      refine ⟨t, [.int x.1, .int x.2], rfl, st_of ht, rfl, .int x.1, [.int x.2], rfl, .int x.2, [], rfl, rfl, ?_⟩
      refine s_when (et_test (ev_op (ev_var rfl) (ev_var rfl) rv_I0)) (fun c H3 e3 => ?_) (fun c H3 e3 => ?_)
      · refine s_ret (ev_max2 (ev_var rfl) (ev_var rfl)) fun H4 e4 => ?_
        exact q (some _) (first_hit gp hx no (of_decide_eq_true c)) _ ((e.trans e3).trans e4)
      · refine ⟨_, _, rfl, e.trans e3, fun p hp => ?_⟩
        rw [take_snoc hx] at hp
        rcases List.mem_append.mp hp with hp | hp
        · exact no p hp
        · rw [List.mem_singleton] at hp
          subst hp
          exact of_decide_eq_false c
    · obtain ⟨y2, y3, rfl, e, no⟩ := p
      rw [List.take_of_length_le (by omega)] at no
      exact q none (first_none no) _ e
theorem ok_last {f : Addr} {fd : FuncData} {k : Nat} (F : Fun K "last_to" "last_to" sLast f fd) (mm : mg "min" = none) (mr : mg "reversed" = none) : FnOk P w K mg base CX0 (k + 1) f fd ["spans", "hour"] spLast := by
  refine F.ok scLast (fun vs H Q E h => ?_) (fun cdv A outer s H vs Q E hr h => ?_)
  · obtain ⟨a, h, ps, rfl, _⟩ := h
    rfl
  · obtain ⟨a, h, ps, rfl, ⟨vs1, hA, hP⟩, gp, q⟩ := h
    refine ⟨_, pss_cons (ps_for PassesOwn.never rfl (RT.pi_revA (by rfl) mr (pv 0)) (pg_tup rfl (pgs_cons (pg_name (i := 2) scLast.nd rfl (.inl rfl)) (pgs_cons (pg_name (i := 3) scLast.nd rfl (.inl rfl)) pgs_nil)))
        (pss_one (ps_if (pt_cmpR op_le (pv 2) (pv 1) (nomark _)) (pss_one (ps_ret (pe_callB (call_min2 rfl) (by rfl) mm (by decide +kernel) (pa_cons (pv 3) (pa_cons (pv 1) pa_nil))))) pss_nil)))
      (pss_one (ps_ret pe_non)), ?_⟩
    have l1 := hP.length
    refine ⟨.ref a, rfl, a, vs1, rfl, .inr ⟨st_of hA, ?_⟩⟩
    refine RT.for_ItvT (xs := vs1) (fun i σ' H' => ∃ (y2 y3 : Option V), σ' = [some (.ref a), some (.int h), y2, y3] ∧ Ex H H' ∧ ∀ p ∈ ps.drop (ps.length - i), ¬ p.1 ≤ h)
      ⟨none, none, rfl, Ex.refl _, fun p hp => by rw [Nat.sub_zero, List.drop_length] at hp; cases hp⟩ (fun i σ' H' p => ?_) (fun i v σ' H' hil hi p => ?_) (fun σ' H' p => ?_)
    · obtain ⟨_, _, _, e, _⟩ := p
      exact st_of (e _ _ hA)
    · obtain ⟨y2, y3, rfl, e, no⟩ := p
      rw [l1] at hi hil
      obtain ⟨x, hx, t, rfl, ht⟩ := pps_get (pps_mono e hP) hi
      refine ⟨t, [.int x.1, .int x.2], rfl, st_of ht, rfl, .int x.1, [.int x.2], rfl, .int x.2, [], rfl, rfl, ?_⟩
      refine s_when (et_test (ev_op (ev_var rfl) (ev_var rfl) rv_I0)) (fun c H3 e3 => ?_) (fun c H3 e3 => ?_)
      · refine s_ret (ev_min2 (ev_var rfl) (ev_var rfl)) fun H4 e4 => ?_
        refine q (some _) (last_hit gp hx ?_ (of_decide_eq_true c)) _ ((e.trans e3).trans e4)
        rw [show ps.length - 1 - i + 1 = ps.length - i by omega]
        exact no
      · refine ⟨_, _, rfl, e.trans e3, fun p hp => ?_⟩
        rw [show ps.length - (i + 1) = ps.length - 1 - i by omega, drop_at hx] at hp
        rcases List.mem_cons.mp hp with rfl | hp
        · exact of_decide_eq_false c
        · rw [show ps.length - 1 - i + 1 = ps.length - i by omega] at hp
          exact no p hp
    · obtain ⟨y2, y3, rfl, e, no⟩ := p
      rw [l1, Nat.sub_self, List.drop_zero] at no
      exact q none (last_none no) _ e
end
end K29

namespace K29
open PySem PySem.Spec PyProof.Rows L2 Evl
def E60 : Int := 1000000000000000000000000000000000000000000000000000000000000
def cC : Int := 271828182845904523536028747135266249775
def cP : Int := 618970019642690137449562111
theorem e60 : (10 : Int) ^ (60 : Int).toNat = E60 := by decide +kernel
theorem fm_lo (a : Int) {b : Int} (h : 0 < b) : 0 ≤ a.fmod b := Int.fmod_nonneg_of_pos a h
theorem fm_lt (a : Int) {b : Int} (h : 0 < b) : a.fmod b < b := Int.fmod_lt_of_pos a h
theorem b1 (c k : Int) (h0 : 0 ≤ k) (h2 : k ≤ 2) : (c.fmod E60 + 7907 * k + 1).natAbs < 2 ^ 200 := by
  have a := fm_lo c (show 0 < E60 by decide)
  have b := fm_lt c (show 0 < E60 by decide)
  generalize c.fmod E60 = z at a b
  have e : E60 = 1000000000000000000000000000000000000000000000000000000000000 := rfl
  rw [e] at b
  omega
theorem b2 : cC.natAbs < 2 ^ 128 := by decide +kernel
theorem b3 (x : Int) : (x.fmod cP).natAbs < 2 ^ 100 := by
  have a := fm_lo x (show 0 < cP by decide)
  have b := fm_lt x (show 0 < cP by decide)
  generalize x.fmod cP = z at a b
  have e : cP = 618970019642690137449562111 := rfl
  rw [e] at b
  omega
theorem b4 (x k : Int) (h0 : 0 ≤ k) (h2 : k ≤ 2) : (x.fmod cP + 104729 * (k + 1)).natAbs < 2 ^ 100 := by
  have a := fm_lo x (show 0 < cP by decide)
  have b := fm_lt x (show 0 < cP by decide)
  generalize x.fmod cP = z at a b
  have e : cP = 618970019642690137449562111 := rfl
  rw [e] at b
  omega
section
variable {σ : L2.St} {H : Hp}
theorem ev_pow60 : Ev (tOp (rI CPow fun i j => .int (i ^ j.toNat)) (tC (.int 10)) (tC (.int 60))) σ H (.int E60) :=
  ev_is (ev_op ev_c ev_c (rv_I ⟨by decide, by decide, by decide⟩)) (congrArg V.int e60)
end
section
variable {P : Program} {w : World} {K : PySem.W.Frag} {mg : Str → Option Value} {base : Heap}
theorem ok_at {f : Addr} {fd : FuncData} {k : Nat} (F : Fun K "_law_at" "_law_at" sAt f fd) (ml : mg "len" = none) : FnOk P w K mg base CX0 (k + 1) f fd ["script", "k"] (spAt K) := by
  refine F.ok scAt (fun vs H Q E h => ?_) (fun cdv A outer s H vs Q E hr h => ?_)
  · obtain ⟨a, ns, rfl, _⟩ := h
    rfl
  · obtain ⟨a, ns, rfl, hS, q⟩ := h
    refine ⟨_, pss_cons (ps_if (pt_cmpR op_lt (pv 1) (pe_callB call_len_seq (by rfl) ml PySem.boot_len (pa_cons (pv 0) pa_nil)) (nomark _)) (pss_one (ps_ret (pe_ix ix_list (pv 0) (pv 1) (fun _ _ => rfl)))) pss_nil) (pss_one (ps_ret pe_int)), ?_⟩
    refine q_when (et_test (ev_op (ev_var rfl) (ev_len (ev_var rfl) hS) rv_I0)) (fun c H1 e1 => ?_) (fun c H1 e1 => ?_)
    · cases ns with
      | nil => exact absurd (of_decide_eq_true c) (by decide)
      | cons x r => exact s_ret (ev_op (ev_var rfl) (ev_var rfl) (rv_ixL (ex_l e1 hS) (atI_nat (j := 0) rfl))) fun H2 e2 => q x H2 (e1.trans e2)
    · exact s_ret ev_c fun H2 e2 => q 0 H2 (e1.trans e2)
theorem ok_mix {f : Addr} {fd : FuncData} {k : Nat} (F : Fun K "_law_mix" "_law_mix" sMix f fd) : FnOk P w K mg base CX0 (k + 1) f fd ["cell", "k", "size"] spMix := by
  refine F.ok scMix (fun vs H Q E h => ?_) (fun cdv A outer s H vs Q E hr h => ?_)
  · obtain ⟨c, k, rfl, _⟩ := h
    rfl
  · obtain ⟨c, k, rfl, k0, k2, q⟩ := h
    refine ⟨_, pss_cons (ps_set (i := 3) scMix.nd rfl (.inl rfl) pe_int)
      (pss_cons (ps_set (i := 4) scMix.nd rfl (.inl rfl) (pe_op op_mulW (pe_op op_add (pe_op op_add (pe_op op_modN (pv 0) (pe_op op_pow pe_int pe_int)) (pe_op op_mul pe_int (pv 1))) pe_int) pe_int))
      (pss_cons (ps_set (i := 5) scMix.nd rfl (.inl rfl) (pe_op op_modN (pe_op op_mulW (pv 4) (pv 4)) (pv 3)))
      (pss_cons (ps_set (i := 5) scMix.nd rfl (.inl rfl) (pe_op op_modN (pe_op op_mulW (pe_op op_add (pv 5) (pe_op op_mul pe_int (pe_op op_add (pv 1) pe_int))) (pv 5)) (pv 3)))
      (pss_one (ps_ret (pe_op op_modN (pe_op op_fdivN (pv 5) pe_int) (pv 2))))))), ?_⟩
    refine q_asg (v := .int cP) ev_c fun H1 e1 => ?_
    have w1 := b1 c k k0 k2
    refine q_asg (v := .int ((c.fmod E60 + 7907 * k + 1) * cC)) (ev_op (ev_op (ev_op (ev_op (ev_var rfl) ev_pow60 (rv_I (by decide))) (ev_op ev_c (ev_var rfl) (rv_I (.inl ⟨by decide, by decide⟩))) rv_I0) ev_c rv_I0) ev_c (rv_I (wide_mul w1 b2 (by decide) (by decide) (by decide)))) fun H2 e2 => ?_
    have w2 := wide_lt w1 b2
    generalize (c.fmod E60 + 7907 * k + 1) * cC = bs at w2
    refine q_asg (v := .int ((bs * bs).fmod cP)) (ev_op (ev_op (ev_var rfl) (ev_var rfl) (rv_I (wide_mul w2 w2 (by decide) (by decide) (by decide)))) (ev_var rfl) (rv_I (by decide))) fun H3 e3 => ?_
    have w3 := b3 (bs * bs)
    have w4 := b4 (bs * bs) k k0 k2
    generalize (bs * bs).fmod cP = m1 at w3 w4
    refine q_asg (v := .int (((m1 + 104729 * (k + 1)) * m1).fmod cP)) (ev_op (ev_op (ev_op (ev_var rfl) (ev_op ev_c (ev_op (ev_var rfl) ev_c rv_I0) (rv_I (.inl ⟨by decide, by decide⟩))) rv_I0) (ev_var rfl) (rv_I (wide_mul w4 w3 (by decide) (by decide) (by decide)))) (ev_var rfl) (rv_I (by decide))) fun H4 e4 => ?_
    generalize ((m1 + 104729 * (k + 1)) * m1).fmod cP = m2
    refine s_ret (v := .int ((m2.fdiv 8).fmod 2)) (ev_op (ev_op (ev_var rfl) ev_c (rv_I ⟨by decide, by decide⟩)) (ev_var rfl) (rv_I (by decide))) fun H5 e5 => ?_
    exact q _ (fm_lo _ (by decide)) (fm_lt _ (by decide)) _ ((((e1.trans e2).trans e3).trans e4).trans e5)
end
end K29

namespace K29
open PySem PySem.Spec PyProof.Rows L2 Evl
theorem et_yes {σ : L2.St} {H : Hp} : EvT tYes σ H true := fun H1 _ _ q => q H1 (Ex.refl H1)
theorem ints_at {ns : List Int} {i : Nat} {x : Int} (h : ns[i]? = some x) : (ns.map V.int)[i]? = some (.int x) := by
  rw [List.getElem?_map, h]
  rfl
theorem bls_at {ns : List Bool} {i : Nat} {x : Bool} (h : ns[i]? = some x) : (ns.map V.bl)[i]? = some (.bl x) := by
  rw [List.getElem?_map, h]
  rfl
section
variable {P : Program} {w : World} {K : PySem.W.Frag} {mg : Str → Option Value} {base : Heap}
theorem ok_folded {f : Addr} {fd : FuncData} {k : Nat} (F : Fun K "_law_folded" "_law_folded" sFolded f fd) (ml : mg "len" = none) (mr : mg "range" = none) : FnOk P w K mg base CX0 (k + 1) f fd ["script", "first", "most"] (spFolded K) := by
  refine F.ok scFolded (fun vs H Q E h => ?_) (fun cdv A outer s H vs Q E hr h => ?_)
  · obtain ⟨a, ns, rfl, _⟩ := h
    rfl
  · obtain ⟨a, ns, rfl, hS, hl, q⟩ := h
    refine ⟨_, pss_cons (ps_set (i := 3) scFolded.nd rfl (.inl rfl) (pe_lst pa_nil))
      (pss_cons (ps_for PassesOwn.never rfl (pi_range2 (by rfl) mr (pa_cons (pv 1) (pa_cons (pe_callB call_len_seq (by rfl) ml PySem.boot_len (pa_cons (pv 0) pa_nil)) pa_nil))) (pg_name (i := 4) scFolded.nd rfl (.inl rfl))
        (pss_one (ps_if (pt_cmpR op_lt (pe_callB call_len_seq (by rfl) ml PySem.boot_len (pa_cons (pv 3) pa_nil)) (pv 2) (nomark _))
          (pss_one (ps_expr (pe_bm PySem.F.plainAttrs_list PySem.F.slot_list_append PySem.F.type_list_append mt_append (pv 3) (pa_cons (pe_op op_modN (pe_ix ix_list (pv 0) (pv 4) (fun _ _ => rfl)) (pe_op op_pow pe_int pe_int)) pa_nil))))
          (pss_cons (ps_set (i := 5) scFolded.nd rfl (.inl rfl) (pe_op op_add (pe_op op_mul (pe_ix ix_list (pv 3) (pe_op op_modN (pv 4) (pv 2)) (fun _ _ => rfl)) pe_int) (pe_op op_modN (pe_ix ix_list (pv 0) (pv 4) (fun _ _ => rfl)) (pe_op op_pow pe_int pe_int))))
            (pss_one (ps_asg (pe_op op_modN (pv 5) (pe_op op_pow pe_int pe_int)) (pg_sub (pv 3) (pe_op op_modN (pv 4) (pv 2)) set_list)))))))
      (pss_one (ps_ret (pv 3)))), ?_⟩
    refine ⟨Nat.zero_le _, fun o no => ?_⟩
    have e1 : Ex H (upd H o (.lst [])) := Ex.new no
    refine q_forR2 (lo := 1) (n := ((ns.map V.int).length : Int)) (ea_cons (ev_var rfl) (ea_cons (ev_len (ev_var rfl) (ex_l e1 hS)) ea_nil)) ⟨by decide, by decide, by omega, by rw [List.length_map]; omega⟩
      (fun i σ' H' => ∃ (y4 y5 : Option V) (ms : List Int), σ' = [some (.ref a), some (.int 1), some (.int 40), some (.ref o), y4, y5] ∧ Ex H H' ∧ H' o = some (.lst (ms.map V.int)) ∧ ms.length ≤ 40)
      (fun H1 e => ⟨none, none, [], rfl, e1.trans e, e _ _ upd_same, Nat.zero_le _⟩) (fun i σ' H' hi p => ?_) (fun σ' H' p => ?_)
    · obtain ⟨y4, y5, ms, rfl, e2, ho, hm⟩ := p
      rw [List.length_map] at hi
      have hi' : i + 1 < ns.length := by omega
      have hx := List.getElem?_eq_getElem hi'
      generalize ns[i + 1] = x at hx
      have item : ∀ H3, Ex H' H3 → ∀ y5, Ev (tOp (rIxL K) (tVar 0) (tVar 4)) [some (.ref a), some (.int 1), some (.int 40), some (.ref o), some (.int (1 + (i : Int))), y5] H3 (.int x) := fun H3 e3 y5 =>
        ev_op (ev_var rfl) (ev_var rfl) (rv_ixL (ex_l (e2.trans e3) hS) (at_of (j := i + 1) (by omega) (ints_at hx)))
      refine s_if (et_test (ev_op (ev_len (ev_var rfl) (sq_of ho)) (ev_var rfl) rv_I0)) (fun c H3 e3 => ?_) (fun c H3 e3 => ?_)
      · have c' := of_decide_eq_true c
        rw [List.length_map] at c'
        refine s_app (e3 _ _ ho) (ev_var rfl) (ev_op (item H3 e3 y5) ev_pow60 (rv_I (by decide))) (by rw [List.length_map]; omega) fun H4 e4 => ?_
        refine ⟨_, _, ms ++ [x.fmod E60], rfl, Ex.mut ((e2.trans e3).trans e4) no, ?_, by rw [List.length_append, List.length_singleton]; omega⟩
        rw [upd_same, List.map_append]
        rfl
      · have c' := of_decide_eq_false c
        rw [List.length_map] at c'
        have r0 := fm_lo (1 + (i : Int)) (show (0 : Int) < 40 by decide)
        have r1 := fm_lt (1 + (i : Int)) (show (0 : Int) < 40 by decide)
        obtain ⟨r, hr⟩ : ∃ r : Nat, (1 + (i : Int)).fmod 40 = (r : Int) := ⟨((1 + (i : Int)).fmod 40).toNat, (Int.toNat_of_nonneg r0).symm⟩
        rw [hr] at r1
        have hrl : r < ms.length := by omega
        have hy := List.getElem?_eq_getElem hrl
        generalize ms[r] = y at hy
        have eR : ∀ H3 y5, Ev (tOp (rI (fun _ j => j ≠ 0) fun i j => .int (i.fmod j)) (tVar 4) (tVar 2)) [some (.ref a), some (.int 1), some (.int 40), some (.ref o), some (.int (1 + (i : Int))), y5] H3 (.int (r : Int)) := fun H3 y5 =>
          ev_is (ev_op (ev_var rfl) (ev_var rfl) (rv_I (by decide))) (congrArg V.int hr)
        refine q_asg (ev_op (ev_op (ev_op (ev_var rfl) (eR _ _) (rv_ixL (sq_of (e3 _ _ ho)) (atI_nat (ints_at hy)))) ev_c (rv_I (.inr ⟨by decide, by decide⟩))) (ev_op (item H3 e3 y5) ev_pow60 (rv_I (by decide))) rv_I0) fun H4 e4 => ?_
        generalize y * 10007 + x.fmod E60 = kp
        refine s_setL ((e3.trans e4) _ _ ho) (ev_op (ev_var rfl) ev_pow60 (rv_I (by decide))) (ev_var rfl) (eR _ _) (by rw [List.length_map]; exact hrl) fun H5 e5 => ?_
        refine ⟨_, _, ms.set r (kp.fmod E60), rfl, Ex.mut (((e2.trans e3).trans e4).trans e5) no, ?_, by rw [List.length_set]; exact hm⟩
        rw [upd_same, List.map_set]
    · obtain ⟨y4, y5, ms, rfl, e2, ho, hm⟩ := p
      exact s_ret (ev_var rfl) fun H3 e3 => q H3 o ms (e2.trans e3) (e3 _ _ ho) hm
theorem ok_runs {f : Addr} {fd : FuncData} {k : Nat} (F : Fun K "_law_runs" "_law_runs" sRuns f fd) (ml : mg "len" = none) (mr : mg "range" = none) (mt : mg "tuple" = none) : FnOk P w K mg base CX0 (k + 1) f fd ["marks", "first"] (spRuns K) := by
  refine F.ok scRuns (fun vs H Q E h => ?_) (fun cdv A outer s H vs Q E hr h => ?_)
  · obtain ⟨a, g, ms, rfl, _⟩ := h
    rfl
  · obtain ⟨a, g, ms, rfl, hS, hl, q⟩ := h
    refine ⟨_, pss_cons (ps_set (i := 2) scRuns.nd rfl (.inl rfl) (pe_lst pa_nil))
      (pss_cons (ps_for PassesOwn.never rfl (pi_range1 (by rfl) mr (pa_cons (pe_callB call_len_seq (by rfl) ml PySem.boot_len (pa_cons (pv 0) pa_nil)) pa_nil)) (pg_name (i := 3) scRuns.nd rfl (.inl rfl))
        (pss_one (ps_if (pt_val (pe_ix ix_list (pv 0) (pv 3) (fun _ _ => rfl)))
          (pss_one (ps_if (PW.pt (pw_and (pt_cmpR op_gt (pv 3) pe_int (nomark _)) (pw_and1 (pt_val (pe_ix ix_list (pv 0) (pe_op op_sub (pv 3) pe_int) (fun _ _ => rfl))))))
            (pss_one (ps_asg (pe_tup (pa_cons (pe_ix ix_tup (pe_ix ix_list (pv 2) (pe_un un_neg pe_int) (fun _ _ => rfl)) pe_int (fun _ _ => rfl)) (pa_cons (pe_op op_add (pv 1) (pv 3)) pa_nil))) (pg_sub (pv 2) (pe_un un_neg pe_int) set_list)))
            (pss_one (ps_expr (pe_bm PySem.F.plainAttrs_list PySem.F.slot_list_append PySem.F.type_list_append mt_append (pv 2) (pa_cons (pe_tup (pa_cons (pe_op op_add (pv 1) (pv 3)) (pa_cons (pe_op op_add (pv 1) (pv 3)) pa_nil))) pa_nil)))))) pss_nil)))
      (pss_one (ps_ret (pe_callTy call_tuple_of (by rfl) mt (by decide +kernel) (pa_cons (pv 2) pa_nil))))), ?_⟩
    refine ⟨Nat.zero_le _, fun o no => ?_⟩
    have e1 : Ex H (upd H o (.lst [])) := Ex.new no
    refine q_forR1 (n := ((ms.map V.bl).length : Int)) (ea_cons (ev_len (ev_var rfl) (ex_l e1 hS)) ea_nil) ⟨by omega, by rw [List.length_map]; omega⟩
      (fun i σ' H' => ∃ (y3 : Option V) (told : List Pr) (tvs : List V), σ' = [some (.ref a), some (.int g), some (.ref o), y3] ∧ Ex H H' ∧ H' o = some (.lst tvs) ∧ PPs H' tvs told ∧ RunsInv ms g i told)
      (fun H1 e => ⟨none, [], [], rfl, e1.trans e, e _ _ upd_same, .nil, runs_start _ _⟩) (fun i σ' H' hi p => ?_) (fun σ' H' p => ?_)
    · obtain ⟨y3, told, tvs, rfl, e2, ho, ht, I⟩ := p
      rw [List.length_map] at hi
      have hi' : i < ms.length := by omega
      have hx := List.getElem?_eq_getElem hi'
      generalize ms[i] = b at hx
      have htl : tvs.length < 100000 := by
        have := ht.length
        have := I.len
        omega
      refine s_when (b := b) (et_B (ev_op (ev_var rfl) (ev_var rfl) (rv_ixL (ex_l e2 hS) (atI_nat (bls_at hx))))) (fun c H3 e3 => ?_) (fun c H3 e3 => ?_)
      · subst c
        -- an append
        have app : ∀ (H4 : Hp), Ex H3 H4 → ∀ (p : Addr) (H5 : Hp), H4 p = none → Ex H4 H5 → H5 p = some (.tup [V.int (g + (i : Int)), V.int (g + (i : Int))]) → (i = 0 ∨ ∃ j, i = j + 1 ∧ ms[j]? = some false) →
            ∃ (y3 : Option V) (told' : List Pr) (tvs' : List V), ([some (V.ref a), some (V.int g), some (V.ref o), some (V.int (i : Int))] : L2.St) = [some (.ref a), some (.int g), some (.ref o), y3] ∧ Ex H (upd H5 o (.lst (tvs ++ [.ref p]))) ∧ (upd H5 o (.lst (tvs ++ [.ref p]))) o = some (.lst tvs') ∧ PPs (upd H5 o (.lst (tvs ++ [.ref p]))) tvs' told' ∧ RunsInv ms g (i + 1) told' := by
          intro H4 e4 p H5 np e5 hp h0
          have eo : H5 o = some (.lst tvs) := ((e3.trans e4).trans e5) _ _ ho
          exact ⟨_, told ++ [(g + (i : Int), g + (i : Int))], _, rfl, Ex.mut (((e2.trans e3).trans e4).trans e5) no, upd_same, pps_append (pps_wr (pps_mono ((e3.trans e4).trans e5) ht) eo) (pps_one (PP.wr ⟨p, rfl, hp⟩ eo)), runs_new I hx h0⟩
        cases i with
        | zero =>
          refine s_if (b := false) (et_is (et_and (a := false) (b := false) (et_is (et_test (ev_op (ev_var rfl) ev_c rv_I0)) (by decide)) (fun z => by cases z)) (b := false) rfl) (fun z => by cases z) (fun _ H4 e4 => ?_)
          exact s_appU ((e3.trans e4) _ _ ho) (ev_var rfl) (eu_tup (ea_cons (ev_op (ev_var rfl) (ev_var rfl) rv_I0) (ea_cons (ev_op (ev_var rfl) (ev_var rfl) rv_I0) ea_nil)) (show 2 ≤ 100000 by decide)) htl fun p H5 np e5 hp => app H4 e4 p H5 np e5 hp (.inl rfl)
        | succ j =>
          have hj : j < ms.length := by omega
          have hy := List.getElem?_eq_getElem hj
          generalize ms[j] = b0 at hy
          refine s_if (b := b0) (et_is (et_and (a := true) (b := b0) (et_is (et_test (ev_op (ev_var rfl) ev_c rv_I0)) (decide_eq_true (by omega))) (fun _ => et_B (ev_op (ev_var rfl) (ev_op (ev_var rfl) ev_c rv_I0) (rv_ixL (ex_l (e2.trans e3) hS) (at_of (j := j) (by omega) (bls_at hy)))))) (Bool.true_and _)) (fun c H4 e4 => ?_) (fun c H4 e4 => ?_)
          · subst c
            obtain ⟨t0, l, rfl, el⟩ := runs_last I hy
            obtain ⟨us', v, rfl, h7, t1, rfl, ht1⟩ := pps_split ht
            refine eu_tup (ea_cons (ev_op (ev_op (ev_var rfl) (ev_un ev_c ru_neg) (rv_ixL (sq_of ((e3.trans e4) _ _ ho)) (atI_snoc us' (.ref t1)))) ev_c (rv_ixT (st_of ((e3.trans e4) _ _ ht1)) (atI_nat (j := 0) rfl))) (ea_cons (ev_op (ev_var rfl) (ev_var rfl) rv_I0) ea_nil)) (show 2 ≤ 100000 by decide) H4 (Ex.refl _) _ fun p H5 np e5 hp => ?_
            have eo : H5 o = some (.lst (us' ++ [.ref t1])) := ((e3.trans e4).trans e5) _ _ ho
            refine ⟨.ref o, rfl, 1, rfl, o, us' ++ [.ref t1], -1, (us' ++ [V.ref t1]).length - 1, rfl, rfl, eo, ixN_last (by rw [List.length_append, List.length_singleton]; omega), ?_⟩
            rw [set_snoc]
            exact ⟨_, t0 ++ [(l.1, g + ((j + 1 : Nat) : Int))], us' ++ [.ref p], rfl, Ex.mut (((e2.trans e3).trans e4).trans e5) no, upd_same, pps_append (pps_wr (pps_mono ((e3.trans e4).trans e5) h7) eo) (pps_one (PP.wr ⟨p, rfl, hp⟩ eo)), runs_more I hy hx⟩
          · subst c
            exact s_appU ((e3.trans e4) _ _ ho) (ev_var rfl) (eu_tup (ea_cons (ev_op (ev_var rfl) (ev_var rfl) rv_I0) (ea_cons (ev_op (ev_var rfl) (ev_var rfl) rv_I0) ea_nil)) (show 2 ≤ 100000 by decide)) htl fun p H5 np e5 hp => app H4 e4 p H5 np e5 hp (.inr ⟨j, rfl, hy⟩)
      · subst c
        exact ⟨_, told, tvs, rfl, e2.trans e3, e3 _ _ ho, pps_mono e3 ht, runs_off I hx⟩
    · obtain ⟨y3, told, tvs, rfl, e2, ho, ht, I⟩ := p
      rw [Int.toNat_natCast, List.length_map] at I
      obtain ⟨g1, _, _⟩ := runs_end I
      refine ⟨.ref o, rfl, o, tvs, rfl, .inl ⟨sq_of ho, fun r nr => ?_⟩⟩
      exact q _ r told (e2.trans (Ex.new nr)) ⟨tvs, upd_same, pps_mono (Ex.new nr) ht⟩ g1
theorem given_all (n : Nat) (k : Int) : given n (fun _ => true) (fun _ => V.int k) = (List.replicate n k).map V.int := by
  induction n with
  | zero => rfl
  | succ n ih =>
    rw [given_yes rfl, ih, List.replicate_succ', List.map_append]
    rfl
theorem ok_marks {f fM : Addr} {fd fdM : FuncData} {k : Nat} (F : Fun K "_law_marks" "_law_marks" sMarks f fd) (FM : Fun K "_law_mix" "_law_mix" sMix fM fdM) (bM : Binds K fdM ["cell", "k", "size"] []) (gM : mg "_law_mix" = some (.ref fM))
    (GM : FnOk P w K mg base CX0 k fM fdM ["cell", "k", "size"] spMix) (ml : mg "len" = none) (mr : mg "range" = none) : FnOk P w K mg base CX0 (k + 1) f fd ["numbers", "k"] spMarks := by
  refine F.ok scMarks (fun vs H Q E h => ?_) (fun cdv A outer s H vs Q E hr h => ?_)
  · obtain ⟨a, ns, k, rfl, _⟩ := h
    rfl
  · obtain ⟨a, ns, kk, rfl, hS, hl, k0, k2, q⟩ := h
    refine ⟨_, pss_one (ps_ret (pe_lc (own := [("cell", 3)]) (g := gName 3) (tt := tYes) rfl scMarks.nd (pi_list (pe_op op_cat (pv 0)
        (pe_lc (own := [("j", 2)]) (g := gName 2) (tt := tYes) rfl scMarks.nd (pi_range1 (by rfl) mr (pa_cons (pe_op op_sub pe_int (pe_callB call_len_seq (by rfl) ml PySem.boot_len (pa_cons (pv 0) pa_nil))) pa_nil))
          (blkOk_by (own := [("j", 2)]) (N := nMarks) (sc := defScope sMarks) (by decide +kernel)) (fun _ _ _ _ _ => pg_name (i := 2) scMarks.nd rfl (Or.inl rfl)) (fun _ _ _ _ _ => pts_nil) (fun _ _ _ _ _ => pv 1))))
        (blkOk_by (own := [("cell", 3)]) (N := nMarks) (sc := defScope sMarks) (by decide +kernel)) (fun _ _ _ _ _ => pg_name (i := 3) scMarks.nd rfl (Or.inl rfl)) (fun _ _ _ _ _ => pts_nil)
        (fun _ _ _ _ _ => pe_cmpR op_eq (pe_call GM hr (by rfl) gM FM.kp bM .nil pass0 (pa_cons (pv 3) (pa_cons (pv 1) (pa_cons pe_int pa_nil)))) pe_int (nomark _)))), ?_⟩
    refine ⟨.ref a, rfl, ?_⟩
    refine el_lcR1 (n := 40 - ((ns.map V.int).length : Int)) (fun _ => true) (fun _ => V.int kk) (ea_cons (ev_op ev_c (ev_len (ev_var rfl) (sq_of hS)) rv_I0) ea_nil) ⟨by rw [List.length_map]; omega, by omega⟩ (fun _ => rfl) (fun _ _ _ _ => et_yes) (fun _ _ _ _ _ => ev_var rfl) H (Ex.refl _) _ fun p1 H1 n1 e1 h1 => ?_
    rw [given_all, List.length_map] at h1
    refine ⟨a, p1, ns.map V.int, _, rfl, rfl, e1 _ _ hS, h1, sz_of (by rw [List.length_map, List.length_map, List.length_replicate]; omega), fun p2 n2 => ?_⟩
    rw [← List.map_append]
    have hcl : (ns ++ List.replicate (40 - (ns.length : Int)).toNat kk).length = 40 := by
      rw [List.length_append, List.length_replicate]
      omega
    generalize ns ++ List.replicate (40 - (ns.length : Int)).toNat kk = cs at hcl
    have e2 : Ex H (upd H1 p2 (.lst (cs.map V.int))) := e1.trans (Ex.new n2)
    refine ⟨p2, rfl, ⟨_, sq_of upd_same⟩, fun D nD => ?_⟩
    refine lc_list (xs := cs.map V.int) (fun i H' => Ex (upd H1 p2 (.lst (cs.map V.int))) H' ∧ ∃ bs : List Bool, H' D = some (.lst (bs.map V.bl)) ∧ bs.length = i) ⟨Ex.new nD, [], upd_same, rfl⟩ (fun i H' _ p => sq_of (p.1 _ _ upd_same)) (fun i v H' hi p => ?_) (fun H' p => ?_)
    · obtain ⟨e3, bs, hD, hb⟩ := p
      have hil := (List.getElem?_eq_some_iff.mp hi).1
      rw [List.length_map] at hil
      have hc := List.getElem?_eq_getElem hil
      generalize cs[i] = c at hc
      rw [ints_at hc] at hi
      cases hi
      refine ⟨rfl, .int c, rfl, .int kk, rfl, c, kk, rfl, k0, k2, fun z _ _ H4 e4 => ⟨rfl, ?_⟩⟩
      refine ⟨_, e4 _ _ hD, sz_lt (by rw [List.length_map]; omega), Ex.mut (e3.trans e4) nD, bs ++ [decide (V.int z = V.int 1)], ?_, by rw [List.length_append, List.length_singleton, hb]⟩
      rw [upd_same, List.map_append]
      rfl
    · obtain ⟨e3, bs, hD, hb⟩ := p
      rw [List.length_map, hcl] at hb
      exact q H' D bs (e2.trans e3) hD hb
end
end K29

namespace K29
open PySem PySem.Spec PyProof.Rows L2 Evl
/-- the hours of marks from lo to below hi -/
def Between (ms : List Bool) (f lo hi t : Int) : Prop := ∃ j : Nat, lo ≤ (j : Int) ∧ (j : Int) < hi ∧ ms[j]? = some true ∧ t = f + (j : Int)
section
variable {K : PySem.W.Frag} {σ : L2.St} {H : Hp} {ta : TA}
/-- [first + j for j in range(lo, hi) if marks[j]] -/
theorem ev_hours {b : Addr} {ms : List Bool} {f lo hi : Int} (hm : ms.length = 40) (hS : SqL K H b (ms.map V.bl)) (h : EvA ta σ H [.int lo, .int hi]) (h0 : 0 ≤ lo) (h1 : lo ≤ 100) (h2 : -100 ≤ hi) (h3 : hi ≤ 40)
    (s1 : ∀ x, ((wipe σ [7]).set 7 x)[1]? = some (some (.ref b))) (s2 : ∀ x, ((wipe σ [7]).set 7 x)[2]? = some (some (.int f))) (s7 : ∀ x, ((wipe σ [7]).set 7 x)[7]? = some x) (sw : ∀ x, wipe ((wipe σ [7]).set 7 x) [7] = wipe σ [7]) :
    ∀ H1, Ex H H1 → ∀ Q : VK, (∀ (p : Addr) (H2 : Hp) (L : List Int), Ex H1 H2 → H2 p = some (.lst (L.map V.int)) → (∀ t, t ∈ L ↔ Between ms f lo hi t) → Q (.ref p) H2) →
      tLc (iRng2 ta) (gName 7) (tB (tOp (rIxL K) (tVar 1) (tVar 7))) (tOp (rI0 fun i j => .int (i + j)) (tVar 2) (tVar 7)) [7] σ H1 Q := by
  intro H1 e1 Q q
  refine h H1 e1 _ fun H2 e2 => ⟨lo, hi, rfl, ⟨by omega, by omega, by omega, by omega⟩, fun D nD => ?_⟩
  refine lc_range (lo := lo) (n := (hi - lo).toNat) (fun i H' => Ex H2 H' ∧ ∃ L : List Int, H' D = some (.lst (L.map V.int)) ∧ L.length ≤ i ∧ ∀ t, t ∈ L ↔ Between ms f lo (lo + (i : Int)) t)
    ⟨Ex.new nD, [], upd_same, Nat.le_refl _, fun t => ⟨fun z => (by cases z), fun ⟨j, a, b, _⟩ => by omega⟩⟩ (fun i H' hi' p => ?_) (fun H' p => ?_)
  · obtain ⟨e3, L, hD, hL, hB⟩ := p
    obtain ⟨j, hj⟩ : ∃ j : Nat, lo + (i : Int) = (j : Int) := ⟨(lo + (i : Int)).toNat, (Int.toNat_of_nonneg (by omega)).symm⟩
    have hjl : j < ms.length := by omega
    have hx := List.getElem?_eq_getElem hjl
    generalize ms[j] = c at hx
    refine ⟨sw _, ?_⟩
    refine et_B (ev_op (ev_var (s1 _)) (ev_var (s7 _)) (rv_ixL (ex_l ((e1.trans e2).trans e3) hS) (at_of hj (bls_at hx)))) H' (Ex.refl _) _ fun H3 e4 => ?_
    have hB' : ∀ t, Between ms f lo (lo + ((i + 1 : Nat) : Int)) t ↔ t ∈ L ∨ (c = true ∧ t = f + (lo + (i : Int))) := fun t => by
      rw [hB t]
      constructor
      · rintro ⟨j', a, b, d, e⟩
        by_cases z : j' = j
        · subst z
          rw [hx] at d
          exact .inr ⟨Option.some.inj d, by omega⟩
        · exact .inl ⟨j', a, by omega, d, e⟩
      · rintro (⟨j', a, b, d, e⟩ | ⟨d, e⟩)
        · exact ⟨j', a, by omega, d, e⟩
        · subst d
          exact ⟨j, by omega, by omega, hx, by omega⟩
    refine ite2 (fun z => ?_) (fun z => ?_)
    · refine ev_op (ev_var (s2 _)) (ev_var (s7 _)) rv_I0 H3 (Ex.refl _) _ fun H4 e5 => ?_
      refine ⟨_, (e4.trans e5) _ _ hD, sz_lt (by rw [List.length_map]; omega), Ex.mut ((e3.trans e4).trans e5) nD, L ++ [f + (lo + (i : Int))], ?_, ?_, fun t => ?_⟩
      · rw [upd_same, List.map_append]
        rfl
      · rw [List.length_append, List.length_singleton]
        omega
      · rw [hB' t, List.mem_append, List.mem_singleton]
        exact ⟨fun x => x.imp id fun y => ⟨z, y⟩, fun x => x.imp id fun y => y.2⟩
    · refine ⟨e3.trans e4, L, e4 _ _ hD, by omega, fun t => ?_⟩
      rw [hB' t]
      exact ⟨.inl, fun x => x.elim id fun y => absurd y.1 z⟩
  · obtain ⟨e3, L, hD, _, hB⟩ := p
    refine q D H' L (e2.trans e3) hD fun t => ?_
    rw [hB t]
    constructor
    · rintro ⟨j, a, b, d, e⟩
      exact ⟨j, a, by omega, d, e⟩
    · rintro ⟨j, a, b, d, e⟩
      exact ⟨j, a, by omega, d, e⟩
end
theorem q_te {te : TE} {i : Nat} {tz : TS} {D : Ends} {σ : L2.St} {H : Hp} (h : te σ H fun x H1 => tz D (σ.set i (some x)) H1) : tSeq (tAsg te (gName i)) tz D σ H := h
theorem scal_oV (a b : Option Int) : scal (oV a) (oV b) = true := by cases a <;> cases b <;> rfl
theorem filter_take_snoc {ms : List Bool} {i : Nat} {b : Bool} (h : ms[i]? = some b) : (ms.take (i + 1)).filter id = (ms.take i).filter id ++ (if b then [true] else []) := by
  rw [take_snoc h, List.filter_append]
  cases b <;> rfl
section
variable {P : Program} {w : World} {K : PySem.W.Frag} {mg : Str → Option Value} {base : Heap}
theorem ok_ways {f fH fM fF fL : Addr} {fd fdH fdM fdF fdL : FuncData} {k : Nat} (F : Fun K "_law_ways_good" "_law_ways_good" sWays f fd)
    (FH : Fun K "holds" "holds" sHolds fH fdH) (bH : Binds K fdH ["spans", "hour"] []) (gH : mg "holds" = some (.ref fH)) (GH : FnOk P w K mg base CX0 k fH fdH ["spans", "hour"] spHolds)
    (FM : Fun K "many" "many" sMany fM fdM) (bM : Binds K fdM ["spans"] []) (gM : mg "many" = some (.ref fM)) (GM : FnOk P w K mg base CX0 k fM fdM ["spans"] spMany)
    (FF : Fun K "first_from" "first_from" sFirst fF fdF) (bF : Binds K fdF ["spans", "hour"] []) (gF : mg "first_from" = some (.ref fF)) (GF : FnOk P w K mg base CX0 k fF fdF ["spans", "hour"] spFirst)
    (FL : Fun K "last_to" "last_to" sLast fL fdL) (bL : Binds K fdL ["spans", "hour"] []) (gL : mg "last_to" = some (.ref fL)) (GL : FnOk P w K mg base CX0 k fL fdL ["spans", "hour"] spLast)
    (ml : mg "len" = none) (mr : mg "range" = none) (mx : mg "max" = none) (mn : mg "min" = none) : FnOk P w K mg base CX0 (k + 1) f fd ["spans", "marks", "first"] (spWays K) := by
  refine F.ok scWays (fun vs H Q E h => ?_) (fun cdv A outer s H vs Q E hr h => ?_)
  · obtain ⟨a, b, ps, ms, g, rfl, _⟩ := h
    rfl
  · obtain ⟨a, b, ps, ms, g, rfl, hT, hS, hm, R, q⟩ := h
    refine ⟨_, pss_cons (ps_for PassesOwn.never rfl (pi_range2 (by rfl) mr (pa_cons (pe_un un_neg pe_int) (pa_cons pe_int pa_nil))) (pg_name (i := 3) scWays.nd rfl (.inl rfl))
        (pss_cons (ps_set (i := 4) scWays.nd rfl (.inl rfl) (pe_and (pe_cmpR op_le pe_int (pv 3) (nomark _)) (pe_and (pe_cmpR op_lt (pv 3) pe_int (nomark _)) (pe_one (pe_ix ix_list (pv 1) (pv 3) (fun _ _ => rfl))))))
        (pss_cons (ps_if (pt_cmpR op_ne (pe_call GH hr (by rfl) gH FH.kp bH .nil pass0 (pa_cons (pv 0) (pa_cons (pe_op op_add (pv 2) (pv 3)) pa_nil))) (pv 4) (nomark _)) (pss_one (ps_ret pe_bl)) pss_nil)
        (pss_cons (ps_setLc (i := 5) (own := [("j", 7)]) (g := gName 7) (tt := tB (tOp (rIxL K) (tVar 1) (tVar 7))) rfl scWays.nd rfl rfl (sw_true rfl rfl rfl (by decide +kernel))
            (pi_range2 (by rfl) mr (pa_cons (pe_callB (call_max2 rfl) (by rfl) mx (by decide +kernel) (pa_cons pe_int (pa_cons (pv 3) pa_nil))) (pa_cons pe_int pa_nil)))
            (blkOk_by (own := [("j", 7)]) (N := nWays) (sc := defScope sWays) (by decide +kernel)) (fun _ _ _ _ _ => pg_name (i := 7) scWays.nd rfl (Or.inl rfl)) (fun _ _ _ _ _ => pts_one (pt_val (pe_ix ix_list (pv 1) (pv 7) (fun _ _ => rfl)))) (fun _ _ _ _ _ => pe_op op_add (pv 2) (pv 7)))
        (pss_cons (ps_setLc (i := 6) (own := [("j", 7)]) (g := gName 7) (tt := tB (tOp (rIxL K) (tVar 1) (tVar 7))) rfl scWays.nd rfl rfl (sw_true rfl rfl rfl (by decide +kernel))
            (pi_range2 (by rfl) mr (pa_cons pe_int (pa_cons (pe_callB (call_min2 rfl) (by rfl) mn (by decide +kernel) (pa_cons pe_int (pa_cons (pe_op op_add (pv 3) pe_int) pa_nil))) pa_nil)))
            (blkOk_by (own := [("j", 7)]) (N := nWays) (sc := defScope sWays) (by decide +kernel)) (fun _ _ _ _ _ => pg_name (i := 7) scWays.nd rfl (Or.inl rfl)) (fun _ _ _ _ _ => pts_one (pt_val (pe_ix ix_list (pv 1) (pv 7) (fun _ _ => rfl)))) (fun _ _ _ _ _ => pe_op op_add (pv 2) (pv 7)))
        (pss_cons (ps_if (pt_cmpR op_ne (pe_call GF hr (by rfl) gF FF.kp bF .nil pass0 (pa_cons (pv 0) (pa_cons (pe_op op_add (pv 2) (pv 3)) pa_nil)))
            (pe_callBK (cr_minD rfl (hu_of hr)) (by rfl) mn (by decide +kernel) (pa_cons (pv 5) pa_nil) (pk_cons pe_non pk_nil)) (nomark _)) (pss_one (ps_ret pe_bl)) pss_nil)
        (pss_one (ps_if (pt_cmpR op_ne (pe_call GL hr (by rfl) gL FL.kp bL .nil pass0 (pa_cons (pv 0) (pa_cons (pe_op op_add (pv 2) (pv 3)) pa_nil)))
            (pe_callBK (cr_maxD rfl (hu_of hr)) (by rfl) mx (by decide +kernel) (pa_cons (pv 6) pa_nil) (pk_cons pe_non pk_nil)) (nomark _)) (pss_one (ps_ret pe_bl)) pss_nil))))))))
      (pss_one (ps_ret (pe_cmpR op_eq (pe_call GM hr (by rfl) gM FM.kp bM .nil pass0 (pa_cons (pv 0) pa_nil))
        (pe_callB call_len_seq (by rfl) ml PySem.boot_len (pa_cons (pe_lc (own := [("mark", 8)]) (g := gName 8) (tt := tB (tVar 8)) rfl scWays.nd (pi_list (pv 1)) (blkOk_by (own := [("mark", 8)]) (N := nWays) (sc := defScope sWays) (by decide +kernel))
          (fun _ _ _ _ _ => pg_name (i := 8) scWays.nd rfl (Or.inl rfl)) (fun _ _ _ _ _ => pts_one (pt_val (pv 8))) (fun _ _ _ _ _ => pv 8)) pa_nil)) (nomark _)))), ?_⟩
    have lp : ps.length ≤ 100 := Nat.le_trans R.len (by omega)
    refine ⟨1, rfl, -1, 41, rfl, ⟨by decide, by decide, by decide, by decide⟩, ?_⟩
    refine for_range (lo := -1) (n := 42) (fun i σ' H' => ∃ (y3 y4 y5 y6 : Option V), σ' = [some (.ref a), some (.ref b), some (.int g), y3, y4, y5, y6, none, none] ∧ Ex H H') ⟨none, none, none, none, rfl, Ex.refl _⟩ (fun i σ' H' hi p => ?_) (fun σ' H' p => ?_)
    · obtain ⟨y3, y4, y5, y6, rfl, e1⟩ := p
      obtain ⟨kk, hk⟩ : ∃ kk : Int, (-1 : Int) + (i : Int) = kk := ⟨_, rfl⟩
      rw [hk]
      have hk1 : -1 ≤ kk := by omega
      have hk2 : kk ≤ 40 := by omega
      have hST : ∀ H2, Ex H H2 → SqL K H2 b (ms.map V.bl) := fun H2 e => ex_l e hS
      -- held
      obtain ⟨hd, hhd, hev⟩ : ∃ hd : Bool, (hd = true ↔ Mem ps (g + kk)) ∧ ∀ σ2 H2, Ex H H2 → σ2[3]? = some (some (.int kk)) → σ2[1]? = some (some (.ref b)) →
          Ev (tAndV (tOp (rI0 fun i j => .bl (decide (i ≤ j))) (tC (.int 0)) (tVar 3)) (tAndV (tOp (rI0 fun i j => .bl (decide (i < j))) (tVar 3) (tC (.int 40))) (tOp (rIxL K) (tVar 1) (tVar 3)))) σ2 H2 (.bl hd) := by
        by_cases c1 : 0 ≤ kk
        · by_cases c2 : kk < 40
          · obtain ⟨j, hj⟩ : ∃ j : Nat, kk = (j : Int) := ⟨kk.toNat, (Int.toNat_of_nonneg c1).symm⟩
            have hjl : j < ms.length := by omega
            have hx := List.getElem?_eq_getElem hjl
            generalize ms[j] = c at hx
            refine ⟨c, ?_, fun σ2 H2 e s3 s1 => ?_⟩
            · rw [R.mem]
              constructor
              · rintro rfl
                exact ⟨j, hx, by omega⟩
              · rintro ⟨j', h', e'⟩
                have : j' = j := by omega
                subst this
                rw [hx] at h'
                exact Option.some.inj h'
            · refine ev_is (ev_andV (a := true) (ev_is (ev_op ev_c (ev_var s3) rv_I0) (congrArg V.bl (decide_eq_true c1))) fun _ => ev_andV (a := true) (ev_is (ev_op (ev_var s3) ev_c rv_I0) (congrArg V.bl (decide_eq_true c2))) fun _ => ev_op (ev_var s1) (ev_var s3) (rv_ixL (hST H2 e) (at_of hj (bls_at hx)))) ?_
              rw [Bool.true_and, Bool.true_and]
          · refine ⟨false, ⟨fun z => (by cases z), fun z => ?_⟩, fun σ2 H2 e s3 s1 => ?_⟩
            · have := marked_lt ((R.mem _).mp z)
              omega
            · exact ev_andV (a := true) (b := false) (ev_is (ev_op ev_c (ev_var s3) rv_I0) (congrArg V.bl (decide_eq_true c1))) fun _ => ev_andV (a := false) (b := false) (ev_is (ev_op (ev_var s3) ev_c rv_I0) (congrArg V.bl (decide_eq_false c2))) fun z => by cases z
        · refine ⟨false, ⟨fun z => (by cases z), fun z => ?_⟩, fun σ2 H2 e s3 s1 => ?_⟩
          · have := marked_lt ((R.mem _).mp z)
            omega
          · exact ev_andV (a := false) (b := false) (ev_is (ev_op ev_c (ev_var s3) rv_I0) (congrArg V.bl (decide_eq_false c1))) fun z => by cases z
      refine q_asg (hev _ _ e1 rfl rfl) fun H2 e2 => ?_
      have e2' := e1.trans e2
      -- if holds(..) != held
      refine q_when (b := false) (fun H3 e3 Q3 q3 => ⟨.ref a, rfl, .int g, rfl, .int kk, rfl, g, kk, rfl, rfl, a, g + kk, ps, rfl, hT.mono (e2'.trans e3), lp, fun c hc H4 e4 => ⟨.bl hd, rfl, rfl, false, by
        rw [show c = hd by rw [Bool.eq_iff_iff, hc, hhd], decide_eq_true rfl]
        rfl, q3 H4 e4⟩⟩) (fun z => by cases z) (fun _ H3 e3 => ?_)
      have e3' := e2'.trans e3
      -- later
      refine q_te ?_
      refine ev_hours (σ := [some (.ref a), some (.ref b), some (.int g), some (.int kk), some (.bl hd), y5, y6, none, none]) hm (hST _ e3') (lo := if kk > 0 then kk else 0) (hi := 40) (f := g) (ea_cons (ev_max2 ev_c (ev_var (i := 3) rfl)) (ea_cons ev_c ea_nil)) (by split <;> omega) (by split <;> omega) (by decide) (by decide) (by intro _; rfl) (by intro _; rfl) (by intro _; rfl) (by intro _; rfl) H3 (Ex.refl _) _ fun p5 H4 L1 e4 h5 hL1 => ?_
      have e4' := e3'.trans e4
      refine q_te ?_
      refine ev_hours (σ := [some (.ref a), some (.ref b), some (.int g), some (.int kk), some (.bl hd), some (.ref p5), y6, none, none]) hm (hST _ e4') (lo := 0) (hi := if kk + 1 < 40 then kk + 1 else 40) (f := g) (ea_cons ev_c (ea_cons (ev_min2 ev_c (ev_op (ev_var (i := 3) rfl) ev_c rv_I0)) ea_nil)) (by decide) (by decide) (by split <;> omega) (by split <;> omega) (by intro _; rfl) (by intro _; rfl) (by intro _; rfl) (by intro _; rfl) H4 (Ex.refl _) _ fun p6 H5 L2 e5 h6 hL2 => ?_
      have e5' := e4'.trans e5
      -- first_from(..) != min(later, default=None)
      refine q_when (b := false) (fun H6 e6 Q6 q6 => ⟨.ref a, rfl, .int g, rfl, .int kk, rfl, g, kk, rfl, rfl, a, g + kk, ps, rfl, hT.mono (e5'.trans e6), R.good, fun r hr1 H7 e7 => ⟨.ref p5, rfl, p5, L1, rfl, rfl, sq_of (((e5.trans e6).trans e7) _ _ h5), fun r' hr2 => ?_⟩⟩) (fun z => by cases z) (fun _ H6 e6 => ?_)
      · have er : r = r' := Least.unique (fun t => by
          rw [hL1 t, R.mem t]
          constructor
          · rintro ⟨⟨j, x1, x2⟩, x3⟩
            have := (List.getElem?_eq_some_iff.mp x1).1
            exact ⟨j, by split <;> omega, by omega, x1, x2⟩
          · rintro ⟨j, x1, x2, x3, x4⟩
            exact ⟨⟨j, x3, x4⟩, by split at x1 <;> omega⟩) hr1 hr2
        subst er
        refine ⟨scal_oV r r, false, ?_, q6 H7 e7⟩
        rw [decide_eq_true rfl]
        rfl
      have e6' := e5'.trans e6
      -- last_to(..) != max(sooner, default=None)
      refine s_when (b := false) (fun H7 e7 Q7 q7 => ⟨.ref a, rfl, .int g, rfl, .int kk, rfl, g, kk, rfl, rfl, a, g + kk, ps, rfl, hT.mono (e6'.trans e7), R.good, fun r hr1 H8 e8 => ⟨.ref p6, rfl, p6, L2, rfl, rfl, sq_of (((e6.trans e7).trans e8) _ _ h6), fun r' hr2 => ?_⟩⟩) (fun z => by cases z) (fun _ H7 e7 => ?_)
      · have er : r = r' := Greatest.unique (fun t => by
          rw [hL2 t, R.mem t]
          constructor
          · rintro ⟨⟨j, x1, x2⟩, x3⟩
            have := (List.getElem?_eq_some_iff.mp x1).1
            exact ⟨j, by omega, by split <;> omega, x1, x2⟩
          · rintro ⟨j, x1, x2, x3, x4⟩
            exact ⟨⟨j, x3, x4⟩, by split at x2 <;> omega⟩) hr1 hr2
        subst er
        refine ⟨scal_oV r r, false, ?_, q7 H8 e8⟩
        rw [decide_eq_true rfl]
        rfl
      exact ⟨_, _, _, _, rfl, e6'.trans e7⟩
    · obtain ⟨y3, y4, y5, y6, rfl, e1⟩ := p
      refine ⟨.ref a, rfl, a, ps, rfl, hT.mono e1, lp, fun H2 e2 => ?_⟩
      have e2' := e1.trans e2
      refine ⟨.ref b, rfl, b, rfl, ⟨_, ex_l e2' hS⟩, fun D nD => ?_⟩
      refine lc_list (xs := ms.map V.bl) (fun i H' => Ex H2 H' ∧ H' D = some (.lst (((ms.take i).filter id).map V.bl))) ⟨Ex.new nD, upd_same⟩ (fun i H' _ p => ex_l (e2'.trans p.1) hS) (fun i v H' hi p => ?_) (fun H' p => ?_)
      · obtain ⟨e3, hD⟩ := p
        have hil := (List.getElem?_eq_some_iff.mp hi).1
        rw [List.length_map] at hil
        have hx := List.getElem?_eq_getElem hil
        generalize ms[i] = c at hx
        rw [bls_at hx] at hi
        cases hi
        have hf := filter_take_snoc hx
        refine ⟨rfl, .bl c, rfl, c, rfl, ?_⟩
        cases c with
        | true =>
          refine ⟨.bl true, rfl, _, hD, sz_lt (by
            rw [List.length_map]
            have h1 := List.length_filter_le id (ms.take i)
            rw [List.length_take] at h1
            omega), Ex.mut e3 nD, ?_⟩
          rw [upd_same, hf, List.map_append]
          rfl
        | false =>
          refine ⟨e3, ?_⟩
          rw [hf]
          show H' D = some (.lst (((ms.take i).filter id ++ []).map V.bl))
          rw [List.append_nil]
          exact hD
      · obtain ⟨e3, hD⟩ := p
        rw [List.length_map, List.take_length] at hD
        refine ⟨D, _, rfl, .inl (sq_of hD), rfl, ?_⟩
        have et : V.int (total ps) = V.int ((((ms.filter id).map V.bl).length : Nat) : Int) := by
          rw [R.tot, List.length_map]
          rfl
        rw [decide_eq_true et]
        exact q _ (e2'.trans e3)
end
end K29

namespace K29
open PySem PySem.Spec PyProof.Rows L2 Evl
/-! ### plain -/
theorem getD_at {m : List Bool} {k n : Nat} (hm : m.length = n) (hk : k < n) : m[k]? = some (m.getD k false) := by
  have h : k < m.length := by omega
  rw [List.getD_eq_getElem?_getD, List.getElem?_eq_getElem h]
  rfl
theorem singles_up {m : List Bool} {g t : Int} (hm : m.length = 40) : (∃ k : Nat, k < 40 ∧ m.getD k false = true ∧ t = g + (k : Int)) ↔ Marked m g t := by
  constructor
  · rintro ⟨k, hk, c, e⟩
    exact ⟨k, by rw [getD_at hm hk, c], e⟩
  · rintro ⟨k, c, e⟩
    have hk : k < 40 := by
      have := (List.getElem?_eq_some_iff.mp c).1
      omega
    rw [getD_at hm hk] at c
    exact ⟨k, hk, Option.some.inj c, e⟩
theorem singles_down {m : List Bool} {g t : Int} (hm : m.length = 40) : (∃ k : Nat, k < 40 ∧ m.getD (39 - k) false = true ∧ t = g + 39 - (k : Int)) ↔ Marked m g t := by
  rw [← singles_up hm]
  constructor
  · rintro ⟨k, hk, c, e⟩
    exact ⟨39 - k, by omega, c, by omega⟩
  · rintro ⟨k, hk, c, e⟩
    refine ⟨39 - k, by omega, ?_, by omega⟩
    rw [show 39 - (39 - k) = k by omega]
    exact c
section
variable {K : PySem.W.Frag} {σ : L2.St} {H : Hp}
/-- [(h k, h k) for k in range(40) if c k] -/
theorem ev_singles {ta : TE} {tt : TT} (c : Nat → Bool) (h : Nat → Int) (sw : ∀ x, wipe ((wipe σ [8]).set 8 x) [8] = wipe σ [8])
    (hc : ∀ k : Nat, k < 40 → ∀ H1, Ex H H1 → EvT tt ((wipe σ [8]).set 8 (some (.int (k : Int)))) H1 (c k)) (hh : ∀ k : Nat, k < 40 → ∀ H1, Ex H H1 → Ev ta ((wipe σ [8]).set 8 (some (.int (k : Int)))) H1 (.int (h k))) :
    ∀ H1, Ex H H1 → ∀ Q : VK, (∀ (p : Addr) (H2 : Hp) (us : List V) (ps : List Pr), Ex H1 H2 → H2 p = some (.lst us) → PPs H2 us ps → ps.length ≤ 40 → (∀ t, Mem ps t ↔ ∃ k : Nat, k < 40 ∧ c k = true ∧ t = h k) → Q (.ref p) H2) →
      tLc (iRng1 (tCons (tC (.int 40)) tNil)) (gName 8) tt (tTup (tCons ta (tCons ta tNil))) [8] σ H1 Q := by
  intro H1 e1 Q q
  refine ⟨40, rfl, by decide, by decide, fun D nD => ?_⟩
  refine lc_range (lo := 0) (n := 40) (fun i H' => Ex H1 H' ∧ ∃ (us : List V) (ps : List Pr), H' D = some (.lst us) ∧ PPs H' us ps ∧ ps.length ≤ i ∧ ∀ t, Mem ps t ↔ ∃ k : Nat, k < i ∧ c k = true ∧ t = h k)
    ⟨Ex.new nD, [], [], upd_same, .nil, Nat.le_refl _, fun t => ⟨fun z => absurd z (mem_nil t), fun ⟨k, z, _⟩ => absurd z (Nat.not_lt_zero k)⟩⟩ (fun i H' hi p => ?_) (fun H' p => ?_)
  · obtain ⟨e2, us, ps, hD, hP, hl, hM⟩ := p
    have e0 : (0 : Int) + (i : Int) = (i : Int) := Int.zero_add _
    rw [e0]
    have hM' : ∀ t, (∃ k : Nat, k < i + 1 ∧ c k = true ∧ t = h k) ↔ Mem ps t ∨ (c i = true ∧ t = h i) := fun t => by
      rw [hM t]
      constructor
      · rintro ⟨k, a, b, d⟩
        by_cases z : k = i
        · subst z
          exact .inr ⟨b, d⟩
        · exact .inl ⟨k, by omega, b, d⟩
      · rintro (⟨k, a, b, d⟩ | ⟨b, d⟩)
        · exact ⟨k, by omega, b, d⟩
        · exact ⟨i, by omega, b, d⟩
    refine ⟨sw _, ?_⟩
    refine hc i hi H' (e1.trans e2) H' (Ex.refl _) _ fun H3 e3 => ?_
    have hul := hP.length
    refine ite2 (fun z => ?_) (fun z => ?_)
    · refine eu_tup (ea_cons (hh i hi H3 ((e1.trans e2).trans e3)) (ea_cons (hh i hi H3 ((e1.trans e2).trans e3)) ea_nil)) (show 2 ≤ 100000 by decide) H3 (Ex.refl _) _ fun p H4 np e4 hp => ?_
      have hD4 : H4 D = some (.lst us) := (e3.trans e4) _ _ hD
      refine ⟨us, hD4, sz_lt (by omega), Ex.mut ((e2.trans e3).trans e4) nD, us ++ [.ref p], ps ++ [(h i, h i)], upd_same, pps_append (pps_wr (pps_mono (e3.trans e4) hP) hD4) (pps_one (PP.wr ⟨p, rfl, hp⟩ hD4)), by rw [List.length_append, List.length_singleton]; omega, fun t => ?_⟩
      rw [hM' t, mem_append, mem_one]
      show (_ ∨ (h i ≤ t ∧ t ≤ h i)) ↔ _
      exact ⟨fun x => x.imp id fun y => ⟨z, by omega⟩, fun x => x.imp id fun y => ⟨by omega, by omega⟩⟩
    · refine ⟨e2.trans e3, us, ps, e3 _ _ hD, pps_mono e3 hP, by omega, fun t => ?_⟩
      rw [hM' t]
      exact ⟨.inl, fun x => x.elim id fun y => absurd y.1 z⟩
  · obtain ⟨e2, us, ps, hD, hP, hl, hM⟩ := p
    exact q D H' us ps e2 hD hP hl hM
/-- [fn(left, right) for left, right in pairs] -/
theorem ev_zipped {te : TE} (fn : Bool → Bool → Bool) {z : Addr} {ts : List Addr} {m u : List Bool} (hm : m.length = 40) (hu : u.length = 40) (hZ : H z = some (.lst (ts.map V.ref)))
    (hP : Paired (fun (t : Addr) (q : V × V) => H t = some (.tup [q.1, q.2])) ts ((m.map V.bl).zip (u.map V.bl))) (s7 : σ[7]? = some (some (.ref z)))
    (sw : ∀ x y, wipe (((wipe σ [9, 10]).set 9 x).set 10 y) [9, 10] = wipe σ [9, 10])
    (he : ∀ (l r : Bool) H1, Ex H H1 → Ev te (((wipe σ [9, 10]).set 9 (some (.bl l))).set 10 (some (.bl r))) H1 (.bl (fn l r))) :
    ∀ H1, Ex H H1 → ∀ Q : VK, (∀ (p : Addr) (H2 : Hp), Ex H1 H2 → H2 p = some (.lst ((List.zipWith fn m u).map V.bl)) → Q (.ref p) H2) →
      tLc (iList K (tVar 7)) (gTup K 2 (gCons (gName 9) (gCons (gName 10) gNil))) tYes te [9, 10] σ H1 Q := by
  intro H1 e1 Q q
  have hl := hP.length
  rw [List.length_zip, List.length_map, List.length_map, hm, hu] at hl
  refine ⟨.ref z, s7, z, rfl, ⟨_, sq_of (e1 _ _ hZ)⟩, fun D nD => ?_⟩
  refine lc_list (xs := ts.map V.ref) (fun i H' => Ex H1 H' ∧ H' D = some (.lst (((List.zipWith fn m u).take i).map V.bl))) ⟨Ex.new nD, upd_same⟩ (fun i H' _ p => sq_of ((e1.trans p.1) _ _ hZ)) (fun i v H' hi p => ?_) (fun H' p => ?_)
  · obtain ⟨e2, hD⟩ := p
    rw [List.getElem?_map] at hi
    cases ht : ts[i]? with
    | none =>
      rw [ht] at hi
      cases hi
    | some t =>
      rw [ht] at hi
      cases hi
      have hil : i < 40 := by
        have := (List.getElem?_eq_some_iff.mp ht).1
        omega
      obtain ⟨pq, h1, h2⟩ := LiI.paired_get hP ht
      rw [List.getElem?_zip_eq_some, bls_at (getD_at hm hil), bls_at (getD_at hu hil)] at h1
      have h3 := (e1.trans e2) _ _ h2
      rw [← Option.some.inj h1.1, ← Option.some.inj h1.2] at h3
      have hz : (List.zipWith fn m u)[i]? = some (fn (m.getD i false) (u.getD i false)) := by
        rw [List.getElem?_zipWith, getD_at hm hil, getD_at hu hil]
      generalize m.getD i false = l at h3 hz
      generalize u.getD i false = r at h3 hz
      refine ⟨t, [.bl l, .bl r], rfl, st_of h3, rfl, .bl l, [.bl r], rfl, .bl r, [], rfl, rfl, sw _ _, ?_⟩
      refine he l r H' (e1.trans e2) H' (Ex.refl _) _ fun H3 e3 => ?_
      refine ⟨_, e3 _ _ hD, sz_lt (by rw [List.length_map, List.length_take]; omega), Ex.mut (e2.trans e3) nD, ?_⟩
      rw [upd_same, take_snoc hz, List.map_append]
      rfl
  · obtain ⟨e2, hD⟩ := p
    have hle : (List.zipWith fn m u).length ≤ (ts.map V.ref).length := by
      rw [List.length_map, List.length_zipWith]
      omega
    rw [List.take_of_length_le hle] at hD
    exact q D H' e2 hD
end
theorem call1 {sp : Sp} {E : XK} {te : TE} {σ : L2.St} {H : Hp} {Q : VK} (h : te σ H fun x H1 => sp [x] H1 Q E) : tCall sp [] E (tCons te tNil) σ H Q := h
section
variable {K : PySem.W.Frag} {σ : L2.St} {H : Hp} {ta tb tc : TE} {E : XK}
theorem et_runs {pm po : Addr} {g : Int} {m : List Bool} {rs : List Pr} (ha : Ev ta σ H (.ref pm)) (hb : Ev tb σ H (.ref po)) (hc : Ev tc σ H (.int g)) (hT : SpT H pm rs) (R : IsRuns m g rs) (hS : SqL K H po (m.map V.bl)) (hml : m.length ≤ 100) :
    EvT (tTest (tOp (rNeD K) ta (tCall (spRuns K) [] E (tCons tb (tCons tc tNil))))) σ H false := fun H1 e1 Q q =>
  ha H1 e1 _ fun H2 e2 => hb H2 (e1.trans e2) _ fun H3 e3 => hc H3 ((e1.trans e2).trans e3) _ fun H4 e4 => ⟨po, g, m, rfl, ex_l (((e1.trans e2).trans e3).trans e4) hS, hml, fun H5 p rs' e5 hT' R' => by
    have er := R.unique R'
    subst er
    exact ne_same (hT.mono ((((e1.trans e2).trans e3).trans e4).trans e5)) hT' ⟨false, rfl, q H5 (((e2.trans e3).trans e4).trans e5)⟩⟩
theorem et_pair {g : Int} {m : List Bool} (hml : m.length ≤ 100) (ha : ∀ H1, Ex H H1 → ∀ Q : VK, (∀ (H2 : Hp) (p : Addr) (rs : List Pr), Ex H1 H2 → SpT H2 p rs → IsRuns m g rs → Q (.ref p) H2) → ta σ H1 Q)
    (hb : ∀ H1, Ex H H1 → ∀ Q : VK, (∀ (p : Addr) (H2 : Hp), Ex H1 H2 → H2 p = some (.lst (m.map V.bl)) → Q (.ref p) H2) → tb σ H1 Q) (hc : Ev tc σ H (.int g)) :
    EvT (tTest (tOp (rNeD K) ta (tCall (spRuns K) [] E (tCons tb (tCons tc tNil))))) σ H false := fun H1 e1 Q q =>
  ha H1 e1 _ fun H2 p rs e2 hT R => hb H2 (e1.trans e2) _ fun po H3 e3 hS => hc H3 ((e1.trans e2).trans e3) _ fun H4 e4 => ⟨po, g, m, rfl, sq_of (e4 _ _ hS), hml, fun H5 p rs' e5 hT' R' => by
    have er := R.unique R'
    subst er
    exact ne_same (hT.mono ((e3.trans e4).trans e5)) hT' ⟨false, rfl, q H5 (((e2.trans e3).trans e4).trans e5)⟩⟩
end
theorem pick2 {x : Int} {z : Int} (h0 : 0 ≤ z) (h2 : z < 2) : ∃ g : Int, atI [V.int 0, V.int x] z = some (.int g) := by
  have : z = 0 ∨ z = 1 := by omega
  rcases this with rfl | rfl
  · exact ⟨0, rfl⟩
  · exact ⟨x, rfl⟩
section
variable (P : Program) (w : World) (K : PySem.W.Frag) (mg : Str → Option Value) (base : Heap)
/-- a def that may be called -/
def Has (k : Nat) (x : Str) (st : Stmt) (ps : List Str) (sp : Sp) : Prop := ∃ (f : Addr) (fd : FuncData), Fun K x x st f fd ∧ Binds K fd ps [] ∧ mg x = some (.ref f) ∧ FnOk P w K mg base CX0 k f fd ps sp
end
section
variable {P : Program} {w : World} {K : PySem.W.Frag} {mg : Str → Option Value} {base : Heap}
theorem ok_law {f : Addr} {fd : FuncData} {k : Nat} (F : Fun K "law" "law" sLaw f fd)
    (CT : Has P w K mg base k "tidy" sTidy ["pairs"] (spTidy K)) (CB : Has P w K mg base k "both" sBoth ["one", "other"] spBoth) (CE : Has P w K mg base k "either" sEither ["one", "other"] spEither) (CW : Has P w K mg base k "without" sWithout ["one", "other"] spWithout)
    (CA : Has P w K mg base k "_law_at" sAt ["script", "k"] (spAt K)) (CM : Has P w K mg base k "_law_mix" sMix ["cell", "k", "size"] spMix) (CF : Has P w K mg base k "_law_folded" sFolded ["script", "first", "most"] (spFolded K)) (CR : Has P w K mg base k "_law_runs" sRuns ["marks", "first"] (spRuns K))
    (CK : Has P w K mg base k "_law_marks" sMarks ["numbers", "k"] spMarks) (CY : Has P w K mg base k "_law_ways_good" sWays ["spans", "marks", "first"] (spWays K))
    (mr : mg "range" = none) (ml : mg "list" = none) (mz : mg "zip" = none) : FnOk P w K mg base CX0 (k + 1) f fd ["script"] (spLaw K) := by
  obtain ⟨fT, fdT, FT, bT, gT, GT⟩ := CT
  obtain ⟨fB, fdB, FB, bB, gB, GB⟩ := CB
  obtain ⟨fE, fdE, FE, bE, gE, GE⟩ := CE
  obtain ⟨fW, fdW, FW, bW, gW, GW⟩ := CW
  obtain ⟨fA, fdA, FA, bA, gA, GA⟩ := CA
  obtain ⟨fM, fdM, FM, bM, gM, GM⟩ := CM
  obtain ⟨fF, fdF, FF, bF, gF, GF⟩ := CF
  obtain ⟨fR, fdR, FR, bR, gR, GR⟩ := CR
  obtain ⟨fK, fdK, FK, bK, gK, GK⟩ := CK
  obtain ⟨fY, fdY, FY, bY, gY, GY⟩ := CY
  refine F.ok scLaw (fun vs H Q E h => ?_) (fun cdv A outer s H vs Q E hr h => ?_)
  · obtain ⟨a, ns, rfl, _⟩ := h
    rfl
  · obtain ⟨a, ns, rfl, hS, hl, q⟩ := h
    refine ⟨_, pss_cons (ps_set (i := 1) scLaw.nd rfl (.inr rfl) (pe_ix ix_list
        (pe_lst (pa_cons pe_int (pa_cons (pe_op op_sub (pe_op op_modN (pe_call GA hr (by rfl) gA FA.kp bA .nil pass0 (pa_cons (pv 0) (pa_cons pe_int pa_nil))) (pe_op op_pow pe_int pe_int)) (pe_op op_mul pe_int (pe_op op_pow pe_int pe_int))) pa_nil)))
        (pe_call GM hr (by rfl) gM FM.kp bM .nil pass0 (pa_cons (pe_call GA hr (by rfl) gA FA.kp bA .nil pass0 (pa_cons (pv 0) (pa_cons pe_int pa_nil))) (pa_cons pe_int (pa_cons pe_int pa_nil)))) (fun _ _ => rfl)))
      (pss_cons (ps_set (i := 2) scLaw.nd rfl (.inl rfl) (pe_call GF hr (by rfl) gF FF.kp bF .nil pass0 (pa_cons (pv 0) (pa_cons pe_int (pa_cons pe_int pa_nil)))))
      (pss_cons (ps_set (i := 3) scLaw.nd rfl (.inr rfl) (pe_call GK hr (by rfl) gK FK.kp bK .nil pass0 (pa_cons (pv 2) (pa_cons pe_int pa_nil))))
      (pss_cons (ps_set (i := 4) scLaw.nd rfl (.inr rfl) (pe_call GK hr (by rfl) gK FK.kp bK .nil pass0 (pa_cons (pv 2) (pa_cons pe_int pa_nil))))
      (pss_cons (ps_set (i := 5) scLaw.nd rfl (.inl rfl) (pe_call GT hr (by rfl) gT FT.kp bT .nil pass0 (pa_cons
        (pe_lc (own := [("k", 8)]) (g := gName 8) (tt := tB (tOp (rIxL K) (tVar 3) (tVar 8))) rfl scLaw.nd (pi_range1 (by rfl) mr (pa_cons pe_int pa_nil)) (blkOk_by (own := [("k", 8)]) (N := nLaw) (sc := defScope sLaw) (by decide +kernel))
          (fun _ _ _ _ _ => pg_name (i := 8) scLaw.nd rfl (Or.inl rfl)) (fun _ _ _ _ _ => pts_one (pt_val (pe_ix ix_list (pv 3) (pv 8) (fun _ _ => rfl)))) (fun _ _ _ _ _ => pe_tup (pa_cons (pe_op op_add (pv 1) (pv 8)) (pa_cons (pe_op op_add (pv 1) (pv 8)) pa_nil)))) pa_nil)))
      (pss_cons (ps_set (i := 6) scLaw.nd rfl (.inl rfl) (pe_call GT hr (by rfl) gT FT.kp bT .nil pass0 (pa_cons
        (pe_lc (own := [("k", 8)]) (g := gName 8) (tt := tB (tOp (rIxL K) (tVar 4) (tOp (rI0 fun i j => .int (i - j)) (tC (.int 39)) (tVar 8)))) rfl scLaw.nd (pi_range1 (by rfl) mr (pa_cons pe_int pa_nil)) (blkOk_by (own := [("k", 8)]) (N := nLaw) (sc := defScope sLaw) (by decide +kernel))
          (fun _ _ _ _ _ => pg_name (i := 8) scLaw.nd rfl (Or.inl rfl)) (fun _ _ _ _ _ => pts_one (pt_val (pe_ix ix_list (pv 4) (pe_op op_sub pe_int (pv 8)) (fun _ _ => rfl))))
          (fun _ _ _ _ _ => pe_tup (pa_cons (pe_op op_sub (pe_op op_add (pv 1) pe_int) (pv 8)) (pa_cons (pe_op op_sub (pe_op op_add (pv 1) pe_int) (pv 8)) pa_nil)))) pa_nil)))
      (pss_cons (ps_if (PW.pt (pw_or (pt_cmpR (op_neD hr.units) (pv 5) (pe_call GR hr (by rfl) gR FR.kp bR .nil pass0 (pa_cons (pv 3) (pa_cons (pv 1) pa_nil))) (nomark _))
          (pw_or1 (pt_cmpR (op_neD hr.units) (pv 6) (pe_call GR hr (by rfl) gR FR.kp bR .nil pass0 (pa_cons (pv 4) (pa_cons (pv 1) pa_nil))) (nomark _))))) (pss_one (ps_ret pe_bl)) pss_nil)
      (pss_cons (ps_set (i := 7) scLaw.nd rfl (.inl rfl) (LZ.pe_listZip rfl (by rfl) ml (by decide +kernel) (by rfl) mz (pa_cons (pv 3) (pa_cons (pv 4) pa_nil))))
      (pss_cons (ps_if (pt_cmpR (op_neD hr.units) (pe_call GB hr (by rfl) gB FB.kp bB .nil pass0 (pa_cons (pv 5) (pa_cons (pv 6) pa_nil))) (pe_call GR hr (by rfl) gR FR.kp bR .nil pass0 (pa_cons
          (pe_lc (own := [("left", 9), ("right", 10)]) (g := gTup K 2 (gCons (gName 9) (gCons (gName 10) gNil))) (tt := tYes) rfl scLaw.nd (pi_list (pv 7)) (blkOk_by (own := [("left", 9), ("right", 10)]) (N := nLaw) (sc := defScope sLaw) (by decide +kernel))
            (fun _ _ _ _ _ => pg_tup rfl (pgs_cons (pg_name (i := 9) scLaw.nd rfl (Or.inl rfl)) (pgs_cons (pg_name (i := 10) scLaw.nd rfl (Or.inl rfl)) pgs_nil))) (fun _ _ _ _ _ => pts_nil) (fun _ _ _ _ _ => pe_and (pv 9) (pe_one (pv 10)))) (pa_cons (pv 1) pa_nil))) (nomark _)) (pss_one (ps_ret pe_bl)) pss_nil)
      (pss_cons (ps_if (pt_cmpR (op_neD hr.units) (pe_call GE hr (by rfl) gE FE.kp bE .nil pass0 (pa_cons (pv 5) (pa_cons (pv 6) pa_nil))) (pe_call GR hr (by rfl) gR FR.kp bR .nil pass0 (pa_cons
          (pe_lc (own := [("left", 9), ("right", 10)]) (g := gTup K 2 (gCons (gName 9) (gCons (gName 10) gNil))) (tt := tYes) rfl scLaw.nd (pi_list (pv 7)) (blkOk_by (own := [("left", 9), ("right", 10)]) (N := nLaw) (sc := defScope sLaw) (by decide +kernel))
            (fun _ _ _ _ _ => pg_tup rfl (pgs_cons (pg_name (i := 9) scLaw.nd rfl (Or.inl rfl)) (pgs_cons (pg_name (i := 10) scLaw.nd rfl (Or.inl rfl)) pgs_nil))) (fun _ _ _ _ _ => pts_nil) (fun _ _ _ _ _ => pe_or (pv 9) (pe_one (pv 10)))) (pa_cons (pv 1) pa_nil))) (nomark _)) (pss_one (ps_ret pe_bl)) pss_nil)
      (pss_cons (ps_if (pt_cmpR (op_neD hr.units) (pe_call GW hr (by rfl) gW FW.kp bW .nil pass0 (pa_cons (pv 5) (pa_cons (pv 6) pa_nil))) (pe_call GR hr (by rfl) gR FR.kp bR .nil pass0 (pa_cons
          (pe_lc (own := [("left", 9), ("right", 10)]) (g := gTup K 2 (gCons (gName 9) (gCons (gName 10) gNil))) (tt := tYes) rfl scLaw.nd (pi_list (pv 7)) (blkOk_by (own := [("left", 9), ("right", 10)]) (N := nLaw) (sc := defScope sLaw) (by decide +kernel))
            (fun _ _ _ _ _ => pg_tup rfl (pgs_cons (pg_name (i := 9) scLaw.nd rfl (Or.inl rfl)) (pgs_cons (pg_name (i := 10) scLaw.nd rfl (Or.inl rfl)) pgs_nil))) (fun _ _ _ _ _ => pts_nil) (fun _ _ _ _ _ => pe_and (pv 9) (pe_one (pe_not (pv 10))))) (pa_cons (pv 1) pa_nil))) (nomark _)) (pss_one (ps_ret pe_bl)) pss_nil)
      (pss_one (ps_ret (pe_and (pe_call GY hr (by rfl) gY FY.kp bY .nil pass0 (pa_cons (pv 5) (pa_cons (pv 3) (pa_cons (pv 1) pa_nil)))) (pe_one (pe_call GY hr (by rfl) gY FY.kp bY .nil pass0 (pa_cons (pv 6) (pa_cons (pv 4) (pa_cons (pv 1) pa_nil)))))))))))))))))), ?_⟩
    -- first
    refine q_te ?_
    refine ⟨.ref a, rfl, a, ns, rfl, hS, fun z1 H1 e1 => ?_⟩
    refine ⟨10, 50, rfl, rfl, ⟨by decide, by decide, by decide⟩, z1, _, rfl, rfl, (show (10 : Int) ^ (50 : Int).toNat ≠ 0 by decide +kernel), 10, 49, rfl, rfl, ⟨by decide, by decide, by decide⟩, 5, _, rfl, rfl, .inl ⟨by decide, by decide⟩, _, _, rfl, rfl, show 2 ≤ sizeLine by decide, fun l nl => ?_⟩
    have e1' : ∀ o, Ex H (upd H1 l o) := fun o => e1.trans (Ex.new nl)
    refine ⟨.ref a, rfl, a, ns, rfl, ex_l (e1' _) hS, fun z2 H2 e2 => ⟨z2, 0, rfl, by decide, by decide, fun z3 p1 p2 H3 e3 => ?_⟩⟩
    have hl3 := (e2.trans e3) _ _ upd_same
    obtain ⟨g, hg⟩ := pick2 p1 p2
    refine ⟨l, _, z3, .int g, rfl, rfl, sq_of hl3, hg, ?_⟩
    have e3' := ((e1' _).trans e2).trans e3
    clear hg hl3
    -- numbers, one, other
    refine q_te ?_
    refine ⟨.ref a, rfl, a, ns, rfl, ex_l e3' hS, hl, fun H4 pn cells e4 hn hnl => ?_⟩
    refine q_te ?_
    refine ⟨.ref pn, rfl, pn, cells, 1, rfl, hn, hnl, by decide, by decide, fun H5 po m e5 hm hml => ?_⟩
    refine q_te ?_
    refine ⟨.ref pn, rfl, pn, cells, 2, rfl, e5 _ _ hn, hnl, by decide, by decide, fun H6 pu u e6 hu hul => ?_⟩
    have hm6 := e6 _ _ hm
    -- mine
    refine q_te (call1 ?_)
    refine ev_singles (σ := [some (.ref a), some (.int g), some (.ref pn), some (.ref po), some (.ref pu), none, none, none, none, none, none]) (H := H6) (fun k => m.getD k false) (fun k => g + (k : Int)) (by intro _; rfl)
      (fun k hk H1 e => et_B (ev_op (ev_var (i := 3) rfl) (ev_var (i := 8) rfl) (rv_ixL (sq_of (e _ _ hm6)) (atI_nat (bls_at (getD_at hml hk))))))
      (fun k hk H1 e => ev_op (ev_var (i := 1) rfl) (ev_var (i := 8) rfl) rv_I0) H6 (Ex.refl _) _ fun p7 H7 us1 ps1 e7 h7 hp1 hl1 hM1 => ?_
    refine ⟨p7, us1, ps1, rfl, sq_of h7, hp1, by omega, fun H8 pm rs1 e8 hT1 g1 hm1 => ?_⟩
    have R1 : IsRuns m g rs1 := ⟨g1, fun t => (hm1 t).trans ((hM1 t).trans (singles_up hml))⟩
    have hm8 := (e7.trans e8) _ _ hm6
    have hu8 := (e7.trans e8) _ _ hu
    clear hM1 hm1 hp1 h7
    -- yours
    refine q_te (call1 ?_)
    refine ev_singles (σ := [some (.ref a), some (.int g), some (.ref pn), some (.ref po), some (.ref pu), some (.ref pm), none, none, none, none, none]) (H := H8) (fun k => u.getD (39 - k) false) (fun k => g + 39 - (k : Int)) (by intro _; rfl)
      (fun k hk H1 e => et_B (ev_op (ev_var (i := 4) rfl) (ev_op ev_c (ev_var (i := 8) rfl) rv_I0) (rv_ixL (sq_of (e _ _ hu8)) (at_of (j := 39 - k) (by omega) (bls_at (getD_at hul (by omega)))))))
      (fun k hk H1 e => ev_op (ev_op (ev_var (i := 1) rfl) ev_c rv_I0) (ev_var (i := 8) rfl) rv_I0) H8 (Ex.refl _) _ fun p9 H9 us2 ps2 e9 h9 hp2 hl2 hM2 => ?_
    refine ⟨p9, us2, ps2, rfl, sq_of h9, hp2, by omega, fun H10 py rs2 e10 hT2 g2 hm2 => ?_⟩
    have R2 : IsRuns u g rs2 := ⟨g2, fun t => (hm2 t).trans ((hM2 t).trans (singles_down hul))⟩
    have e10' := e9.trans e10
    have hm10 := e10' _ _ hm8
    have hu10 := e10' _ _ hu8
    have hT1' := hT1.mono e10'
    clear hM2 hm2 hp2 h9
    -- mine != .. or yours != ..
    refine q_when (b := false) (et_is (et_or (a := false) (b := false) (et_runs (ev_var rfl) (ev_var rfl) (ev_var rfl) hT1' R1 (sq_of hm10) (by omega)) (fun _ => et_runs (ev_var rfl) (ev_var rfl) (ev_var rfl) hT2 R2 (sq_of hu10) (by omega))) rfl) (fun z => by cases z) (fun _ H11 e11 => ?_)
    have hm11 := e11 _ _ hm10
    have hu11 := e11 _ _ hu10
    -- pairs
    refine q_te ?_
    refine ⟨.ref po, rfl, .ref pu, rfl, po, pu, m.map V.bl, u.map V.bl, rfl, sq_of hm11, sq_of hu11, by rw [List.length_map, List.length_map, hml, hul], fun H12 pz ts e12 nz hz hZ => ?_⟩
    have e12 : Ex H11 H12 := e12
    have e12' := e11.trans e12
    have hT1z := hT1'.mono e12'
    have hT2z := hT2.mono e12'
    have l1 : rs1.length ≤ 100 := Nat.le_trans R1.len (by omega)
    have l2 : rs2.length ≤ 100 := Nat.le_trans R2.len (by omega)
    have lz : ∀ fn : Bool → Bool → Bool, (List.zipWith fn m u).length ≤ 100 := fun fn => by
      rw [List.length_zipWith]
      omega
    -- both
    refine q_when (b := false) (et_pair (g := g) (m := List.zipWith (fun x y => x && y) m u) (lz _)
      (fun H1 e Q' k => ⟨.ref pm, rfl, .ref py, rfl, pm, py, rs1, rs2, rfl, hT1z.mono e, hT2z.mono e, R1.good, R2.good, l1, l2, fun H2 p rs e2 hT gd hM => k H2 p rs e2 hT (R1.both R2 gd hM)⟩)
      (ev_zipped (fun x y => x && y) hml hul hz hZ rfl (by intro _ _; rfl) (fun l r H1 e => ev_andV (ev_var (i := 9) rfl) fun _ => ev_var (i := 10) rfl)) (ev_var rfl)) (fun z => by cases z) (fun _ H13 e13 => ?_)
    -- either
    refine q_when (b := false) (et_pair (g := g) (m := List.zipWith (fun x y => x || y) m u) (lz _)
      (fun H1 e Q' k => ⟨.ref pm, rfl, .ref py, rfl, pm, py, rs1, rs2, rfl, hT1z.mono (e13.trans e), hT2z.mono (e13.trans e), l1, l2, fun H2 p rs e2 hT gd hM => k H2 p rs e2 hT (R1.either (hml.trans hul.symm) R2 gd hM)⟩)
      (ev_zipped (fun x y => x || y) hml hul (e13 _ _ hz) (Paired.mapP hZ fun t q x => e13 _ _ x) rfl (by intro _ _; rfl) (fun l r H1 e => ev_orV (ev_var (i := 9) rfl) fun _ => ev_var (i := 10) rfl)) (ev_var rfl)) (fun z => by cases z) (fun _ H14 e14 => ?_)
    have e14' := e13.trans e14
    -- without
    refine q_when (b := false) (et_pair (g := g) (m := List.zipWith (fun x y => x && !y) m u) (lz _)
      (fun H1 e Q' k => ⟨.ref pm, rfl, .ref py, rfl, pm, py, rs1, rs2, rfl, hT1z.mono (e14'.trans e), hT2z.mono (e14'.trans e), R1.good, R2.good, l1, l2, fun H2 p rs e2 hT gd hM => k H2 p rs e2 hT (R1.without (hml.trans hul.symm) R2 gd hM)⟩)
      (ev_zipped (fun x y => x && !y) hml hul (e14' _ _ hz) (Paired.mapP hZ fun t q x => e14' _ _ x) rfl (by intro _ _; rfl) (fun l r H1 e => ev_andV (ev_var (i := 9) rfl) fun _ => ev_notV (ev_var (i := 10) rfl))) (ev_var rfl)) (fun z => by cases z) (fun _ H15 e15 => ?_)
    have e15' := e14'.trans e15
    -- the end
    refine ⟨.ref pm, rfl, .ref po, rfl, .int g, rfl, pm, po, rs1, m, g, rfl, hT1z.mono e15', sq_of ((e12.trans e15') _ _ hm11), hml, R1, fun H16 e16 => ⟨true, rfl, iteT ?_⟩⟩
    exact ⟨.ref py, rfl, .ref pu, rfl, .int g, rfl, py, pu, rs2, u, g, rfl, hT2z.mono (e15'.trans e16), sq_of (((e12.trans e15').trans e16) _ _ hu11), hul, R2, fun H17 _ => q H17⟩
end
end K29

namespace K29
open PySem PySem.Spec PyProof.Rows L2

theorem all_mk {l : PySem.W.OpenLaw} {w : World} {K : PySem.W.Frag} {h : Heap} {mg : Str → Option Value} {fa f1 f2 f3 f4 f5 f6 f7 f8 f9 f10 f11 f12 f13 f14 f15 : Addr} (X : K.In h) (G : h.Ns mainGlobals mg) (hfa : mg "law" = some (.ref fa))
    {od1 an1 od2 an2 od3 an3 od4 an4 od5 an5 od6 an6 od7 an7 od8 an8 od9 an9 od10 an10 od11 an11 od12 an12 od13 an13 od14 an14 od15 an15 : Option Addr} {sl1 sl2 sl3 sl4 sl5 sl6 sl7 sl8 sl9 sl10 sl11 sl12 sl13 sl14 sl15 : Array (Option Value)} {oc1 kV1 dc1 pm1 cd1 ct1 oc2 kV2 dc2 pm2 cd2 ct2 oc3 kV3 dc3 pm3 cd3 ct3 oc4 kV4 dc4 pm4 cd4 ct4 oc5 kV5 dc5 pm5 cd5 ct5 oc6 kV6 dc6 pm6 cd6 ct6 oc7 kV7 dc7 pm7 cd7 ct7 oc8 kV8 dc8 pm8 cd8 ct8 oc9 kV9 dc9 pm9 cd9 ct9 oc10 kV10 dc10 pm10 cd10 ct10 oc11 kV11 dc11 pm11 cd11 ct11 oc12 kV12 dc12 pm12 cd12 ct12 oc13 kV13 dc13 pm13 cd13 ct13 oc14 kV14 dc14 pm14 cd14 ct14 oc15 kV15 dc15 pm15 cd15 ct15 : Value}
    (a1 : PySem.W.nsIn K mainGlobals "tidy" = some (some (.ref f1))) (l1 : K.lookup f1 = some ⟨oc1, od1, .func (PySem.W.fnOf "tidy" "tidy" (defArgs sTidy) (defBody sTidy) (defScope sTidy) .none kV1 dc1 pm1 an1 cd1 ct1), sl1⟩) (c1 : PySem.W.codeIn K cd1 "tidy" = true) (k1 : PySem.W.keepIn K (.ref f1) = true)
    (a2 : PySem.W.nsIn K mainGlobals "both" = some (some (.ref f2))) (l2 : K.lookup f2 = some ⟨oc2, od2, .func (PySem.W.fnOf "both" "both" (defArgs sBoth) (defBody sBoth) (defScope sBoth) .none kV2 dc2 pm2 an2 cd2 ct2), sl2⟩) (c2 : PySem.W.codeIn K cd2 "both" = true) (k2 : PySem.W.keepIn K (.ref f2) = true)
    (a3 : PySem.W.nsIn K mainGlobals "either" = some (some (.ref f3))) (l3 : K.lookup f3 = some ⟨oc3, od3, .func (PySem.W.fnOf "either" "either" (defArgs sEither) (defBody sEither) (defScope sEither) .none kV3 dc3 pm3 an3 cd3 ct3), sl3⟩) (c3 : PySem.W.codeIn K cd3 "either" = true) (k3 : PySem.W.keepIn K (.ref f3) = true)
    (a4 : PySem.W.nsIn K mainGlobals "without" = some (some (.ref f4))) (l4 : K.lookup f4 = some ⟨oc4, od4, .func (PySem.W.fnOf "without" "without" (defArgs sWithout) (defBody sWithout) (defScope sWithout) .none kV4 dc4 pm4 an4 cd4 ct4), sl4⟩) (c4 : PySem.W.codeIn K cd4 "without" = true) (k4 : PySem.W.keepIn K (.ref f4) = true)
    (a5 : PySem.W.nsIn K mainGlobals "holds" = some (some (.ref f5))) (l5 : K.lookup f5 = some ⟨oc5, od5, .func (PySem.W.fnOf "holds" "holds" (defArgs sHolds) (defBody sHolds) (defScope sHolds) .none kV5 dc5 pm5 an5 cd5 ct5), sl5⟩) (c5 : PySem.W.codeIn K cd5 "holds" = true) (k5 : PySem.W.keepIn K (.ref f5) = true)
    (a6 : PySem.W.nsIn K mainGlobals "many" = some (some (.ref f6))) (l6 : K.lookup f6 = some ⟨oc6, od6, .func (PySem.W.fnOf "many" "many" (defArgs sMany) (defBody sMany) (defScope sMany) .none kV6 dc6 pm6 an6 cd6 ct6), sl6⟩) (c6 : PySem.W.codeIn K cd6 "many" = true) (k6 : PySem.W.keepIn K (.ref f6) = true)
    (a7 : PySem.W.nsIn K mainGlobals "first_from" = some (some (.ref f7))) (l7 : K.lookup f7 = some ⟨oc7, od7, .func (PySem.W.fnOf "first_from" "first_from" (defArgs sFirst) (defBody sFirst) (defScope sFirst) .none kV7 dc7 pm7 an7 cd7 ct7), sl7⟩) (c7 : PySem.W.codeIn K cd7 "first_from" = true) (k7 : PySem.W.keepIn K (.ref f7) = true)
    (a8 : PySem.W.nsIn K mainGlobals "last_to" = some (some (.ref f8))) (l8 : K.lookup f8 = some ⟨oc8, od8, .func (PySem.W.fnOf "last_to" "last_to" (defArgs sLast) (defBody sLast) (defScope sLast) .none kV8 dc8 pm8 an8 cd8 ct8), sl8⟩) (c8 : PySem.W.codeIn K cd8 "last_to" = true) (k8 : PySem.W.keepIn K (.ref f8) = true)
    (a9 : PySem.W.nsIn K mainGlobals "_law_at" = some (some (.ref f9))) (l9 : K.lookup f9 = some ⟨oc9, od9, .func (PySem.W.fnOf "_law_at" "_law_at" (defArgs sAt) (defBody sAt) (defScope sAt) .none kV9 dc9 pm9 an9 cd9 ct9), sl9⟩) (c9 : PySem.W.codeIn K cd9 "_law_at" = true) (k9 : PySem.W.keepIn K (.ref f9) = true)
    (a10 : PySem.W.nsIn K mainGlobals "_law_mix" = some (some (.ref f10))) (l10 : K.lookup f10 = some ⟨oc10, od10, .func (PySem.W.fnOf "_law_mix" "_law_mix" (defArgs sMix) (defBody sMix) (defScope sMix) .none kV10 dc10 pm10 an10 cd10 ct10), sl10⟩) (c10 : PySem.W.codeIn K cd10 "_law_mix" = true) (k10 : PySem.W.keepIn K (.ref f10) = true)
    (a11 : PySem.W.nsIn K mainGlobals "_law_folded" = some (some (.ref f11))) (l11 : K.lookup f11 = some ⟨oc11, od11, .func (PySem.W.fnOf "_law_folded" "_law_folded" (defArgs sFolded) (defBody sFolded) (defScope sFolded) .none kV11 dc11 pm11 an11 cd11 ct11), sl11⟩) (c11 : PySem.W.codeIn K cd11 "_law_folded" = true) (k11 : PySem.W.keepIn K (.ref f11) = true)
    (a12 : PySem.W.nsIn K mainGlobals "_law_runs" = some (some (.ref f12))) (l12 : K.lookup f12 = some ⟨oc12, od12, .func (PySem.W.fnOf "_law_runs" "_law_runs" (defArgs sRuns) (defBody sRuns) (defScope sRuns) .none kV12 dc12 pm12 an12 cd12 ct12), sl12⟩) (c12 : PySem.W.codeIn K cd12 "_law_runs" = true) (k12 : PySem.W.keepIn K (.ref f12) = true)
    (a13 : PySem.W.nsIn K mainGlobals "_law_marks" = some (some (.ref f13))) (l13 : K.lookup f13 = some ⟨oc13, od13, .func (PySem.W.fnOf "_law_marks" "_law_marks" (defArgs sMarks) (defBody sMarks) (defScope sMarks) .none kV13 dc13 pm13 an13 cd13 ct13), sl13⟩) (c13 : PySem.W.codeIn K cd13 "_law_marks" = true) (k13 : PySem.W.keepIn K (.ref f13) = true)
    (a14 : PySem.W.nsIn K mainGlobals "_law_ways_good" = some (some (.ref f14))) (l14 : K.lookup f14 = some ⟨oc14, od14, .func (PySem.W.fnOf "_law_ways_good" "_law_ways_good" (defArgs sWays) (defBody sWays) (defScope sWays) .none kV14 dc14 pm14 an14 cd14 ct14), sl14⟩) (c14 : PySem.W.codeIn K cd14 "_law_ways_good" = true) (k14 : PySem.W.keepIn K (.ref f14) = true)
    (a15 : PySem.W.nsIn K mainGlobals "law" = some (some (.ref f15))) (l15 : K.lookup f15 = some ⟨oc15, od15, .func (PySem.W.fnOf "law" "law" (defArgs sLaw) (defBody sLaw) (defScope sLaw) .none kV15 dc15 pm15 an15 cd15 ct15), sl15⟩) (c15 : PySem.W.codeIn K cd15 "law" = true) (k15 : PySem.W.keepIn K (.ref f15) = true)
    (z1 : PySem.W.nsIn K mainGlobals "len" = some none) (z2 : PySem.W.nsIn K mainGlobals "sorted" = some none) (z3 : PySem.W.nsIn K mainGlobals "max" = some none) (z4 : PySem.W.nsIn K mainGlobals "min" = some none) (z5 : PySem.W.nsIn K mainGlobals "tuple" = some none) (z6 : PySem.W.nsIn K mainGlobals "list" = some none) (z7 : PySem.W.nsIn K mainGlobals "zip" = some none) (z8 : PySem.W.nsIn K mainGlobals "any" = some none) (z9 : PySem.W.nsIn K mainGlobals "sum" = some none) (z10 : PySem.W.nsIn K mainGlobals "range" = some none) (z11 : PySem.W.nsIn K mainGlobals "reversed" = some none) :
    ∃ fd : FuncData, (∀ (s : Shared) (v : Value), BindsTo s fd ⟨[v], []⟩ [("script", v)]) ∧ ∀ base : Heap, K.In base → base.Ns mainGlobals mg → FnOk l.prog w K mg base CX0 3 fa fd ["script"] (spLaw K) := by
  have e := hfa.symm.trans (PySem.W.mg_of X G a15)
  cases e
  have FTidy := fun_mk (st := sTidy) l1 c1 k1
  have bTidy := FTidy.binds (ps := ["pairs"]) fun _ _ _ _ _ _ us hl => match us, hl with | [_], _ => rfl
  have gTidy := PySem.W.mg_of X G a1
  have FBoth := fun_mk (st := sBoth) l2 c2 k2
  have bBoth := FBoth.binds (ps := ["one", "other"]) fun _ _ _ _ _ _ us hl => match us, hl with | [_, _], _ => rfl
  have gBoth := PySem.W.mg_of X G a2
  have FEither := fun_mk (st := sEither) l3 c3 k3
  have bEither := FEither.binds (ps := ["one", "other"]) fun _ _ _ _ _ _ us hl => match us, hl with | [_, _], _ => rfl
  have gEither := PySem.W.mg_of X G a3
  have FWithout := fun_mk (st := sWithout) l4 c4 k4
  have bWithout := FWithout.binds (ps := ["one", "other"]) fun _ _ _ _ _ _ us hl => match us, hl with | [_, _], _ => rfl
  have gWithout := PySem.W.mg_of X G a4
  have FHolds := fun_mk (st := sHolds) l5 c5 k5
  have bHolds := FHolds.binds (ps := ["spans", "hour"]) fun _ _ _ _ _ _ us hl => match us, hl with | [_, _], _ => rfl
  have gHolds := PySem.W.mg_of X G a5
  have FMany := fun_mk (st := sMany) l6 c6 k6
  have bMany := FMany.binds (ps := ["spans"]) fun _ _ _ _ _ _ us hl => match us, hl with | [_], _ => rfl
  have gMany := PySem.W.mg_of X G a6
  have FFirst := fun_mk (st := sFirst) l7 c7 k7
  have bFirst := FFirst.binds (ps := ["spans", "hour"]) fun _ _ _ _ _ _ us hl => match us, hl with | [_, _], _ => rfl
  have gFirst := PySem.W.mg_of X G a7
  have FLast := fun_mk (st := sLast) l8 c8 k8
  have bLast := FLast.binds (ps := ["spans", "hour"]) fun _ _ _ _ _ _ us hl => match us, hl with | [_, _], _ => rfl
  have gLast := PySem.W.mg_of X G a8
  have FAt := fun_mk (st := sAt) l9 c9 k9
  have bAt := FAt.binds (ps := ["script", "k"]) fun _ _ _ _ _ _ us hl => match us, hl with | [_, _], _ => rfl
  have gAt := PySem.W.mg_of X G a9
  have FMix := fun_mk (st := sMix) l10 c10 k10
  have bMix := FMix.binds (ps := ["cell", "k", "size"]) fun _ _ _ _ _ _ us hl => match us, hl with | [_, _, _], _ => rfl
  have gMix := PySem.W.mg_of X G a10
  have FFolded := fun_mk (st := sFolded) l11 c11 k11
  have bFolded := FFolded.binds (ps := ["script", "first", "most"]) fun _ _ _ _ _ _ us hl => match us, hl with | [_, _, _], _ => rfl
  have gFolded := PySem.W.mg_of X G a11
  have FRuns := fun_mk (st := sRuns) l12 c12 k12
  have bRuns := FRuns.binds (ps := ["marks", "first"]) fun _ _ _ _ _ _ us hl => match us, hl with | [_, _], _ => rfl
  have gRuns := PySem.W.mg_of X G a12
  have FMarks := fun_mk (st := sMarks) l13 c13 k13
  have bMarks := FMarks.binds (ps := ["numbers", "k"]) fun _ _ _ _ _ _ us hl => match us, hl with | [_, _], _ => rfl
  have gMarks := PySem.W.mg_of X G a13
  have FWays := fun_mk (st := sWays) l14 c14 k14
  have bWays := FWays.binds (ps := ["spans", "marks", "first"]) fun _ _ _ _ _ _ us hl => match us, hl with | [_, _, _], _ => rfl
  have gWays := PySem.W.mg_of X G a14
  have FLaw := fun_mk (st := sLaw) l15 c15 k15
  have n_len := PySem.W.mg_none_of X G z1
  have n_sorted := PySem.W.mg_none_of X G z2
  have n_max := PySem.W.mg_none_of X G z3
  have n_min := PySem.W.mg_none_of X G z4
  have n_tuple := PySem.W.mg_none_of X G z5
  have n_list := PySem.W.mg_none_of X G z6
  have n_zip := PySem.W.mg_none_of X G z7
  have n_any := PySem.W.mg_none_of X G z8
  have n_sum := PySem.W.mg_none_of X G z9
  have n_range := PySem.W.mg_none_of X G z10
  have n_reversed := PySem.W.mg_none_of X G z11
  refine ⟨PySem.W.fnOf "law" "law" (defArgs sLaw) (defBody sLaw) (defScope sLaw) .none kV15 dc15 pm15 an15 cd15 ct15, fun s v => .of_eq rfl, fun base _ _ => ?_⟩
  have T : ∀ k, FnOk l.prog w K mg base CX0 (k + 1) f1 _ ["pairs"] (spTidy K) := fun k => ok_tidy FTidy n_sorted n_len n_max n_tuple
  refine ok_law (k := 2) FLaw ⟨_, _, FTidy, bTidy, gTidy, T 1⟩ ⟨_, _, FBoth, bBoth, gBoth, ok_both FBoth n_len n_max n_min n_tuple⟩ ⟨_, _, FEither, bEither, gEither, ok_either FEither FTidy bTidy gTidy (T 0) n_list⟩
    ⟨_, _, FWithout, bWithout, gWithout, ok_without FWithout n_tuple⟩ ⟨_, _, FAt, bAt, gAt, ok_at FAt n_len⟩ ⟨_, _, FMix, bMix, gMix, ok_mix FMix⟩ ⟨_, _, FFolded, bFolded, gFolded, ok_folded FFolded n_len n_range⟩
    ⟨_, _, FRuns, bRuns, gRuns, ok_runs FRuns n_len n_range n_tuple⟩ ⟨_, _, FMarks, bMarks, gMarks, ok_marks FMarks FMix bMix gMix (ok_mix (k := 0) FMix) n_len n_range⟩
    ⟨_, _, FWays, bWays, gWays, ok_ways FWays FHolds bHolds gHolds (ok_holds (k := 0) FHolds n_any) FMany bMany gMany (ok_many (k := 0) FMany n_sum) FFirst bFirst gFirst (ok_first (k := 0) FFirst n_max) FLast bLast gLast (ok_last (k := 0) FLast n_min n_reversed) n_len n_range n_max n_min⟩
    n_range n_list n_zip
end K29
open PySem PySem.W PyProof.Rows
set_option maxHeartbeats 0 in
theorem PySem.Challenge.cw_beaconvale_k29_whole_hours_gone_through_holds : PySem.Challenge.rw_beaconvale_k29_whole_hours_gone_through.Holds := by
  w_on; o_law; k_head; (case hw => w_witness2)
  k_fill
  refine L2.walk_of (l := PySem.Challenge.rw_beaconvale_k29_whole_hours_gone_through) (n := 63) (k := 3) (x := "script") (CX := fun _ => L2.CX0) (sp := fun w => K29.spLaw _) rfl (by decide) rfl ⟨rfl, by decide, by decide⟩ (fun w h Y => PySem.W.kIn_of Y) ?F (fun _ _ a ns hl _ hS => ⟨a, ns, rfl, hS, hl, fun _ => rfl⟩) (fun _ _ _ _ _ h => h)
  case F =>
    intro w mg fa h KX G hmg
    refine' K29.all_mk KX G hmg ?a1 ?l1 ?c1 ?k1 ?a2 ?l2 ?c2 ?k2 ?a3 ?l3 ?c3 ?k3 ?a4 ?l4 ?c4 ?k4 ?a5 ?l5 ?c5 ?k5 ?a6 ?l6 ?c6 ?k6 ?a7 ?l7 ?c7 ?k7 ?a8 ?l8 ?c8 ?k8 ?a9 ?l9 ?c9 ?k9 ?a10 ?l10 ?c10 ?k10 ?a11 ?l11 ?c11 ?k11 ?a12 ?l12 ?c12 ?k12 ?a13 ?l13 ?c13 ?k13 ?a14 ?l14 ?c14 ?k14 ?a15 ?l15 ?c15 ?k15 ?z1 ?z2 ?z3 ?z4 ?z5 ?z6 ?z7 ?z8 ?z9 ?z10 ?z11
    (case a1 => k_is); (case l1 => k_is); (case c1 => k_is); (case k1 => k_is); (case a2 => k_is); (case l2 => k_is); (case c2 => k_is); (case k2 => k_is); (case a3 => k_is); (case l3 => k_is); (case c3 => k_is); (case k3 => k_is); (case a4 => k_is); (case l4 => k_is); (case c4 => k_is); (case k4 => k_is); (case a5 => k_is); (case l5 => k_is); (case c5 => k_is); (case k5 => k_is); (case a6 => k_is); (case l6 => k_is); (case c6 => k_is); (case k6 => k_is); (case a7 => k_is); (case l7 => k_is); (case c7 => k_is); (case k7 => k_is); (case a8 => k_is); (case l8 => k_is); (case c8 => k_is); (case k8 => k_is); (case a9 => k_is); (case l9 => k_is); (case c9 => k_is); (case k9 => k_is); (case a10 => k_is); (case l10 => k_is); (case c10 => k_is); (case k10 => k_is); (case a11 => k_is); (case l11 => k_is); (case c11 => k_is); (case k11 => k_is); (case a12 => k_is); (case l12 => k_is); (case c12 => k_is); (case k12 => k_is); (case a13 => k_is); (case l13 => k_is); (case c13 => k_is); (case k13 => k_is); (case a14 => k_is); (case l14 => k_is); (case c14 => k_is); (case k14 => k_is); (case a15 => k_is); (case l15 => k_is); (case c15 => k_is); (case k15 => k_is); (case z1 => k_is); (case z2 => k_is); (case z3 => k_is); (case z4 => k_is); (case z5 => k_is); (case z6 => k_is); (case z7 => k_is); (case z8 => k_is); (case z9 => k_is); (case z10 => k_is); (case z11 => k_is)
