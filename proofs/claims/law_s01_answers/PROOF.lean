import PyProof.Rows.All
import Wide.All
import OpenK.AllK
import Wide.FinOn
import Open.SpecLaws
import KE.OsHead
import KE.OsGo
import HandS.ForSpec
import HandS.Comp
import HandS.Dict
import HandS.Iter
import HandS.WordsDict
import HandS.Deep
import HandS.SetFor
import KE.DataMinMax
import PySem.Challenge.RW_whirlingair_s01_answers
set_option Elab.async false
set_option linter.all false
set_option maxRecDepth 100000
set_option maxHeartbeats 4000000
/-! The mirror: each def of the program as a total function over plain lists of whole numbers. No Python here. -/
namespace Wa
abbrev Order := List (Int × Int)
structure M where
  shift : Int
  rooms : List (List Int)
  planes : List (Int × Int × Int)
  landed : Order
  waiting : List Int
def M.fresh (shift : Int) : M := ⟨shift, List.replicate 4 (List.replicate 4 1), [], [], []⟩
def M.plane (m : M) (n : Int) : Int × Int × Int := m.planes.getD n.toNat (0, 0, 0)
def M.room (m : M) (a b : Int) : Int := (m.rooms.getD a.toNat []).getD b.toNat 0
def M.clear (m : M) (ahead time number : Int) : Int := time + m.room (m.plane ahead).1 (m.plane number).1
def M.rank (m : M) (n : Int) : Int := (((m.landed.map Prod.fst ++ m.waiting).filter fun o => decide (o < n)).length : Nat)
def maxL (a : Int) (l : List Int) : Int := l.foldl max a
def M.clears (m : M) (q : Order) (n : Int) : List Int := q.map fun x => m.clear x.1 x.2 n
def M.base (m : M) (n : Int) : Int := maxL (m.plane n).2.1 (m.clears m.landed n)
def M.soonest (m : M) (q : Order) (n : Int) : Int := maxL (m.base n) (m.clears q n)
def absI (i : Int) : Int := if i < 0 then -i else i
def M.place (m : M) (q : Order) : Int := (m.landed.length : Int) + (q.length : Int)
def M.near (m : M) (shift : Int) (q : Order) (n : Int) : Bool := decide (absI (m.place q - m.rank n) ≤ shift)
/-- the queue with one more behind it, where it may stand there -/
def M.one (m : M) (shift : Int) (q : Order) (n : Int) : Option Order :=
  if (!(q.map Prod.fst).contains n && m.near shift q n) = true then (if m.soonest q n ≤ (m.plane n).2.2 then some (q ++ [(n, m.soonest q n)]) else none) else none
def M.more (m : M) (shift : Int) (q : Order) : List Order := m.waiting.filterMap (m.one shift q)
def M.levels (m : M) (shift : Int) : Nat → List Order
  | 0 => [[]]
  | k + 1 => (m.levels shift k).flatMap (m.more shift)
def M.allowed (m : M) (shift : Int) : List Order := m.levels shift m.waiting.length
def endOf (o : Order) : Int := match o.getLast? with
  | none => 0
  | some x => x.2
def M.waitingOf (m : M) (o : Order) : Int := (o.map fun x => x.2 - (m.plane x.1).2.1).sum
def less (a b : Int × Int) : Bool := decide (a.1 < b.1) || (decide (a.1 = b.1) && decide (a.2 < b.2))
def M.cost (m : M) (o : Order) : Int × Int := (endOf o, m.waitingOf o)
def M.least (m : M) : List Order → Option Order
  | [] => none
  | r :: l => some (l.foldl (fun b x => if less (m.cost x) (m.cost b) = true then x else b) r)
def M.planOf (m : M) (shift : Int) : Option Order := m.least (m.allowed shift)
def timeOf (o : Order) (n : Int) : Int := (o.lookup n).getD 0
def M.behind (m : M) (o : Order) (n : Int) : List Int := ((m.landed ++ o).filter fun x => decide (m.clear x.1 x.2 n = timeOf o n)).map Prod.fst
def M.firstBehind (m : M) (o : Order) (n : Int) : List Int := if timeOf o n = (m.plane n).2.1 then [] else (m.behind o n).take 1
def listed (l : List Int) : List Int := (l.length : Int) :: l
def pairs (o : Order) : List Int := o.flatMap fun x => [x.1, x.2]
def M.toldPlan (m : M) (shift : Int) : List Int := match m.planOf shift with
  | none => [-6]
  | some o => endOf o :: listed (pairs o)
def M.land (m : M) (n t : Int) : M := { m with waiting := m.waiting.erase n, landed := m.landed ++ [(n, t)] }
def M.toldLanding (m : M) : M × List Int := if m.waiting = [] then (m, [-4]) else match m.planOf m.shift with
  | none => (m, [-6])
  | some [] => (m, [-6])
  | some ((n, t) :: _) => (m.land n t, n :: listed [t])
def M.whyNot (m : M) (n : Int) : Int := if n ≥ (m.planes.length : Int) then -2 else if m.waiting.contains n = false then -4 else 0
def M.toldMay (m : M) (n t : Int) : List Int := if m.whyNot n < 0 then [m.whyNot n] else [if (m.allowed m.shift).any (fun o => decide (timeOf o n ≤ t)) = true then 1 else 0]
def M.toldWhy (m : M) (n : Int) : List Int := if m.whyNot n < 0 then [m.whyNot n] else match m.planOf m.shift with
  | none => [-6]
  | some o => timeOf o n :: listed (m.firstBehind o n)
def M.toldMany (m : M) : List Int := [((m.allowed m.shift).length : Int)]
def M.settings (m : M) : List Int := m.shift :: m.rooms.flatten
def M.row (m : M) (n : Int) : List Int := [n, (m.plane n).1, (m.plane n).2.1, (m.plane n).2.2]
def M.toldState (m : M) : List Int := (m.planes.length : Int) :: (listed m.settings ++ listed (pairs m.landed) ++ listed (m.waiting.flatMap m.row))
def M.setRoom (m : M) (a b x : Int) : M × Int := if a ≥ 4 ∨ b ≥ 4 ∨ x < 1 ∨ x > 9 then (m, -1) else if m.planes ≠ [] then (m, -4) else
  ({ m with rooms := m.rooms.set a.toNat ((m.rooms.getD a.toNat []).set b.toNat x) }, 0)
def M.addPlane (m : M) (k f l : Int) : M × Int := if k ≥ 4 ∨ l < f ∨ l > 1000 then (m, -1) else if (m.waiting.length : Int) ≥ 8 ∨ (m.planes.length : Int) ≥ 60 then (m, -5) else
  ({ m with planes := m.planes ++ [(k, f, l)], waiting := m.waiting ++ [(m.planes.length : Int)] }, (m.planes.length : Int))
def M.leave (m : M) (n : Int) : M := { m with waiting := m.waiting.erase n }
def M.gone (m : M) (n : Int) : M × List Int := if m.whyNot n < 0 then (m, [m.whyNot n]) else (m.leave n, [((m.leave n).waiting.length : Int)])
/-- what a call that tells of orders answers -/
def M.asked (m : M) : List Int → M × List Int
  | [4] => m.toldLanding
  | [5] => (m, m.toldPlan m.shift)
  | [6] => (m, m.toldPlan 0)
  | [7, n, t] => (m, m.toldMay n t)
  | [8, n] => (m, m.toldWhy n)
  | [9] => (m, m.toldMany)
  | _ => (m, m.toldState)
def M.called (m : M) : List Int → M × List Int
  | [0, k] => if k > 3 then (m, [-1]) else (M.fresh k, [0])
  | [1, a, b, x] => ((m.setRoom a b x).1, [(m.setRoom a b x).2])
  | [2, k, f, l] => ((m.addPlane k f l).1, [(m.addPlane k f l).2])
  | [3, n] => m.gone n
  | c => m.asked c
def M.played : M → List (List Int) → List Int
  | _, [] => []
  | m, c :: r => ((m.called c).2.length : Int) :: ((m.called c).2 ++ (m.called c).1.played r)
/-- a call as it is handed in: its number, its numbers -/
def Good (c : List Int) : Prop := (∀ z ∈ c, 0 ≤ z) ∧ ((∃ k, c = [0, k]) ∨ (∃ a b x, c = [1, a, b, x]) ∨ (∃ k f l, c = [2, k, f, l]) ∨ (∃ n, c = [3, n]) ∨ c = [4] ∨ c = [5] ∨ c = [6] ∨ (∃ n t, c = [7, n, t]) ∨ (∃ n, c = [8, n]) ∨ c = [9] ∨ c = [10])
/-- what holds of the mirror at each time -/
structure M.Wf (m : M) : Prop where
  rl : m.rooms.length = 4
  rr : ∀ r ∈ m.rooms, r.length = 4
  pl : m.planes.length ≤ 60
  pc : ∀ p ∈ m.planes, 0 ≤ p.1 ∧ p.1 < 4
  wl : m.waiting.length ≤ 8
  wn : m.waiting.Nodup
  wb : ∀ n ∈ m.waiting, 0 ≤ n ∧ n < (m.planes.length : Int)
  ll : m.landed.length + m.waiting.length ≤ m.planes.length
  lb : ∀ x ∈ m.landed, 0 ≤ x.1 ∧ x.1 < (m.planes.length : Int)
end Wa
/-! Facts of the mirror alone. -/
namespace Wa
theorem maxL_ge : ∀ (l : List Int) (a : Int), a ≤ maxL a l ∧ (∀ y ∈ l, y ≤ maxL a l) ∧ (maxL a l = a ∨ maxL a l ∈ l)
  | [], a => ⟨Int.le_refl _, fun y hy => absurd hy List.not_mem_nil, .inl rfl⟩
  | x :: l, a => by
    obtain ⟨h1, h2, h3⟩ := maxL_ge l (max a x)
    show a ≤ maxL (max a x) l ∧ (∀ y ∈ x :: l, y ≤ maxL (max a x) l) ∧ (maxL (max a x) l = a ∨ maxL (max a x) l ∈ x :: l)
    refine ⟨by omega, fun y hy => ?_, ?_⟩
    · rcases List.mem_cons.mp hy with rfl | hy
      · omega
      · exact h2 y hy
    · rcases h3 with e | e
      · rcases (show max a x = a ∨ max a x = x by omega) with f | f
        · exact .inl (e.trans f)
        · exact .inr (List.mem_cons.mpr (.inl (e.trans f)))
      · exact .inr (List.mem_cons_of_mem _ e)
/-- what the built-in max of a :: l gives is maxL a l -/
theorem maxL_is {a m : Int} {l : List Int} (h : m ∈ [a] ++ l) (u : ∀ y, y ∈ [a] ++ l → y ≤ m) : m = maxL a l := by
  obtain ⟨h1, h2, h3⟩ := maxL_ge l a
  have h4 : m ≤ maxL a l := by
    rcases List.mem_cons.mp (show m ∈ a :: l from h) with e | e
    · rw [e]; exact h1
    · exact h2 m e
  have h5 : maxL a l ≤ m := by
    rcases h3 with e | e
    · rw [e]; exact u a (List.mem_cons_self ..)
    · exact u _ (List.mem_cons_of_mem _ e)
  omega
theorem M.one_some {m : M} {shift : Int} {q o : Order} {n : Int} (h : m.one shift q n = some o) :
    ¬ n ∈ q.map Prod.fst ∧ m.near shift q n = true ∧ m.soonest q n ≤ (m.plane n).2.2 ∧ o = q ++ [(n, m.soonest q n)] := by
  unfold M.one at h
  split at h
  · next c =>
    split at h
    · next d =>
      rw [Bool.and_eq_true] at c
      refine ⟨fun z => ?_, c.2, d, (Option.some.inj h).symm⟩
      have := c.1
      rw [List.contains_iff_mem.mpr z] at this
      cases this
    · cases h
  · cases h
theorem M.mem_more {m : M} {shift : Int} {q o : Order} (h : o ∈ m.more shift q) : ∃ n ∈ m.waiting, m.one shift q n = some o := by
  obtain ⟨n, h1, h2⟩ := List.mem_filterMap.mp h
  exact ⟨n, h1, h2⟩
/-- what holds of each queue of the k-th level -/
structure M.Que (m : M) (k : Nat) (q : Order) : Prop where
  len : q.length = k
  nd : (q.map Prod.fst).Nodup
  sub : ∀ n ∈ q.map Prod.fst, n ∈ m.waiting
theorem M.levels_que {m : M} {shift : Int} : ∀ {k : Nat} {q : Order}, q ∈ m.levels shift k → m.Que k q
  | 0, q, h => by
    have e : q = [] := List.mem_singleton.mp h
    subst e
    exact ⟨rfl, List.Pairwise.nil, fun n h => absurd h List.not_mem_nil⟩
  | k + 1, o, h => by
    obtain ⟨q, hq, ho⟩ := List.mem_flatMap.mp h
    obtain ⟨n, hn, e⟩ := M.mem_more ho
    obtain ⟨h1, _, _, rfl⟩ := M.one_some e
    have Q := M.levels_que hq
    refine ⟨by rw [List.length_append, Q.len]; rfl, ?_, fun x hx => ?_⟩
    · rw [List.map_append, List.nodup_append]
      refine ⟨Q.nd, List.Pairwise.cons (fun _ z => absurd z List.not_mem_nil) List.Pairwise.nil, fun x hx y hy => ?_⟩
      have ey : y = n := List.mem_singleton.mp hy
      intro z
      exact h1 (by rw [← ey, ← z]; exact hx)
    · rw [List.map_append] at hx
      rcases List.mem_append.mp hx with hx | hx
      · exact Q.sub x hx
      · have ex : x = n := List.mem_singleton.mp hx
        rw [ex]; exact hn
theorem M.more_len (m : M) (shift : Int) (q : Order) : (m.more shift q).length ≤ m.waiting.length := List.length_filterMap_le ..
theorem flat_len {α β : Type} {f : α → List β} {k : Nat} : ∀ (l : List α), (∀ x ∈ l, (f x).length ≤ k) → (l.flatMap f).length ≤ k * l.length
  | [], _ => Nat.zero_le _
  | x :: l, h => by
    rw [List.flatMap_cons, List.length_append, List.length_cons, Nat.mul_succ]
    have h1 := h x (List.mem_cons_self ..)
    have h2 := flat_len l fun y hy => h y (List.mem_cons_of_mem _ hy)
    omega
theorem M.levels_len {m : M} {shift : Int} (h : m.waiting.length ≤ 8) : ∀ k, (m.levels shift k).length ≤ 8 ^ k
  | 0 => Nat.le_refl _
  | k + 1 => by
    have h1 := flat_len (f := m.more shift) (k := 8) (m.levels shift k) fun x _ => Nat.le_trans (m.more_len shift x) h
    have h2 := M.levels_len (shift := shift) h k
    show ((m.levels shift k).flatMap (m.more shift)).length ≤ 8 ^ (k + 1)
    rw [Nat.pow_succ]
    omega
theorem pow8 {k : Nat} (h : k ≤ 8) : 8 ^ k ≤ 16777216 := Nat.le_trans (Nat.pow_le_pow_right (by decide) h) (by decide)
theorem M.allowed_len {m : M} {shift : Int} (h : m.waiting.length ≤ 8) : (m.allowed shift).length ≤ 16777216 :=
  Nat.le_trans (M.levels_len h _) (pow8 h)
theorem M.allowed_que {m : M} {shift : Int} {o : Order} (h : o ∈ m.allowed shift) : m.Que m.waiting.length o := M.levels_que h
/-! ### the least by cost, the first of several -/
theorem less_irrefl (a : Int × Int) : less a a = false := by
  unfold less
  simp
theorem less_trans {a b c : Int × Int} (h : less a b = true) (h' : less b c = true) : less a c = true := by
  unfold less at *
  simp at *
  omega
theorem less_total {a b : Int × Int} (h : less a b = false) (h' : less b a = false) : a = b := by
  unfold less at *
  simp at *
  exact Prod.ext (by omega) (by omega)
/-- the fold keeps the first of those that none undercuts -/
theorem fold_first {α : Type} (c : α → Int × Int) : ∀ (l : List α) (r : α), ∃ j, (r :: l)[j]? = some (l.foldl (fun b x => if less (c x) (c b) = true then x else b) r) ∧
    (∀ x ∈ r :: l, less (c x) (c (l.foldl (fun b x => if less (c x) (c b) = true then x else b) r)) = false) ∧
    (∀ (i : Nat) (x : α), i < j → (r :: l)[i]? = some x → c x ≠ c (l.foldl (fun b x => if less (c x) (c b) = true then x else b) r))
  | [], r => ⟨0, rfl, fun x hx => (by rw [List.mem_singleton.mp hx]; exact less_irrefl _), fun i x h _ => absurd h (Nat.not_lt_zero _)⟩
  | y :: l, r => by
    by_cases h : less (c y) (c r) = true
    · obtain ⟨j, h1, h2, h3⟩ := fold_first c l y
      have e : (y :: l).foldl (fun b x => if less (c x) (c b) = true then x else b) r = l.foldl (fun b x => if less (c x) (c b) = true then x else b) y := by
        rw [List.foldl_cons, if_pos h]
      rw [e]
      generalize l.foldl (fun b x => if less (c x) (c b) = true then x else b) y = z at h1 h2 h3 ⊢
      have hz : less (c r) (c z) = false := by
        cases q : less (c r) (c z) with
        | false => rfl
        | true =>
          have := less_trans h q
          rw [h2 y (List.mem_cons_self ..)] at this
          cases this
      refine ⟨j + 1, h1, fun x hx => ?_, fun i x hi hx => ?_⟩
      · rcases List.mem_cons.mp hx with rfl | hx
        · exact hz
        · exact h2 x hx
      · match i, hi, hx with
        | 0, _, hx =>
          have ex : r = x := Option.some.inj hx
          subst ex
          intro q
          rw [q, h2 y (List.mem_cons_self ..)] at h
          cases h
        | i + 1, hi, hx => exact h3 i x (Nat.lt_of_succ_lt_succ hi) hx
    · obtain ⟨j, h1, h2, h3⟩ := fold_first c l r
      have e : (y :: l).foldl (fun b x => if less (c x) (c b) = true then x else b) r = l.foldl (fun b x => if less (c x) (c b) = true then x else b) r := by
        rw [List.foldl_cons, if_neg h]
      rw [e]
      generalize l.foldl (fun b x => if less (c x) (c b) = true then x else b) r = z at h1 h2 h3 ⊢
      have h' : less (c y) (c r) = false := by cases q : less (c y) (c r) with | false => rfl | true => exact absurd q h
      have hr := h2 r (List.mem_cons_self ..)
      have hy : less (c y) (c z) = false := by
        cases q : less (c y) (c z) with
        | false => rfl
        | true =>
          by_cases g : less (c z) (c r) = true
          · rw [less_trans q g] at h'
            cases h'
          · have g' : less (c z) (c r) = false := by cases q : less (c z) (c r) with | false => rfl | true => exact absurd q g
            rw [less_total hr g', q] at h'
            cases h'
      match j, h1, h3 with
      | 0, h1, h3 =>
        refine ⟨0, h1, fun x hx => ?_, fun i x hi _ => absurd hi (Nat.not_lt_zero _)⟩
        rcases List.mem_cons.mp hx with rfl | hx
        · exact hr
        · rcases List.mem_cons.mp hx with rfl | hx
          · exact hy
          · exact h2 x (List.mem_cons_of_mem _ hx)
      | j + 1, h1, h3 =>
        refine ⟨j + 2, h1, fun x hx => ?_, fun i x hi hx => ?_⟩
        · rcases List.mem_cons.mp hx with rfl | hx
          · exact hr
          · rcases List.mem_cons.mp hx with rfl | hx
            · exact hy
            · exact h2 x (List.mem_cons_of_mem _ hx)
        · match i, hi, hx with
          | 0, _, hx => exact h3 0 x (Nat.succ_pos _) hx
          | 1, _, hx =>
            have ex : y = x := Option.some.inj hx
            subst ex
            intro q
            have h0 : c r ≠ c z := h3 0 r (Nat.succ_pos _) rfl
            rw [q] at h'
            exact h0 (less_total hr h')
          | i + 2, hi, hx => exact h3 (i + 1) x (by omega) hx
theorem first_one {α : Type} {c : α → Int × Int} {l : List α} {i j : Nat} {x y : α} (hx : l[i]? = some x) (hy : l[j]? = some y) (mx : ∀ z ∈ l, less (c z) (c x) = false) (my : ∀ z ∈ l, less (c z) (c y) = false)
    (fx : ∀ (k : Nat) (z : α), k < i → l[k]? = some z → c z ≠ c x) (fy : ∀ (k : Nat) (z : α), k < j → l[k]? = some z → c z ≠ c y) : x = y := by
  have e : c x = c y := less_total (my x (List.mem_of_getElem? hx)) (mx y (List.mem_of_getElem? hy))
  rcases Nat.lt_trichotomy i j with h | h | h
  · exact absurd e (fy i x h hx)
  · subst h
    exact Option.some.inj (hx.symm.trans hy)
  · exact absurd e.symm (fx j y h hy)
/-- the first of those with the least cost is the plan -/
theorem M.least_is {m : M} {l : List Order} {i : Nat} {o : Order} (h : l[i]? = some o) (h1 : ∀ z ∈ l, less (m.cost z) (m.cost o) = false) (h2 : ∀ (k : Nat) (z : Order), k < i → l[k]? = some z → m.cost z ≠ m.cost o) : m.least l = some o := by
  match l, h, h1, h2 with
  | r :: l, h, h1, h2 =>
    obtain ⟨j, g1, g2, g3⟩ := fold_first m.cost l r
    exact congrArg some (first_one g1 h g2 h1 g3 h2)
theorem M.least_mem {m : M} {l : List Order} {o : Order} (h : m.least l = some o) : o ∈ l := by
  match l, h with
  | r :: l, h =>
    obtain ⟨j, g1, _, _⟩ := fold_first m.cost l r
    have e : l.foldl (fun b x => if less (m.cost x) (m.cost b) = true then x else b) r = o := Option.some.inj h
    rw [e] at g1
    exact List.mem_of_getElem? g1
theorem M.planOf_que {m : M} {shift : Int} {o : Order} (h : m.planOf shift = some o) : m.Que m.waiting.length o := M.allowed_que (M.least_mem h)
/-- all that wait stand in an allowed order -/
theorem nodup_sub_all : ∀ {l r : List Int}, l.Nodup → r.Nodup → (∀ x ∈ l, x ∈ r) → l.length = r.length → ∀ y ∈ r, y ∈ l
  | [], r, _, _, _, e, y, hy => by
    have : r = [] := List.length_eq_zero_iff.mp e.symm
    rw [this] at hy
    exact hy
  | x :: l, r, nl, nr, s, e, y, hy => by
    obtain ⟨hx, nl⟩ := List.nodup_cons.mp nl
    have mx := s x (List.mem_cons_self ..)
    have el : (r.erase x).length + 1 = r.length := by
      rw [List.length_erase_of_mem mx]
      have := List.length_pos_of_mem mx
      omega
    by_cases h : y = x
    · rw [h]; exact List.mem_cons_self ..
    · have ih := nodup_sub_all (r := r.erase x) nl (nr.erase x) (fun z hz => (List.mem_erase_of_ne (fun q => hx (by rw [← q]; exact hz))).mpr (s z (List.mem_cons_of_mem _ hz))) (by rw [List.length_cons] at e; omega)
      exact List.mem_cons_of_mem _ (ih y ((List.mem_erase_of_ne h).mpr hy))
theorem M.Que.all {m : M} {o : Order} (Q : m.Que m.waiting.length o) (w : m.waiting.Nodup) {n : Int} (h : n ∈ m.waiting) : n ∈ o.map Prod.fst :=
  nodup_sub_all Q.nd w Q.sub (by rw [List.length_map]; exact Q.len) n h
/-! ### the mirror stays well-formed; its answers are short -/
theorem M.wf_fresh (k : Int) : (M.fresh k).Wf := ⟨rfl, fun r h => (by rw [List.eq_of_mem_replicate h]; rfl), Nat.zero_le _, fun p h => absurd h List.not_mem_nil, Nat.zero_le _, List.Pairwise.nil, fun p h => absurd h List.not_mem_nil, Nat.le_refl _, fun p h => absurd h List.not_mem_nil⟩
theorem M.wf_setRoom {m : M} (W : m.Wf) (a b x : Int) : (m.setRoom a b x).1.Wf := by
  unfold M.setRoom
  split
  · exact W
  · split
    · exact W
    · refine ⟨by rw [List.length_set]; exact W.rl, fun r h => ?_, W.pl, W.pc, W.wl, W.wn, W.wb, W.ll, W.lb⟩
      rcases List.mem_or_eq_of_mem_set h with h | rfl
      · exact W.rr r h
      · rw [List.length_set]
        next c _ =>
        have ha : a.toNat < m.rooms.length := by rw [W.rl]; omega
        rw [List.getD_eq_getElem?_getD, List.getElem?_eq_getElem ha]
        exact W.rr _ (List.getElem_mem ha)
theorem M.wf_addPlane {m : M} (W : m.Wf) (k f l : Int) (hk : 0 ≤ k) : (m.addPlane k f l).1.Wf := by
  unfold M.addPlane
  split
  · exact W
  · next c =>
    split
    · exact W
    · next d =>
      refine ⟨W.rl, W.rr, ?_, ?_, ?_, ?_, ?_, ?_, ?_⟩
      · show (m.planes ++ [(k, f, l)]).length ≤ 60
        rw [List.length_append]
        have : ([(k, f, l)] : List (Int × Int × Int)).length = 1 := rfl
        omega
      · intro p hp
        rcases List.mem_append.mp hp with hp | hp
        · exact W.pc p hp
        · rw [List.mem_singleton.mp hp]
          exact ⟨hk, by show k < 4; omega⟩
      · show (m.waiting ++ [_]).length ≤ 8
        rw [List.length_append]
        have : ([(m.planes.length : Int)] : List Int).length = 1 := rfl
        omega
      · show (m.waiting ++ [_]).Nodup
        rw [List.nodup_append]
        refine ⟨W.wn, List.Pairwise.cons (fun _ z => absurd z List.not_mem_nil) List.Pairwise.nil, fun x hx y hy z => ?_⟩
        have := W.wb x hx
        rw [z, List.mem_singleton.mp hy] at this
        omega
      · intro n hn
        show 0 ≤ n ∧ n < ((m.planes ++ [(k, f, l)]).length : Int)
        rw [List.length_append]
        have e : ([(k, f, l)] : List (Int × Int × Int)).length = 1 := rfl
        rcases List.mem_append.mp hn with hn | hn
        · have := W.wb n hn
          omega
        · rw [List.mem_singleton.mp hn]
          omega
      · show m.landed.length + (m.waiting ++ [(m.planes.length : Int)]).length ≤ (m.planes ++ [(k, f, l)]).length
        rw [List.length_append, List.length_append]
        have := W.ll
        have e : ([(k, f, l)] : List (Int × Int × Int)).length = 1 := rfl
        have e2 : ([(m.planes.length : Int)] : List Int).length = 1 := rfl
        omega
      · intro n hn
        show 0 ≤ n.1 ∧ n.1 < ((m.planes ++ [(k, f, l)]).length : Int)
        rw [List.length_append]
        have := W.lb n hn
        omega
theorem M.wf_leave {m : M} (W : m.Wf) (n : Int) : (m.leave n).Wf := by
  have h : (m.waiting.erase n).length ≤ m.waiting.length := List.length_erase_le
  refine ⟨W.rl, W.rr, W.pl, W.pc, ?_, W.wn.erase n, fun x hx => W.wb x (List.mem_of_mem_erase hx), ?_, W.lb⟩
  · show (m.waiting.erase n).length ≤ 8
    have := W.wl
    omega
  · show m.landed.length + (m.waiting.erase n).length ≤ m.planes.length
    have := W.ll
    omega
theorem M.wf_land {m : M} (W : m.Wf) {n : Int} (t : Int) (hn : n ∈ m.waiting) : (m.land n t).Wf := by
  have h := List.length_erase_of_mem hn
  have h' := List.length_pos_of_mem hn
  refine ⟨W.rl, W.rr, W.pl, W.pc, ?_, W.wn.erase n, fun x hx => W.wb x (List.mem_of_mem_erase hx), ?_, fun x hx => ?_⟩
  · show (m.waiting.erase n).length ≤ 8
    have := W.wl
    omega
  · show (m.landed ++ [(n, t)]).length + (m.waiting.erase n).length ≤ m.planes.length
    rw [List.length_append]
    have e : ([(n, t)] : Order).length = 1 := rfl
    have := W.ll
    omega
  · rcases List.mem_append.mp hx with hx | hx
    · exact W.lb x hx
    · rw [List.mem_singleton.mp hx]
      exact W.wb n hn
theorem M.wf_gone {m : M} (W : m.Wf) (n : Int) : (m.gone n).1.Wf := by
  unfold M.gone
  split
  · exact W
  · exact M.wf_leave W n
theorem M.wf_landing {m : M} (W : m.Wf) : m.toldLanding.1.Wf := by
  unfold M.toldLanding
  split
  · exact W
  · split
    · exact W
    · exact W
    · next n t o h =>
      have Q := M.planOf_que h
      exact M.wf_land W t (Q.sub n (List.mem_cons_self ..))
theorem M.wf_called {m : M} (W : m.Wf) {c : List Int} (G : Good c) : (m.called c).1.Wf := by
  obtain ⟨p, g⟩ := G
  rcases g with ⟨k, rfl⟩ | ⟨a, b, x, rfl⟩ | ⟨k, f, l, rfl⟩ | ⟨n, rfl⟩ | rfl | rfl | rfl | ⟨n, t, rfl⟩ | ⟨n, rfl⟩ | rfl | rfl
  · show (if k > 3 then (m, [-1]) else (M.fresh k, [0])).1.Wf
    split
    · exact W
    · exact M.wf_fresh k
  · exact M.wf_setRoom W a b x
  · exact M.wf_addPlane W k f l (p k (by simp))
  · exact M.wf_gone W n
  · exact M.wf_landing W
  all_goals exact W
theorem pairs_len (o : Order) : (pairs o).length ≤ 2 * o.length := flat_len o fun _ _ => Nat.le_refl _
theorem listed_len (l : List Int) : (listed l).length = l.length + 1 := rfl
theorem M.toldPlan_len {m : M} (W : m.Wf) (sh : Int) : (m.toldPlan sh).length ≤ 200 := by
  unfold M.toldPlan
  split
  · exact Nat.le_of_ble_eq_true rfl
  · next o h =>
    have h1 := pairs_len o
    have h2 := (M.planOf_que h).len
    have h3 := W.wl
    rw [List.length_cons, listed_len]
    omega
theorem M.state_len {m : M} (W : m.Wf) : m.toldState.length ≤ 200 := by
  unfold M.toldState
  rw [List.length_cons, List.length_append, List.length_append, listed_len, listed_len, listed_len]
  have h1 := pairs_len m.landed
  have h2 : (m.waiting.flatMap m.row).length ≤ 4 * m.waiting.length := flat_len _ fun _ _ => Nat.le_refl _
  have h3 : m.rooms.flatten.length ≤ 4 * m.rooms.length := by
    have := flat_len (f := fun r : List Int => r) (k := 4) m.rooms fun r hr => (by rw [W.rr r hr]; exact Nat.le_refl _)
    rw [List.flatMap_id'] at this
    exact this
  have h4 : m.settings.length = m.rooms.flatten.length + 1 := rfl
  have := W.rl
  have := W.wl
  have := W.ll
  have := W.pl
  omega
theorem M.called_len {m : M} (W : m.Wf) {c : List Int} (G : Good c) : (m.called c).2.length ≤ 200 := by
  obtain ⟨p, g⟩ := G
  have one : ∀ z : Int, [z].length ≤ 200 := fun z => Nat.le_of_ble_eq_true rfl
  rcases g with ⟨k, rfl⟩ | ⟨a, b, x, rfl⟩ | ⟨k, f, l, rfl⟩ | ⟨n, rfl⟩ | rfl | rfl | rfl | ⟨n, t, rfl⟩ | ⟨n, rfl⟩ | rfl | rfl
  · show (if k > 3 then (m, [-1]) else (M.fresh k, [0])).2.length ≤ 200
    split <;> exact one _
  · exact one _
  · exact one _
  · show (m.gone n).2.length ≤ 200
    unfold M.gone
    split <;> exact one _
  · show m.toldLanding.2.length ≤ 200
    unfold M.toldLanding
    split
    · exact one _
    · split
      · exact one _
      · exact one _
      · exact Nat.le_of_ble_eq_true rfl
  · exact M.toldPlan_len W _
  · exact M.toldPlan_len W _
  · show (m.toldMay n t).length ≤ 200
    unfold M.toldMay
    split <;> exact one _
  · show (m.toldWhy n).length ≤ 200
    unfold M.toldWhy
    split
    · exact one _
    · split
      · exact one _
      · rw [List.length_cons, listed_len]
        unfold M.firstBehind
        split
        · exact Nat.le_of_ble_eq_true rfl
        · rw [List.length_take]
          omega
  · exact one _
  · exact M.state_len W
theorem played_len : ∀ {cs : List (List Int)} {m : M}, m.Wf → (∀ c ∈ cs, Good c) → (m.played cs).length ≤ 201 * cs.length
  | [], _, _, _ => Nat.zero_le _
  | c :: r, m, W, g => by
    have h1 := M.called_len W (g c (List.mem_cons_self ..))
    have h2 := played_len (M.wf_called W (g c (List.mem_cons_self ..))) fun d hd => g d (List.mem_cons_of_mem _ hd)
    show (((m.called c).2.length : Int) :: ((m.called c).2 ++ (m.called c).1.played r)).length ≤ 201 * (c :: r).length
    rw [List.length_cons, List.length_append, List.length_cons]
    omega
end Wa
/-! The mirror against the specification. -/
namespace Wa
open Sy52 (St Plane Landing Call Ans)
def lnd (x : Landing) : Int × Int := ((x.plane.id : Int), (x.time : Int))
def wt (p : Plane) : Int := (p.id : Int)
def flown (s : St) : List Plane := s.landed.map (fun x => x.plane) ++ s.waits
structure Sim (m : M) (s : St) : Prop where
  sh : m.shift = (s.shift : Int)
  rlen : s.room.length = 16
  rpos : ∀ r ∈ s.room, 1 ≤ r
  rooms : m.rooms = (List.range 4).map fun a => (List.range 4).map fun b => (Sy52.roomOf s a b : Int)
  came : m.planes.length = s.came
  landed : m.landed = s.landed.map lnd
  waiting : m.waiting = s.waits.map wt
  known : ∀ p ∈ flown s, m.planes[p.id]? = some ((p.cls : Int), (p.from_ : Int), (p.to_ : Int)) ∧ p.cls < 4
  nd : ((flown s).map (fun p => p.id)).Nodup
/-- all that a queue may be lengthened to by k -/
def deep (m : M) (sh : Int) : Nat → Order → List Order
  | 0, q => [q]
  | k + 1, q => (m.more sh q).flatMap (deep m sh k)
section
variable {m : M} {s : St}
theorem Sim.plane (S : Sim m s) {p : Plane} (h : p ∈ flown s) : m.plane (p.id : Int) = ((p.cls : Int), (p.from_ : Int), (p.to_ : Int)) := by
  unfold M.plane
  rw [Int.toNat_natCast, List.getD_eq_getElem?_getD, (S.known p h).1]
  rfl
theorem Sim.room (S : Sim m s) {a b : Nat} (ha : a < 4) (hb : b < 4) : m.room (a : Int) (b : Int) = (Sy52.roomOf s a b : Int) := by
  unfold M.room
  rw [S.rooms, Int.toNat_natCast, Int.toNat_natCast]
  match a, b, ha, hb with
  | 0, 0, _, _ => rfl
  | 0, 1, _, _ => rfl
  | 0, 2, _, _ => rfl
  | 0, 3, _, _ => rfl
  | 1, 0, _, _ => rfl
  | 1, 1, _, _ => rfl
  | 1, 2, _, _ => rfl
  | 1, 3, _, _ => rfl
  | 2, 0, _, _ => rfl
  | 2, 1, _, _ => rfl
  | 2, 2, _, _ => rfl
  | 2, 3, _, _ => rfl
  | 3, 0, _, _ => rfl
  | 3, 1, _, _ => rfl
  | 3, 2, _, _ => rfl
  | 3, 3, _, _ => rfl
theorem Sim.roomPos (S : Sim m s) {a b : Nat} (ha : a < 4) (hb : b < 4) : 1 ≤ Sy52.roomOf s a b := by
  unfold Sy52.roomOf
  rw [List.getD_eq_getElem?_getD, List.getElem?_eq_getElem (by rw [S.rlen]; omega)]
  exact S.rpos _ (List.getElem_mem _)
/-- a queue of the mirror is a list of landings of those that wait -/
theorem Sim.clear (S : Sim m s) {x : Landing} {p : Plane} (hx : x.plane ∈ flown s) (hp : p ∈ flown s) :
    m.clear (x.plane.id : Int) (x.time : Int) (p.id : Int) = ((x.time + Sy52.roomOf s x.plane.cls p.cls : Nat) : Int) := by
  unfold M.clear
  rw [S.plane hx, S.plane hp, S.room (S.known _ hx).2 (S.known _ hp).2]
  rfl
theorem fold_clear (S : Sim m s) {p : Plane} (hp : p ∈ flown s) : ∀ (l : List Landing) (t : Nat), (∀ x ∈ l, x.plane ∈ flown s) →
    maxL (t : Int) (m.clears (l.map lnd) (p.id : Int)) = ((l.foldl (fun (t : Nat) (x : Landing) => max t (x.time + Sy52.roomOf s x.plane.cls p.cls)) t : Nat) : Int)
  | [], _, _ => rfl
  | x :: l, t, h => by
    have e := S.clear (h x (List.mem_cons_self ..)) hp
    have ih := fold_clear S hp l (max t (x.time + Sy52.roomOf s x.plane.cls p.cls)) fun y hy => h y (List.mem_cons_of_mem _ hy)
    rw [List.foldl_cons, ← ih]
    show maxL (max (t : Int) (m.clear (x.plane.id : Int) (x.time : Int) (p.id : Int))) _ = _
    rw [e]
    refine congrArg (fun z => maxL z _) ?_
    omega
theorem in_landed {x : Landing} (h : x ∈ s.landed) : x.plane ∈ flown s := List.mem_append_left _ (List.mem_map.mpr ⟨x, h, rfl⟩)
theorem in_waits {p : Plane} (h : p ∈ s.waits) : p ∈ flown s := List.mem_append_right _ h
theorem Sim.base (S : Sim m s) {p : Plane} (hp : p ∈ flown s) : m.base (p.id : Int) = (Sy52.soonest s s.landed p : Int) := by
  unfold M.base Sy52.soonest
  rw [S.plane hp, S.landed]
  exact fold_clear S hp s.landed p.from_ fun x h => in_landed h
theorem Sim.soonest (S : Sim m s) {p : Plane} (hp : p ∈ flown s) (l : List Landing) (hl : ∀ x ∈ l, x.plane ∈ flown s) : m.soonest (l.map lnd) (p.id : Int) = (Sy52.soonest s (s.landed ++ l) p : Int) := by
  unfold M.soonest
  rw [S.base hp]
  unfold Sy52.soonest
  rw [List.foldl_append]
  exact fold_clear S hp l _ hl
theorem Sim.ids (S : Sim m s) : m.landed.map Prod.fst ++ m.waiting = (flown s).map wt := by
  rw [S.landed, S.waiting, flown, List.map_append, List.map_map, List.map_map]
  rfl
theorem filter_len {α β : Type} {f : α → β} {p : β → Bool} {q : α → Bool} : ∀ (l : List α), (∀ x ∈ l, p (f x) = q x) → ((l.map f).filter p).length = (l.filter q).length
  | [], _ => rfl
  | x :: l, h => by
    have ih := filter_len (f := f) (p := p) (q := q) l fun y hy => h y (List.mem_cons_of_mem _ hy)
    rw [List.map_cons, List.filter_cons, List.filter_cons, h x (List.mem_cons_self ..)]
    split
    · rw [List.length_cons, List.length_cons, ih]
    · exact ih
theorem Sim.rank (S : Sim m s) (p : Plane) : m.rank (p.id : Int) = (Sy52.rank s p : Int) := by
  unfold M.rank Sy52.rank
  rw [S.ids]
  refine congrArg Nat.cast ?_
  exact filter_len _ fun x _ => decide_eq_decide.mpr (by unfold wt; omega)
theorem Sim.near (S : Sim m s) (k : Nat) (p : Plane) (l : List Landing) : m.near (k : Int) (l.map lnd) (p.id : Int) = Sy52.near { s with shift := k } p (s.landed ++ l).length := by
  unfold M.near M.place Sy52.near
  rw [S.rank p, S.landed, List.length_map, List.length_map, List.length_append, ← Bool.decide_and]
  have e : Sy52.rank { s with shift := k } p = Sy52.rank s p := rfl
  rw [e]
  generalize Sy52.rank s p = r
  refine decide_eq_decide.mpr ?_
  unfold absI
  show _ ↔ s.landed.length + l.length ≤ r + k ∧ r ≤ s.landed.length + l.length + k
  split <;> omega
theorem M.levels_add (m : M) (sh : Int) : ∀ (k j : Nat), m.levels sh (j + k) = (m.levels sh j).flatMap (deep m sh k)
  | 0, j => by
    show m.levels sh j = (m.levels sh j).flatMap fun q => [q]
    induction m.levels sh j with
    | nil => rfl
    | cons x l ih => rw [List.flatMap_cons, ← ih]; rfl
  | k + 1, j => by
    rw [Nat.add_succ, ← Nat.succ_add, M.levels_add m sh k (j + 1)]
    show ((m.levels sh j).flatMap (m.more sh)).flatMap (deep m sh k) = (m.levels sh j).flatMap fun q => (m.more sh q).flatMap (deep m sh k)
    rw [List.flatMap_assoc]
theorem M.allowed_deep (m : M) (sh : Int) : m.allowed sh = deep m sh m.waiting.length [] := by
  unfold M.allowed
  have h := m.levels_add sh m.waiting.length 0
  rw [Nat.zero_add] at h
  rw [h]
  show deep m sh m.waiting.length [] ++ [] = _
  rw [List.append_nil]
theorem filterMap_flat {α β γ : Type} {g : α → Option β} {h : β → List γ} {P : α → Bool} {F : α → List γ} : ∀ (l : List α),
    (∀ p ∈ l, (P p = false → g p = none) ∧ (P p = true → (match g p with | none => [] | some o => h o) = F p)) → (l.filterMap g).flatMap h = (l.filter P).flatMap F
  | [], _ => rfl
  | x :: l, H => by
    have ih := filterMap_flat (g := g) (h := h) (P := P) (F := F) l fun y hy => H y (List.mem_cons_of_mem _ hy)
    obtain ⟨h1, h2⟩ := H x (List.mem_cons_self ..)
    rw [List.filterMap_cons, List.filter_cons]
    cases c : P x with
    | false =>
      rw [h1 c]
      exact ih
    | true =>
      have e := h2 c
      rw [if_pos rfl, List.flatMap_cons, ← e, ← ih]
      cases g x with
      | none => rfl
      | some o => rw [List.flatMap_cons]
theorem drop_one : ∀ {l : List Plane} {p : Plane}, (l.map (fun x => x.id)).Nodup → p ∈ l → (l.filter fun x => x.id != p.id).length + 1 = l.length
  | x :: l, p, nd, h => by
    obtain ⟨hx, nd⟩ := List.nodup_cons.mp nd
    rw [List.filter_cons]
    rcases List.mem_cons.mp h with rfl | h
    · rw [if_neg (by simp)]
      have e : l.filter (fun x => x.id != p.id) = l := List.filter_eq_self.mpr fun y hy => by
        have : y.id ≠ p.id := fun q => hx (List.mem_map.mpr ⟨y, hy, q⟩)
        simp [this]
      rw [e, List.length_cons]
    · have ne : x.id ≠ p.id := fun q => hx (by
        show x.id ∈ _
        rw [q]
        exact List.mem_map.mpr ⟨p, h, rfl⟩)
      rw [if_pos (by simp [ne]), List.length_cons, List.length_cons, drop_one nd h]
theorem has_snoc : ∀ (l : List Nat) (a b : Nat), (l ++ [a]).contains b = (l.contains b || b == a)
  | [], a, b => Bool.or_false (b == a)
  | x :: l, a, b => by
    rw [List.cons_append, List.contains_cons, List.contains_cons, has_snoc l a b, Bool.or_assoc]
def free (q : List Landing) (p : Plane) : Bool := !(q.map fun x => x.plane.id).contains p.id
theorem Sim.wnd (S : Sim m s) : (s.waits.map fun p => p.id).Nodup := by
  have h := S.nd
  unfold flown at h
  rw [List.map_append] at h
  exact (List.nodup_append.mp h).2.1
theorem has_id (q : List Landing) (p : Plane) : ((q.map lnd).map Prod.fst).contains (p.id : Int) = (q.map fun x => x.plane.id).contains p.id := by
  induction q with
  | nil => rfl
  | cons x q ih =>
    rw [List.map_cons, List.map_cons, List.map_cons, List.contains_cons, List.contains_cons, ih]
    refine congrArg (fun z => z || _) ?_
    show ((p.id : Int) == (x.plane.id : Int)) = (p.id == x.plane.id)
    rw [Bool.eq_iff_iff, beq_iff_eq, beq_iff_eq]
    omega
theorem Sim.one (S : Sim m s) (k : Nat) {q : List Landing} (hq : ∀ x ∈ q, x.plane ∈ flown s) {p : Plane} (hp : p ∈ flown s) :
    m.one (k : Int) (q.map lnd) (p.id : Int) = if free q p = true then (if Sy52.near { s with shift := k } p (s.landed ++ q).length = true ∧ Sy52.soonest { s with shift := k } (s.landed ++ q) p ≤ p.to_
      then some ((q ++ [Landing.mk p (Sy52.soonest { s with shift := k } (s.landed ++ q) p)]).map lnd) else none) else none := by
  have e : Sy52.soonest { s with shift := k } (s.landed ++ q) p = Sy52.soonest s (s.landed ++ q) p := rfl
  unfold M.one
  rw [has_id, S.near k p q, S.soonest hp q hq, S.plane hp, e]
  show (if (free q p && _) = true then _ else _) = _
  cases free q p with
  | false => rfl
  | true =>
    rw [Bool.true_and, if_pos rfl]
    cases Sy52.near { s with shift := k } p (s.landed ++ q).length with
    | false => rw [if_neg Bool.false_ne_true, if_neg (fun z : false = true ∧ _ => Bool.false_ne_true z.1)]
    | true =>
      rw [if_pos rfl]
      by_cases c : Sy52.soonest s (s.landed ++ q) p ≤ p.to_
      · rw [if_pos (show ((Sy52.soonest s (s.landed ++ q) p : Nat) : Int) ≤ ((p.to_ : Nat) : Int) by omega), if_pos ⟨rfl, c⟩, List.map_append]
        rfl
      · rw [if_neg (show ¬ ((Sy52.soonest s (s.landed ++ q) p : Nat) : Int) ≤ ((p.to_ : Nat) : Int) by omega), if_neg (fun z => c z.2)]
theorem Sim.deep (S : Sim m s) (sh : Nat) : ∀ (k : Nat) (q : List Landing), (∀ x ∈ q, x.plane ∈ s.waits) → (s.waits.filter (free q)).length = k →
    Wa.deep m (sh : Int) k (q.map lnd) = (Sy52.orders { s with shift := sh } k (s.landed ++ q) (s.waits.filter (free q))).map fun r => (q ++ r).map lnd
  | 0, q, _, hk => by
    rw [List.length_eq_zero_iff.mp hk]
    show [q.map lnd] = [(q ++ []).map lnd]
    rw [List.append_nil]
  | k + 1, q, hq, hk => by
    have hne : (s.waits.filter (free q)).isEmpty = false := by
      cases c : s.waits.filter (free q) with
      | nil => rw [c] at hk; cases hk
      | cons _ _ => rfl
    rw [Sy52.orders, hne, if_neg Bool.false_ne_true, List.map_flatMap]
    show (m.more (sh : Int) (q.map lnd)).flatMap (Wa.deep m (sh : Int) k) = _
    unfold M.more
    rw [S.waiting, List.filterMap_map]
    refine filterMap_flat s.waits fun p hp => ?_
    have e1 := S.one sh (q := q) (p := p) (fun x hx => in_waits (hq x hx)) (in_waits hp)
    refine ⟨fun c => ?_, fun c => ?_⟩
    · show m.one (sh : Int) (q.map lnd) (p.id : Int) = none
      rw [e1, c]
      rfl
    · have e2 : (m.one (sh : Int) (q.map lnd) ∘ wt) p = m.one (sh : Int) (q.map lnd) (p.id : Int) := rfl
      dsimp only
      rw [e2, e1, c, if_pos rfl]
      by_cases d : Sy52.near { s with shift := sh } p (s.landed ++ q).length = true ∧ Sy52.soonest { s with shift := sh } (s.landed ++ q) p ≤ p.to_
      · rw [if_pos d, if_pos d, List.map_map]
        generalize Sy52.soonest { s with shift := sh } (s.landed ++ q) p = t
        have ef : (s.waits.filter (free q)).filter (fun x => x.id != p.id) = s.waits.filter (free (q ++ [⟨p, t⟩])) := by
          rw [List.filter_filter]
          refine List.filter_congr fun x _ => ?_
          unfold free
          rw [List.map_append]
          have e3 : ((q.map fun x => x.plane.id) ++ [p.id]).contains x.id = ((q.map fun x => x.plane.id).contains x.id || x.id == p.id) := has_snoc _ _ _
          show (x.id != p.id && !(q.map fun x => x.plane.id).contains x.id) = !((q.map fun x => x.plane.id) ++ [p.id]).contains x.id
          rw [e3, bne]
          cases (q.map fun x => x.plane.id).contains x.id <;> cases x.id == p.id <;> rfl
        have em : p ∈ s.waits.filter (free q) := List.mem_filter.mpr ⟨hp, c⟩
        have el := drop_one (l := s.waits.filter (free q)) (p := p) (S.wnd.sublist ((List.filter_sublist).map _)) em
        have ih := S.deep sh k (q ++ [⟨p, t⟩]) (fun x hx => by
          rcases List.mem_append.mp hx with hx | hx
          · exact hq x hx
          · rw [List.mem_singleton.mp hx]
            exact hp) (by rw [← ef]; omega)
        show Wa.deep m (sh : Int) k ((q ++ [Landing.mk p t]).map lnd) = _
        rw [ih, ef, List.append_assoc]
        refine congrArg (fun z => List.map z _) (funext fun r => ?_)
        show ((q ++ [Landing.mk p t]) ++ r).map lnd = (q ++ (Landing.mk p t :: r)).map lnd
        rw [List.append_assoc]
        rfl
      · rw [if_neg d, if_neg d]
        rfl
theorem Sim.allowed (S : Sim m s) (sh : Nat) : m.allowed (sh : Int) = (Sy52.allowed { s with shift := sh }).map (List.map lnd) := by
  have e : s.waits.filter (free []) = s.waits := List.filter_eq_self.mpr fun _ _ => rfl
  have h := S.deep sh s.waits.length [] (fun x h => absurd h List.not_mem_nil) (by rw [e])
  rw [e, List.append_nil] at h
  rw [M.allowed_deep, S.waiting, List.length_map]
  exact h
end
end Wa
/-! The plan: the mirror's is the specification's. -/
namespace Wa
open Sy52 (St Plane Landing Call Ans)
section
variable {m : M} {s : St}
/-- each as soon as may be, behind l and those ahead of it -/
def Chain (s : St) : List Landing → List Landing → Prop
  | _, [] => True
  | l, x :: r => x.time = Sy52.soonest s l x.plane ∧ Chain s (l ++ [x]) r
theorem orders_chain (s : St) : ∀ (k : Nat) (l : List Landing) (rest : List Plane) (r : List Landing), r ∈ Sy52.orders s k l rest → Chain s l r ∧ ∀ x ∈ r, x.plane ∈ rest
  | 0, l, rest, r, h => by
    unfold Sy52.orders at h
    split at h
    · rw [List.mem_singleton.mp h]
      exact ⟨trivial, fun x h => absurd h List.not_mem_nil⟩
    · exact absurd h List.not_mem_nil
  | k + 1, l, rest, r, h => by
    unfold Sy52.orders at h
    split at h
    · rw [List.mem_singleton.mp h]
      exact ⟨trivial, fun x h => absurd h List.not_mem_nil⟩
    · obtain ⟨p, hp, h⟩ := List.mem_flatMap.mp h
      dsimp only at h
      split at h
      · obtain ⟨r', hr, rfl⟩ := List.mem_map.mp h
        obtain ⟨h1, h2⟩ := orders_chain s k _ _ _ hr
        refine ⟨⟨rfl, h1⟩, fun x hx => ?_⟩
        rcases List.mem_cons.mp hx with rfl | hx
        · exact hp
        · exact (List.mem_filter.mp (h2 x hx)).1
      · exact absurd h List.not_mem_nil
theorem fold_ge {f : Landing → Nat} : ∀ (l : List Landing) (t : Nat), t ≤ l.foldl (fun (t : Nat) (x : Landing) => max t (f x)) t ∧ (∀ x ∈ l, f x ≤ l.foldl (fun (t : Nat) (x : Landing) => max t (f x)) t) ∧
    ∀ b, t ≤ b → (∀ x ∈ l, f x ≤ b) → l.foldl (fun (t : Nat) (x : Landing) => max t (f x)) t ≤ b
  | [], t => ⟨Nat.le_refl _, fun x h => absurd h List.not_mem_nil, fun b h _ => h⟩
  | y :: l, t => by
    obtain ⟨h1, h2, h3⟩ := fold_ge (f := f) l (max t (f y))
    rw [List.foldl_cons]
    refine ⟨by omega, fun x hx => ?_, fun b hb h => ?_⟩
    · rcases List.mem_cons.mp hx with rfl | hx
      · omega
      · exact h2 x hx
    · have := h y (List.mem_cons_self ..)
      exact h3 b (by omega) fun x hx => h x (List.mem_cons_of_mem _ hx)
/-- y stands with its room behind x -/
def Clear (s : St) (x y : Landing) : Prop := x.time + Sy52.roomOf s x.plane.cls y.plane.cls ≤ y.time
theorem chain_clear : ∀ (r l : List Landing), Chain s l r → (∀ x ∈ l, ∀ y ∈ r, Clear s x y) ∧ r.Pairwise (Clear s) ∧ ∀ y ∈ r, y.plane.from_ ≤ y.time
  | [], _, _ => ⟨fun _ _ y h => absurd h List.not_mem_nil, List.Pairwise.nil, fun y h => absurd h List.not_mem_nil⟩
  | z :: r, l, h => by
    obtain ⟨h1, h2, h3⟩ := chain_clear r (l ++ [z]) h.2
    obtain ⟨g1, g2, _⟩ := fold_ge (f := fun x => x.time + Sy52.roomOf s x.plane.cls z.plane.cls) l z.plane.from_
    have e : z.time = l.foldl (fun (t : Nat) (x : Landing) => max t (x.time + Sy52.roomOf s x.plane.cls z.plane.cls)) z.plane.from_ := h.1
    rw [← e] at g1 g2
    refine ⟨fun x hx y hy => ?_, List.Pairwise.cons (fun y hy => h1 z (List.mem_append_right _ (List.mem_singleton.mpr rfl)) y hy) h2, fun y hy => ?_⟩
    · rcases List.mem_cons.mp hy with rfl | hy
      · exact g2 x hx
      · exact h1 x (List.mem_append_left _ hx) y hy
    · rcases List.mem_cons.mp hy with rfl | hy
      · exact g1
      · exact h3 y hy
theorem last_all {α : Type} {R : α → α → Prop} : ∀ {l : List α} {z : α}, l.Pairwise R → l.getLast? = some z → ∀ x ∈ l, x = z ∨ R x z
  | [a], z, _, h, x, hx => by
    have e : a = z := Option.some.inj h
    rw [List.mem_singleton.mp hx]
    exact .inl e
  | a :: b :: l, z, p, h, x, hx => by
    have h' : (b :: l).getLast? = some z := by rw [← h, List.getLast?_cons_cons]
    obtain ⟨p1, p2⟩ := List.pairwise_cons.mp p
    rcases List.mem_cons.mp hx with rfl | hx
    · exact .inr (p1 z (List.mem_of_getLast? h'))
    · exact last_all p2 h' x hx
theorem end_last {r : List Landing} (h : r.Pairwise (Clear s)) : endOf (r.map lnd) = (Sy52.lastTime r : Int) := by
  unfold endOf
  rw [List.getLast?_map]
  cases e : r.getLast? with
  | none =>
    rw [List.getLast?_eq_none_iff.mp e]
    rfl
  | some z =>
    show (z.time : Int) = _
    refine congrArg Nat.cast ?_
    have mz := List.mem_of_getLast? e
    obtain ⟨_, h2, h3⟩ := fold_ge (f := fun x => x.time) r 0
    refine Nat.le_antisymm (h2 z mz) (h3 _ (Nat.zero_le _) fun x hx => ?_)
    rcases last_all h e x hx with rfl | q
    · exact Nat.le_refl _
    · unfold Clear at q
      omega
theorem wait_sum (S : Sim m s) : ∀ {r : List Landing}, (∀ x ∈ r, x.plane ∈ flown s) → (∀ y ∈ r, y.plane.from_ ≤ y.time) → m.waitingOf (r.map lnd) = (Sy52.waiting r : Int)
  | [], _, _ => rfl
  | z :: r, h, g => by
    have ih := wait_sum S (r := r) (fun x hx => h x (List.mem_cons_of_mem _ hx)) (fun x hx => g x (List.mem_cons_of_mem _ hx))
    have g0 := g z (List.mem_cons_self ..)
    unfold M.waitingOf Sy52.waiting at ih ⊢
    rw [List.map_cons, List.map_cons, List.map_cons, List.sum_cons, List.sum_cons, ih]
    show (z.time : Int) - (m.plane (z.plane.id : Int)).2.1 + _ = _
    rw [S.plane (h z (List.mem_cons_self ..))]
    show (z.time : Int) - (z.plane.from_ : Int) + _ = _
    omega
/-- what holds of each allowed order of the specification -/
structure Ord (s : St) (r : List Landing) : Prop where
  clear : r.Pairwise (Clear s)
  ahead : ∀ x ∈ s.landed, ∀ y ∈ r, Clear s x y
  from_ : ∀ y ∈ r, y.plane.from_ ≤ y.time
  sub : ∀ x ∈ r, x.plane ∈ s.waits
theorem chain_shift (k : Nat) : ∀ (r l : List Landing), Chain { s with shift := k } l r → Chain s l r
  | [], _, _ => trivial
  | _ :: r, _, h => ⟨h.1, chain_shift k r _ h.2⟩
theorem allowed_ord {sh : Nat} {r : List Landing} (h : r ∈ Sy52.allowed { s with shift := sh }) : Ord s r := by
  obtain ⟨h1, h2⟩ := orders_chain _ _ _ _ _ h
  obtain ⟨g1, g2, g3⟩ := chain_clear r s.landed (chain_shift sh r _ h1)
  exact ⟨g2, g1, g3, h2⟩
theorem Sim.cost (S : Sim m s) {r : List Landing} (h : Ord s r) : m.cost (r.map lnd) = ((Sy52.lastTime r : Int), (Sy52.waiting r : Int)) := by
  unfold M.cost
  rw [end_last h.clear, wait_sum S (fun x hx => in_waits (h.sub x hx)) h.from_]
theorem Sim.better (S : Sim m s) {a b : List Landing} (ha : Ord s a) (hb : Ord s b) : less (m.cost (a.map lnd)) (m.cost (b.map lnd)) = Sy52.better a b := by
  rw [S.cost ha, S.cost hb]
  unfold less Sy52.better
  show (decide ((Sy52.lastTime a : Int) < (Sy52.lastTime b : Int)) || (decide ((Sy52.lastTime a : Int) = (Sy52.lastTime b : Int)) && decide ((Sy52.waiting a : Int) < (Sy52.waiting b : Int)))) = _
  have e1 : decide ((Sy52.lastTime a : Int) < (Sy52.lastTime b : Int)) = decide (Sy52.lastTime a < Sy52.lastTime b) := decide_eq_decide.mpr (by omega)
  have e2 : decide ((Sy52.waiting a : Int) < (Sy52.waiting b : Int)) = decide (Sy52.waiting a < Sy52.waiting b) := decide_eq_decide.mpr (by omega)
  have e3 : decide ((Sy52.lastTime a : Int) = (Sy52.lastTime b : Int)) = (Sy52.lastTime a == Sy52.lastTime b) := by
    rw [Bool.eq_iff_iff, decide_eq_true_iff, beq_iff_eq]
    omega
  rw [e1, e2, e3]
theorem fold_best (S : Sim m s) : ∀ (l : List (List Landing)) (r : List Landing), (∀ x ∈ l, Ord s x) → Ord s r →
    (l.map (List.map lnd)).foldl (fun b x => if less (m.cost x) (m.cost b) = true then x else b) (r.map lnd) = (l.foldl (fun (m : List Landing) (x : List Landing) => if Sy52.better x m = true then x else m) r).map lnd
  | [], _, _, _ => rfl
  | x :: l, r, h, hr => by
    have hx := h x (List.mem_cons_self ..)
    have hl := fun y hy => h y (List.mem_cons_of_mem x hy)
    rw [List.map_cons, List.foldl_cons, List.foldl_cons, S.better hx hr]
    cases Sy52.better x r with
    | true => exact fold_best S l x hl hx
    | false => exact fold_best S l r hl hr
theorem Sim.plan (S : Sim m s) (sh : Nat) : m.planOf (sh : Int) = (Sy52.plan { s with shift := sh }).map (List.map lnd) := by
  unfold M.planOf Sy52.plan
  rw [S.allowed sh]
  cases e : Sy52.allowed { s with shift := sh } with
  | nil => rfl
  | cons r l =>
    have h : ∀ x ∈ r :: l, Ord s x := fun x hx => allowed_ord (sh := sh) (by rw [e]; exact hx)
    show some _ = some _
    exact congrArg some (fold_best S l r (fun x hx => h x (List.mem_cons_of_mem _ hx)) (h r (List.mem_cons_self ..)))
theorem best_mem {l : List (List Landing)} {o : List Landing} (h : Sy52.best l = some o) : o ∈ l := by
  have key : ∀ (l : List (List Landing)) (r : List Landing), l.foldl (fun (m : List Landing) (x : List Landing) => if Sy52.better x m = true then x else m) r ∈ r :: l := by
    intro l
    induction l with
    | nil => exact fun r => List.mem_singleton.mpr rfl
    | cons x l ih =>
      intro r
      rw [List.foldl_cons]
      split
      · exact List.mem_cons_of_mem _ (ih x)
      · rcases List.mem_cons.mp (ih r) with e | e
        · rw [e]
          exact List.mem_cons_self ..
        · exact List.mem_cons_of_mem _ (List.mem_cons_of_mem _ e)
  match l, h with
  | r :: l, h =>
    have e : l.foldl (fun (m : List Landing) (x : List Landing) => if Sy52.better x m = true then x else m) r = o := Option.some.inj h
    rw [← e]
    exact key l r
theorem plan_ord {sh : Nat} {o : List Landing} (h : Sy52.plan { s with shift := sh } = some o) : Ord s o := allowed_ord (best_mem h)
theorem plan_mem {o : List Landing} (h : Sy52.plan s = some o) : o ∈ Sy52.allowed s := best_mem h
theorem pairs_row (l : List Landing) : pairs (l.map lnd) = Sy52.row l := by
  unfold pairs Sy52.row Sy52.ints
  rw [List.flatMap_map, List.map_flatMap]
  rfl
theorem out_listed (v : Int) (w : List Int) : Sy52Neutral.out ⟨v, [w]⟩ = v :: listed w := by
  show v :: (listed w ++ []) = _
  rw [List.append_nil]
theorem Sim.toldPlan (S : Sim m s) (sh : Nat) : m.toldPlan (sh : Int) = Sy52Neutral.out (match Sy52.plan { s with shift := sh } with
    | none => Sy52.ok (-6)
    | some r => ⟨(Sy52.lastTime r : Nat), [Sy52.row r]⟩) := by
  unfold M.toldPlan
  rw [S.plan sh]
  cases e : Sy52.plan { s with shift := sh } with
  | none => rfl
  | some r =>
    show endOf (r.map lnd) :: listed (pairs (r.map lnd)) = _
    rw [end_last (plan_ord e).clear, pairs_row, out_listed]
end
end Wa
/-! Call by call: the mirror answers what the specification does. -/
namespace Wa
open Sy52 (St Plane Landing Call Ans)
section
variable {m : M} {s : St}
theorem Sim.wf_ids (S : Sim m s) {p : Plane} (h : p ∈ flown s) : p.id < s.came := by
  rw [← S.came]
  exact (List.getElem?_eq_some_iff.mp (S.known p h).1).1
theorem wait_mem (S : Sim m s) (i : Nat) : m.waiting.contains (i : Int) = Sy52.waitsHere s i := by
  rw [S.waiting]
  unfold Sy52.waitsHere
  induction s.waits with
  | nil => rfl
  | cons p l ih =>
    rw [List.map_cons, List.contains_cons, List.any_cons, ih]
    refine congrArg (fun z => z || _) ?_
    show ((i : Int) == (p.id : Int)) = (p.id == i)
    rw [Bool.eq_iff_iff, beq_iff_eq, beq_iff_eq]
    omega
theorem Sim.whyNot (S : Sim m s) (i : Nat) : m.whyNot (i : Int) = if s.came ≤ i then -2 else if Sy52.waitsHere s i = false then -4 else 0 := by
  unfold M.whyNot
  rw [S.came, wait_mem S]
  by_cases h : s.came ≤ i
  · rw [if_pos h, if_pos (show (i : Int) ≥ (s.came : Int) by omega)]
  · rw [if_neg h, if_neg (show ¬ (i : Int) ≥ (s.came : Int) by omega)]
theorem sim_fresh (k : Nat) : Sim (M.fresh (k : Int)) { Sy52.init with shift := k } := by
  refine ⟨rfl, rfl, fun r h => ?_, rfl, rfl, rfl, rfl, fun p h => absurd h List.not_mem_nil, List.Pairwise.nil⟩
  rw [List.eq_of_mem_replicate h]
  exact Nat.le_refl _
theorem erase_filter : ∀ (l : List Plane) (i : Nat), (l.map fun p => p.id).Nodup → (l.map wt).erase (i : Int) = (l.filter fun p => p.id != i).map wt
  | [], _, _ => rfl
  | p :: l, i, nd => by
    obtain ⟨hp, nd⟩ := List.nodup_cons.mp nd
    rw [List.map_cons, List.erase_cons, List.filter_cons]
    by_cases h : p.id = i
    · rw [if_pos (show ((wt p == (i : Int)) = true) by rw [beq_iff_eq]; unfold wt; omega), if_neg (by simp [h])]
      have e : l.filter (fun p => p.id != i) = l := List.filter_eq_self.mpr fun y hy => by
        have : y.id ≠ i := fun q => hp (List.mem_map.mpr ⟨y, hy, q.trans h.symm⟩)
        simp [this]
      rw [e]
    · rw [if_neg (show ¬ ((wt p == (i : Int)) = true) by rw [beq_iff_eq]; unfold wt; omega), if_pos (by simp [h]), List.map_cons, erase_filter l i nd]
theorem Sim.leave (S : Sim m s) (i : Nat) : Sim (m.leave (i : Int)) { s with waits := s.waits.filter fun (p : Plane) => p.id != i } := by
  have sub : (flown { s with waits := s.waits.filter fun (p : Plane) => p.id != i }).Sublist (flown s) := List.Sublist.append (List.Sublist.refl _) List.filter_sublist
  refine ⟨S.sh, S.rlen, S.rpos, S.rooms, S.came, S.landed, ?_, fun p h => S.known p (sub.subset h), S.nd.sublist (sub.map _)⟩
  show m.waiting.erase (i : Int) = _
  rw [S.waiting]
  exact erase_filter _ _ S.wnd
theorem Sim.land (S : Sim m s) {x : Landing} (h : x.plane ∈ s.waits) : Sim (m.land (x.plane.id : Int) (x.time : Int)) { s with landed := s.landed ++ [x], waits := s.waits.filter fun (p : Plane) => p.id != x.plane.id } := by
  refine ⟨S.sh, S.rlen, S.rpos, S.rooms, S.came, ?_, ?_, fun p hp => S.known p ?_, ?_⟩
  · show m.landed ++ [lnd x] = (s.landed ++ [x]).map lnd
    rw [List.map_append, S.landed]
    rfl
  · show m.waiting.erase (x.plane.id : Int) = _
    rw [S.waiting]
    exact erase_filter _ _ S.wnd
  · rcases List.mem_append.mp hp with hp | hp
    · obtain ⟨y, hy, rfl⟩ := List.mem_map.mp hp
      rcases List.mem_append.mp hy with hy | hy
      · exact in_landed hy
      · rw [List.mem_singleton.mp hy]
        exact in_waits h
    · exact in_waits (List.mem_filter.mp hp).1
  · have nd := S.nd
    unfold flown at nd ⊢
    rw [List.map_append, List.nodup_append] at nd
    obtain ⟨n1, n2, n3⟩ := nd
    rw [List.map_append, List.nodup_append]
    refine ⟨?_, n2.sublist (List.filter_sublist.map _), fun a ha b hb => ?_⟩
    · rw [List.map_append, List.map_append, List.nodup_append]
      refine ⟨n1, List.Pairwise.cons (fun _ z => absurd z List.not_mem_nil) List.Pairwise.nil, fun a ha b hb => ?_⟩
      rw [List.mem_singleton.mp hb]
      exact n3 a ha _ (List.mem_map.mpr ⟨_, h, rfl⟩)
    · obtain ⟨q, hq, rfl⟩ := List.mem_map.mp hb
      obtain ⟨hq1, hq2⟩ := List.mem_filter.mp hq
      rw [List.map_append, List.map_append] at ha
      rcases List.mem_append.mp ha with ha | ha
      · exact n3 a ha _ (List.mem_map.mpr ⟨_, hq1, rfl⟩)
      · intro z
        rw [List.mem_singleton.mp ha] at z
        simp at hq2
        exact hq2 z.symm
theorem Sim.comes (S : Sim m s) {c a b : Nat} (hc : c < 4) : Sim { m with planes := m.planes ++ [((c : Int), (a : Int), (b : Int))], waiting := m.waiting ++ [(m.planes.length : Int)] }
    { s with waits := s.waits ++ [⟨s.came, c, a, b⟩], came := s.came + 1 } := by
  refine ⟨S.sh, S.rlen, S.rpos, S.rooms, ?_, S.landed, ?_, fun p hp => ?_, ?_⟩
  · show (m.planes ++ [_]).length = s.came + 1
    rw [List.length_append, S.came]
    rfl
  · show m.waiting ++ [_] = (s.waits ++ [_]).map wt
    rw [List.map_append, S.waiting, S.came]
    rfl
  · show (m.planes ++ [((c : Int), (a : Int), (b : Int))])[p.id]? = _ ∧ _
    have hp : p ∈ flown s ∨ p = ⟨s.came, c, a, b⟩ := by
      unfold flown at hp ⊢
      rcases List.mem_append.mp hp with hp | hp
      · exact .inl (List.mem_append_left _ hp)
      · rcases List.mem_append.mp hp with hp | hp
        · exact .inl (List.mem_append_right _ hp)
        · exact .inr (List.mem_singleton.mp hp)
    rcases hp with hp | rfl
    · rw [List.getElem?_append_left (by rw [S.came]; exact S.wf_ids hp)]
      exact S.known p hp
    · rw [List.getElem?_append_right (by rw [S.came]; exact Nat.le_refl _), S.came, Nat.sub_self]
      exact ⟨rfl, hc⟩
  · have e : flown { s with waits := s.waits ++ [⟨s.came, c, a, b⟩], came := s.came + 1 } = flown s ++ [⟨s.came, c, a, b⟩] := (List.append_assoc ..).symm
    rw [e, List.map_append, List.nodup_append]
    refine ⟨S.nd, List.Pairwise.cons (fun _ z => absurd z List.not_mem_nil) List.Pairwise.nil, fun i hi j hj z => ?_⟩
    obtain ⟨p, hp, rfl⟩ := List.mem_map.mp hi
    have h1 := S.wf_ids hp
    have h2 : j = s.came := List.mem_singleton.mp hj
    omega
theorem sixteen {l : List Nat} (h : l.length = 16) : ∃ a0 a1 a2 a3 a4 a5 a6 a7 a8 a9 b0 b1 b2 b3 b4 b5, l = [a0, a1, a2, a3, a4, a5, a6, a7, a8, a9, b0, b1, b2, b3, b4, b5] := by
  match l, h with
  | [a0, a1, a2, a3, a4, a5, a6, a7, a8, a9, b0, b1, b2, b3, b4, b5], _ => exact ⟨_, _, _, _, _, _, _, _, _, _, _, _, _, _, _, _, rfl⟩
theorem Sim.flat (S : Sim m s) : m.rooms.flatten = Sy52.ints s.room := by
  obtain ⟨a0, a1, a2, a3, a4, a5, a6, a7, a8, a9, b0, b1, b2, b3, b4, b5, e⟩ := sixteen S.rlen
  rw [S.rooms]
  unfold Sy52.roomOf
  rw [e]
  rfl
theorem Sim.setRoom (S : Sim m s) {a b n : Nat} (ha : a < 4) (hb : b < 4) (hn : 1 ≤ n) :
    Sim { m with rooms := m.rooms.set a ((m.rooms.getD a []).set b (n : Int)) } { s with room := s.room.set (4 * a + b) n } := by
  refine ⟨S.sh, by rw [List.length_set]; exact S.rlen, fun r h => ?_, ?_, S.came, S.landed, S.waiting, S.known, S.nd⟩
  · rcases List.mem_or_eq_of_mem_set h with h | rfl
    · exact S.rpos r h
    · exact hn
  · obtain ⟨a0, a1, a2, a3, a4, a5, a6, a7, a8, a9, b0, b1, b2, b3, b4, b5, e⟩ := sixteen S.rlen
    show m.rooms.set a ((m.rooms.getD a []).set b (n : Int)) = _
    rw [S.rooms]
    unfold Sy52.roomOf
    show _ = (List.range 4).map fun x => (List.range 4).map fun y => (((s.room.set (4 * a + b) n).getD (4 * x + y) 1 : Nat) : Int)
    rw [e]
    have ea : a = 0 ∨ a = 1 ∨ a = 2 ∨ a = 3 := by omega
    have eb : b = 0 ∨ b = 1 ∨ b = 2 ∨ b = 3 := by omega
    rcases ea with rfl | rfl | rfl | rfl <;> rcases eb with rfl | rfl | rfl | rfl <;> simp [List.range, List.range.loop]
end
end Wa
/-! The calls of a list, and what is due of all of them. -/
namespace Wa
open Sy52 (St Plane Landing Call Ans)
section
variable {m : M} {s : St}
theorem nat_in {k : Nat} (h : k < 4294967296) (l : List Int) : Sy52Neutral.natIn ((k : Int) :: l) = some (k, l) := by
  have h1 : (0 : Int) ≤ (k : Int) ∧ (k : Int) < 2 ^ 32 := ⟨by omega, by omega⟩
  simp only [Sy52Neutral.natIn]
  rw [if_pos h1, Int.toNat_natCast]
theorem many_in {k a : Nat} (ha : a < 4294967296) (l : List Int) : Sy52Neutral.many_ Sy52Neutral.natIn (k + 1) ((a : Int) :: l) = (Sy52Neutral.many_ Sy52Neutral.natIn k l).map fun (y : List Nat × List Int) => (a :: y.1, y.2) := by
  show (Sy52Neutral.natIn ((a : Int) :: l)).bind (fun (x : Nat × List Int) => (Sy52Neutral.many_ Sy52Neutral.natIn k x.2).map fun (y : List Nat × List Int) => (x.1 :: y.1, y.2)) = _
  rw [nat_in ha]
  rfl
theorem many_no : Sy52Neutral.many_ Sy52Neutral.natIn 0 [] = some ([], []) := rfl
theorem all_of {l : List Nat} : Sy52Neutral.all_ (some (l, [])) = some l := rfl
theorem some1 {a : Nat} (ha : a < 4294967296) : Sy52Neutral.all_ (Sy52Neutral.some_ 1 [(a : Int)]) = some [a] := by
  unfold Sy52Neutral.some_
  rw [many_in (k := 0) ha, many_no, Option.map_some, all_of]
theorem some2 {a b : Nat} (ha : a < 4294967296) (hb : b < 4294967296) : Sy52Neutral.all_ (Sy52Neutral.some_ 2 [(a : Int), (b : Int)]) = some [a, b] := by
  unfold Sy52Neutral.some_
  rw [many_in (k := 1) ha, many_in (k := 0) hb, many_no, Option.map_some, Option.map_some, all_of]
theorem some3 {a b c : Nat} (ha : a < 4294967296) (hb : b < 4294967296) (hc : c < 4294967296) : Sy52Neutral.all_ (Sy52Neutral.some_ 3 [(a : Int), (b : Int), (c : Int)]) = some [a, b, c] := by
  unfold Sy52Neutral.some_
  rw [many_in (k := 2) ha, many_in (k := 1) hb, many_in (k := 0) hc, many_no, Option.map_some, Option.map_some, Option.map_some, all_of]
theorem call0 {a : Nat} (ha : a < 4294967296) : Sy52Neutral.callOf [0, (a : Int)] = some (.begins a) := by
  simp only [Sy52Neutral.callOf]
  rw [some1 ha]
  rfl
theorem call1 {a b c : Nat} (ha : a < 4294967296) (hb : b < 4294967296) (hc : c < 4294967296) : Sy52Neutral.callOf [1, (a : Int), (b : Int), (c : Int)] = some (.room a b c) := by
  simp only [Sy52Neutral.callOf]
  rw [some3 ha hb hc]
  rfl
theorem call2 {a b c : Nat} (ha : a < 4294967296) (hb : b < 4294967296) (hc : c < 4294967296) : Sy52Neutral.callOf [2, (a : Int), (b : Int), (c : Int)] = some (.comes a b c) := by
  simp only [Sy52Neutral.callOf]
  rw [some3 ha hb hc]
  rfl
theorem call3 {a : Nat} (ha : a < 4294967296) : Sy52Neutral.callOf [3, (a : Int)] = some (.goes a) := by
  simp only [Sy52Neutral.callOf]
  rw [some1 ha]
  rfl
theorem call4 : Sy52Neutral.callOf [4] = some .lands := rfl
theorem call5 : Sy52Neutral.callOf [5] = some .plan := rfl
theorem call6 : Sy52Neutral.callOf [6] = some .asCame := rfl
theorem call7 {a b : Nat} (ha : a < 4294967296) (hb : b < 4294967296) : Sy52Neutral.callOf [7, (a : Int), (b : Int)] = some (.may a b) := by
  simp only [Sy52Neutral.callOf]
  rw [some2 ha hb]
  rfl
theorem call8 {a : Nat} (ha : a < 4294967296) : Sy52Neutral.callOf [8, (a : Int)] = some (.why a) := by
  simp only [Sy52Neutral.callOf]
  rw [some1 ha]
  rfl
theorem call9 : Sy52Neutral.callOf [9] = some .many := rfl
theorem call10 : Sy52Neutral.callOf [10] = some .state := rfl
/-- one step of the specification, by its call -/
def due (s : St) (x : Sy52.Call) : St × List Int := ((Sy52.step s x).1, Sy52Neutral.out (Sy52.step s x).2)
theorem step_of {c : List Int} {x : Sy52.Call} (h : Sy52Neutral.callOf c = some x) : Sy52Neutral.step s c = due s x := by
  unfold Sy52Neutral.step
  rw [h]
  rfl
theorem out_ok (v : Int) : Sy52Neutral.out (Sy52.ok v) = [v] := rfl
def Both (_ : M) (_ : St) (a : M × List Int) (b : St × List Int) : Prop := Sim a.1 b.1 ∧ a.2 = b.2
theorem do_begins (S : Sim m s) (k : Nat) : Both m s (m.called [0, (k : Int)]) (due s (.begins k)) := by
  show Both m s (if (k : Int) > 3 then (m, [-1]) else (M.fresh k, [0])) _
  unfold due Sy52.step
  dsimp only
  by_cases h : 3 < k
  · rw [if_pos h, if_pos (show (k : Int) > 3 by omega)]
    exact ⟨S, rfl⟩
  · rw [if_neg h, if_neg (show ¬ (k : Int) > 3 by omega)]
    exact ⟨sim_fresh k, rfl⟩
theorem do_room (S : Sim m s) (a b n : Nat) : Both m s (m.called [1, (a : Int), (b : Int), (n : Int)]) (due s (.room a b n)) := by
  show Both m s ((m.setRoom a b n).1, [(m.setRoom a b n).2]) _
  unfold due Sy52.step M.setRoom
  dsimp only
  by_cases h : 3 < a ∨ 3 < b ∨ n < 1 ∨ 9 < n
  · rw [if_pos h, if_pos (show (a : Int) ≥ 4 ∨ (b : Int) ≥ 4 ∨ (n : Int) < 1 ∨ (n : Int) > 9 by omega)]
    exact ⟨S, rfl⟩
  · rw [if_neg h, if_neg (show ¬ ((a : Int) ≥ 4 ∨ (b : Int) ≥ 4 ∨ (n : Int) < 1 ∨ (n : Int) > 9) by omega)]
    have e : m.planes ≠ [] ↔ s.came ≠ 0 := by
      rw [← S.came]
      exact ⟨fun z q => z (List.length_eq_zero_iff.mp q), fun z q => z (by rw [q]; rfl)⟩
    by_cases h2 : s.came ≠ 0
    · rw [if_pos h2, if_pos (e.mpr h2)]
      exact ⟨S, rfl⟩
    · rw [if_neg h2, if_neg (fun z => h2 (e.mp z))]
      refine ⟨?_, rfl⟩
      rw [Int.toNat_natCast, Int.toNat_natCast]
      exact S.setRoom (by omega) (by omega) (by omega)
theorem do_comes (S : Sim m s) (c a b : Nat) : Both m s (m.called [2, (c : Int), (a : Int), (b : Int)]) (due s (.comes c a b)) := by
  show Both m s ((m.addPlane c a b).1, [(m.addPlane c a b).2]) _
  unfold due Sy52.step M.addPlane
  dsimp only
  by_cases h : 3 < c ∨ b < a ∨ 1000 < b
  · rw [if_pos h, if_pos (show (c : Int) ≥ 4 ∨ (b : Int) < (a : Int) ∨ (b : Int) > 1000 by omega)]
    exact ⟨S, rfl⟩
  · rw [if_neg h, if_neg (show ¬ ((c : Int) ≥ 4 ∨ (b : Int) < (a : Int) ∨ (b : Int) > 1000) by omega)]
    have e1 : m.waiting.length = s.waits.length := by rw [S.waiting, List.length_map]
    by_cases h2 : Sy52.PLANES ≤ s.waits.length ∨ 60 ≤ s.came
    · rw [if_pos h2, if_pos (show (m.waiting.length : Int) ≥ 8 ∨ (m.planes.length : Int) ≥ 60 by rw [e1, S.came]; unfold Sy52.PLANES at h2; omega)]
      exact ⟨S, rfl⟩
    · rw [if_neg h2, if_neg (show ¬ ((m.waiting.length : Int) ≥ 8 ∨ (m.planes.length : Int) ≥ 60) by rw [e1, S.came]; unfold Sy52.PLANES at h2; omega)]
      refine ⟨S.comes (by omega), ?_⟩
      show [(m.planes.length : Int)] = [(s.came : Int)]
      rw [S.came]
/-- the refusals of an aircraft's number -/
theorem refused (S : Sim m s) (i : Nat) : (s.came ≤ i ∧ m.whyNot (i : Int) = -2) ∨ (¬ s.came ≤ i ∧ Sy52.waitsHere s i = false ∧ m.whyNot (i : Int) = -4) ∨ (¬ s.came ≤ i ∧ Sy52.waitsHere s i = true ∧ m.whyNot (i : Int) = 0) := by
  rw [S.whyNot i]
  by_cases h : s.came ≤ i
  · exact .inl ⟨h, if_pos h⟩
  · rw [if_neg h]
    cases e : Sy52.waitsHere s i with
    | false => exact .inr (.inl ⟨h, rfl, if_pos rfl⟩)
    | true => exact .inr (.inr ⟨h, rfl, if_neg (fun z => Bool.noConfusion z)⟩)
theorem do_goes (S : Sim m s) (i : Nat) : Both m s (m.called [3, (i : Int)]) (due s (.goes i)) := by
  show Both m s (m.gone i) _
  unfold due Sy52.step M.gone
  dsimp only
  rcases refused S i with ⟨h, e⟩ | ⟨h, g, e⟩ | ⟨h, g, e⟩
  · rw [if_pos h, e]
    exact ⟨S, rfl⟩
  · rw [if_neg h, if_pos g, e]
    exact ⟨S, rfl⟩
  · rw [if_neg h, g, if_neg (fun z : true = false => Bool.noConfusion z), e]
    refine ⟨S.leave i, ?_⟩
    show [(((m.waiting.erase (i : Int)).length : Nat) : Int)] = [((s.waits.length - 1 : Nat) : Int)]
    rw [← wait_mem S] at g
    rw [List.length_erase_of_mem (List.contains_iff_mem.mp g), S.waiting, List.length_map]
theorem Sim.same (S : Sim m s) : m.planOf m.shift = (Sy52.plan s).map (List.map lnd) := by
  rw [S.sh]
  exact S.plan s.shift
theorem plan_sub {o : List Landing} (h : Sy52.plan s = some o) : Ord s o := plan_ord (sh := s.shift) h
theorem do_lands (S : Sim m s) : Both m s (m.called [4]) (due s .lands) := by
  show Both m s m.toldLanding _
  unfold due Sy52.step M.toldLanding
  dsimp only
  cases e : s.waits with
  | nil =>
    rw [if_pos (by rw [S.waiting, e]; rfl), if_pos (show ([] : List Plane).isEmpty = true from rfl)]
    exact ⟨S, rfl⟩
  | cons p l =>
    rw [if_neg (by rw [S.waiting, e]; exact fun z => nomatch z), if_neg (show ¬ (p :: l).isEmpty = true from fun z => Bool.noConfusion z), S.same]
    cases g : Sy52.plan s with
    | none => exact ⟨S, rfl⟩
    | some o =>
      match o, g with
      | [], _ => exact ⟨S, rfl⟩
      | x :: r, g =>
        have hx := (plan_sub g).sub x (List.mem_cons_self ..)
        refine ⟨?_, ?_⟩
        · have h := S.land hx
          rw [e] at h
          exact h
        · rfl
theorem do_plan (S : Sim m s) : Both m s (m.called [5]) (due s .plan) := by
  refine ⟨S, ?_⟩
  show m.toldPlan m.shift = _
  rw [S.sh]
  exact S.toldPlan s.shift
theorem do_came (S : Sim m s) : Both m s (m.called [6]) (due s .asCame) := ⟨S, S.toldPlan 0⟩
theorem time_find : ∀ (r : List Landing) (i : Nat), (i : Int) ∈ (r.map lnd).map Prod.fst → ∃ x, r.find? (fun x => x.plane.id == i) = some x ∧ timeOf (r.map lnd) (i : Int) = (x.time : Int) ∧ x ∈ r ∧ x.plane.id = i
  | [], i, h => absurd h List.not_mem_nil
  | y :: r, i, h => by
    by_cases c : y.plane.id = i
    · refine ⟨y, List.find?_cons_of_pos (beq_iff_eq.mpr c), ?_, List.mem_cons_self .., c⟩
      unfold timeOf
      rw [List.map_cons]
      show (List.lookup (i : Int) (((y.plane.id : Int), (y.time : Int)) :: r.map lnd)).getD 0 = _
      rw [List.lookup_cons, show ((i : Int) == (y.plane.id : Int)) = true by rw [beq_iff_eq]; omega]
      rfl
    · have h' : (i : Int) ∈ (r.map lnd).map Prod.fst := by
        rcases List.mem_cons.mp h with e | e
        · exact absurd (show y.plane.id = i by have : (i : Int) = (y.plane.id : Int) := e; omega) c
        · exact e
      obtain ⟨x, h1, h2, h3, h4⟩ := time_find r i h'
      refine ⟨x, ?_, ?_, List.mem_cons_of_mem _ h3, h4⟩
      · rw [List.find?_cons_of_neg (by simp [c])]
        exact h1
      · unfold timeOf at h2 ⊢
        rw [List.map_cons]
        show (List.lookup (i : Int) (((y.plane.id : Int), (y.time : Int)) :: r.map lnd)).getD 0 = _
        rw [List.lookup_cons, show ((i : Int) == (y.plane.id : Int)) = false by rw [beq_eq_false_iff_ne]; omega]
        exact h2
theorem Sim.que (S : Sim m s) {o : List Landing} (h : o ∈ Sy52.allowed s) : m.Que m.waiting.length (o.map lnd) := by
  refine M.allowed_que (shift := (s.shift : Int)) ?_
  rw [S.allowed s.shift]
  exact List.mem_map.mpr ⟨o, h, rfl⟩
theorem Sim.wnd' (S : Sim m s) : m.waiting.Nodup := by
  rw [S.waiting]
  have h := S.wnd
  unfold List.Nodup at h ⊢
  rw [List.pairwise_map] at h ⊢
  refine h.imp fun q z => q ?_
  unfold wt at z
  omega
theorem Sim.inOrder (S : Sim m s) {o : List Landing} (h : o ∈ Sy52.allowed s) {i : Nat} (g : Sy52.waitsHere s i = true) : (i : Int) ∈ (o.map lnd).map Prod.fst := by
  rw [← wait_mem S] at g
  exact (S.que h).all S.wnd' (List.contains_iff_mem.mp g)
theorem any_one {i t : Nat} : ∀ {r : List Landing} {x : Landing}, (r.map fun x => x.plane.id).Nodup → r.find? (fun x => x.plane.id == i) = some x → (r.any fun (x : Landing) => x.plane.id == i && decide (x.time ≤ t)) = decide (x.time ≤ t)
  | y :: r, x, nd, h => by
    obtain ⟨hy, nd⟩ := List.nodup_cons.mp nd
    rw [List.any_cons]
    by_cases c : y.plane.id = i
    · rw [List.find?_cons_of_pos (by simp [c])] at h
      have e : y = x := Option.some.inj h
      subst e
      have e2 : (r.any fun (x : Landing) => x.plane.id == i && decide (x.time ≤ t)) = false := by
        rw [List.any_eq_false]
        intro z hz
        have : z.plane.id ≠ i := fun q => hy (List.mem_map.mpr ⟨z, hz, q.trans c.symm⟩)
        simp [this]
      rw [e2, Bool.or_false, show (y.plane.id == i) = true from beq_iff_eq.mpr c, Bool.true_and]
    · rw [List.find?_cons_of_neg (by simp [c])] at h
      rw [show (y.plane.id == i) = false by simp [c], Bool.false_and, Bool.false_or]
      exact any_one nd h
theorem ids_nodup {o : List Landing} {k : Nat} (Q : m.Que k (o.map lnd)) : (o.map fun x => x.plane.id).Nodup := by
  have h := Q.nd
  unfold List.Nodup at h ⊢
  rw [List.map_map, List.pairwise_map] at h
  rw [List.pairwise_map]
  refine h.imp fun q z => q ?_
  show ((_ : Nat) : Int) = ((_ : Nat) : Int)
  rw [z]
theorem any_map {α β : Type} {f : α → β} {p : β → Bool} {q : α → Bool} : ∀ (l : List α), (∀ x ∈ l, p (f x) = q x) → (l.map f).any p = l.any q
  | [], _ => rfl
  | x :: l, h => by
    rw [List.map_cons, List.any_cons, List.any_cons, h x (List.mem_cons_self ..), any_map l fun y hy => h y (List.mem_cons_of_mem _ hy)]
theorem do_may (S : Sim m s) (i t : Nat) : Both m s (m.called [7, (i : Int), (t : Int)]) (due s (.may i t)) := by
  refine ⟨S, ?_⟩
  show m.toldMay i t = _
  unfold due Sy52.step M.toldMay
  dsimp only
  rcases refused S i with ⟨h, e⟩ | ⟨h, g, e⟩ | ⟨h, g, e⟩
  · rw [if_pos h, e]
    rfl
  · rw [if_neg h, if_pos g, e]
    rfl
  · rw [if_neg h, if_neg (show ¬ Sy52.waitsHere s i = false by rw [g]; exact fun z => Bool.noConfusion z), e, out_ok, if_neg (show ¬ (0 : Int) < 0 by decide), S.sh, S.allowed s.shift]
    rw [any_map (q := fun (r : List Landing) => r.any fun (x : Landing) => x.plane.id == i && decide (x.time ≤ t)) _ fun o ho => ?_]
    obtain ⟨x, h1, h2, h3, h4⟩ := time_find o i (S.inOrder ho g)
    rw [h2, any_one (ids_nodup (S.que ho)) h1]
    exact decide_eq_decide.mpr (by omega)
theorem do_many (S : Sim m s) : Both m s (m.called [9]) (due s .many) := by
  refine ⟨S, ?_⟩
  show [((m.allowed m.shift).length : Int)] = [((Sy52.allowed s).length : Int)]
  rw [S.sh, S.allowed s.shift, List.length_map]
theorem flat_congr {α β : Type} {f g : α → List β} : ∀ (l : List α), (∀ x ∈ l, f x = g x) → l.flatMap f = l.flatMap g
  | [], _ => rfl
  | x :: l, h => by
    rw [List.flatMap_cons, List.flatMap_cons, h x (List.mem_cons_self ..), flat_congr l fun y hy => h y (List.mem_cons_of_mem _ hy)]
theorem do_state (S : Sim m s) : Both m s (m.called [10]) (due s .state) := by
  refine ⟨S, ?_⟩
  show m.toldState = (s.came : Int) :: (listed (Sy52.ints (s.shift :: s.room)) ++ (listed (Sy52.row s.landed) ++ (listed (Sy52.ints (s.waits.flatMap fun (p : Plane) => [p.id, p.cls, p.from_, p.to_])) ++ [])))
  unfold M.toldState M.settings
  rw [S.came, S.sh, S.flat, S.landed, pairs_row, List.append_nil, List.append_assoc]
  have e : m.waiting.flatMap m.row = Sy52.ints (s.waits.flatMap fun (p : Plane) => [p.id, p.cls, p.from_, p.to_]) := by
    unfold Sy52.ints
    rw [S.waiting, List.flatMap_map, List.map_flatMap]
    refine flat_congr _ fun p hp => ?_
    show m.row (p.id : Int) = _
    unfold M.row
    rw [S.plane (in_waits hp)]
    rfl
  rw [e]
  rfl
/-! ### why -/
theorem idx_at {p : Landing → Bool} : ∀ (a : List Landing) (y : Landing) (b : List Landing), (∀ x ∈ a, p x = false) → p y = true → (a ++ y :: b).findIdx? p = some a.length
  | [], y, b, _, h => by
    rw [List.nil_append, List.findIdx?_cons, if_pos h]
    rfl
  | x :: a, y, b, g, h => by
    rw [List.cons_append, List.findIdx?_cons, if_neg (by rw [g x (List.mem_cons_self ..)]; exact Bool.false_ne_true), idx_at a y b (fun z hz => g z (List.mem_cons_of_mem _ hz)) h]
    rfl
theorem waits_for {a b : List Landing} {y : Landing} {i : Nat} (ha : ∀ x ∈ a, x.plane.id ≠ i) (hy : y.plane.id = i) :
    Sy52.waitsFor s (a ++ y :: b) i = if y.time = y.plane.from_ then none else (a.find? fun (x : Landing) => x.time + Sy52.roomOf s x.plane.cls y.plane.cls == y.time).map fun (x : Landing) => x.plane.id := by
  unfold Sy52.waitsFor
  rw [idx_at a y b (fun x hx => by simp [ha x hx]) (by simp [hy])]
  dsimp only
  rw [List.getElem?_append_right (Nat.le_refl _), Nat.sub_self, List.take_left]
  rfl
theorem first_of {α β : Type} {f : α → β} {p : α → Bool} : ∀ (a b : List α), (∀ x ∈ b, p x = false) → (((a ++ b).filter p).map f).take 1 = match a.find? p with | none => [] | some z => [f z]
  | [], b, h => by
    rw [List.nil_append, List.filter_eq_nil_iff.mpr fun x hx => by rw [h x hx]; exact Bool.false_ne_true]
    rfl
  | x :: a, b, h => by
    rw [List.cons_append, List.filter_cons]
    cases c : p x with
    | true =>
      rw [if_pos rfl, List.find?_cons_of_pos c]
      rfl
    | false =>
      rw [if_neg Bool.false_ne_true, List.find?_cons_of_neg (by rw [c]; exact Bool.false_ne_true)]
      exact first_of a b h
theorem find_map {q : Landing → Bool} {p : Int × Int → Bool} : ∀ (a : List Landing), (∀ x ∈ a, p (lnd x) = q x) → (a.map lnd).find? p = (a.find? q).map lnd
  | [], _ => rfl
  | x :: a, h => by
    have e := h x (List.mem_cons_self ..)
    rw [List.map_cons]
    cases c : q x with
    | true =>
      rw [List.find?_cons_of_pos (by rw [e]; exact c), List.find?_cons_of_pos c]
      rfl
    | false =>
      rw [List.find?_cons_of_neg (by rw [e, c]; exact Bool.false_ne_true), List.find?_cons_of_neg (by rw [c]; exact Bool.false_ne_true)]
      exact find_map a fun y hy => h y (List.mem_cons_of_mem _ hy)
theorem Sim.behind (S : Sim m s) {r : List Landing} {i : Nat} (O : Ord s r) (hi : (i : Int) ∈ (r.map lnd).map Prod.fst) :
    m.firstBehind (r.map lnd) (i : Int) = match Sy52.waitsFor s (s.landed ++ r) i with | none => [] | some j => [(j : Int)] := by
  obtain ⟨y, h1, h2, h3, h4⟩ := time_find r i hi
  obtain ⟨_, a, b, e, ha⟩ := List.find?_eq_some_iff_append.mp h1
  have hyw := O.sub y h3
  have hl : ∀ x ∈ s.landed, x.plane.id ≠ i := fun x hx z => by
    have nd := S.nd
    unfold flown at nd
    rw [List.map_append, List.nodup_append] at nd
    exact nd.2.2 _ (List.mem_map.mpr ⟨_, List.mem_map.mpr ⟨x, hx, rfl⟩, rfl⟩) _ (List.mem_map.mpr ⟨_, hyw, rfl⟩) (z.trans h4.symm)
  have hA : ∀ x ∈ s.landed ++ a, x.plane.id ≠ i := fun x hx => by
    rcases List.mem_append.mp hx with hx | hx
    · exact hl x hx
    · have := ha x hx
      simpa using this
  have el : s.landed ++ r = (s.landed ++ a) ++ y :: b := by rw [e, List.append_assoc]
  rw [el, waits_for hA h4]
  unfold M.firstBehind M.behind
  rw [h2, ← h4, S.plane (in_waits hyw), S.landed, ← List.map_append, el, List.map_append]
  show (if (y.time : Int) = (y.plane.from_ : Int) then [] else _) = _
  by_cases c : y.time = y.plane.from_
  · rw [if_pos c, if_pos (by omega)]
  · rw [if_neg c, if_neg (by omega)]
    have cls : ∀ x ∈ s.landed ++ r, x.plane ∈ flown s := fun x hx => by
      rcases List.mem_append.mp hx with hx | hx
      · exact in_landed hx
      · exact in_waits (O.sub x hx)
    have ck : ∀ x ∈ s.landed ++ r, m.clear (lnd x).1 (lnd x).2 (y.plane.id : Int) = ((x.time + Sy52.roomOf s x.plane.cls y.plane.cls : Nat) : Int) := fun x hx => S.clear (cls x hx) (in_waits hyw)
    have pos : ∀ x ∈ s.landed ++ r, ∀ z ∈ s.landed ++ r, 1 ≤ Sy52.roomOf s x.plane.cls z.plane.cls := fun x hx z hz => S.roomPos (S.known _ (cls x hx)).2 (S.known _ (cls z hz)).2
    have my : y ∈ s.landed ++ r := List.mem_append_right _ h3
    rw [first_of _ _ fun x hx => ?_]
    · rw [find_map (q := fun (x : Landing) => x.time + Sy52.roomOf s x.plane.cls y.plane.cls == y.time) _ fun x hx => ?_]
      · cases (s.landed ++ a).find? fun (x : Landing) => x.time + Sy52.roomOf s x.plane.cls y.plane.cls == y.time with
        | none => rfl
        | some z => rfl
      · rw [ck x (by rw [el]; exact List.mem_append_left _ hx)]
        rw [Bool.eq_iff_iff, decide_eq_true_iff, beq_iff_eq]
        omega
    · obtain ⟨z, hz, rfl⟩ := List.mem_map.mp hx
      have mz : z ∈ s.landed ++ r := by
        rw [el]
        exact List.mem_append_right _ hz
      rw [ck z mz]
      have p1 := pos z mz y my
      have hz2 : y.time ≤ z.time := by
        rcases List.mem_cons.mp hz with rfl | hz
        · exact Nat.le_refl _
        · have pw := O.clear
          rw [e] at pw
          have q : Clear s y z := (List.pairwise_cons.mp (List.pairwise_append.mp pw).2.1).1 z hz
          unfold Clear at q
          omega
      exact decide_eq_false (by omega)
theorem do_why (S : Sim m s) (i : Nat) : Both m s (m.called [8, (i : Int)]) (due s (.why i)) := by
  refine ⟨S, ?_⟩
  show m.toldWhy i = _
  unfold due Sy52.step M.toldWhy
  dsimp only
  rcases refused S i with ⟨h, e⟩ | ⟨h, g, e⟩ | ⟨h, g, e⟩
  · rw [if_pos h, e]
    rfl
  · rw [if_neg h, if_pos g, e]
    rfl
  · rw [if_neg h, if_neg (show ¬ Sy52.waitsHere s i = false by rw [g]; exact fun z => Bool.noConfusion z), e, if_neg (show ¬ (0 : Int) < 0 by decide), S.same]
    cases q : Sy52.plan s with
    | none => rfl
    | some r =>
      have hi := S.inOrder (plan_mem q) g
      obtain ⟨y, h1, h2, h3, h4⟩ := time_find r i hi
      show timeOf (r.map lnd) (i : Int) :: listed (m.firstBehind (r.map lnd) (i : Int)) = _
      rw [S.behind (plan_sub q) hi, h2]
      dsimp only
      rw [h1, out_listed]
      rfl
/-! ### all calls -/
theorem sim_step (S : Sim m s) {c : List Int} (G : Good c) (hb : ∀ z ∈ c, z ≤ 4294967295) : Both m s (m.called c) (Sy52Neutral.step s c) := by
  obtain ⟨p, g⟩ := G
  have nat : ∀ z ∈ c, ∃ k : Nat, z = (k : Int) ∧ k < 4294967296 := fun z hz => ⟨z.toNat, by have := p z hz; omega, by have := hb z hz; omega⟩
  rcases g with ⟨k, rfl⟩ | ⟨a, b, x, rfl⟩ | ⟨k, f, l, rfl⟩ | ⟨n, rfl⟩ | rfl | rfl | rfl | ⟨n, t, rfl⟩ | ⟨n, rfl⟩ | rfl | rfl
  · obtain ⟨k, rfl, hk⟩ := nat k (by simp)
    rw [step_of (call0 hk)]
    exact do_begins S k
  · obtain ⟨a, rfl, ha⟩ := nat a (by simp)
    obtain ⟨b, rfl, hb'⟩ := nat b (by simp)
    obtain ⟨x, rfl, hx⟩ := nat x (by simp)
    rw [step_of (call1 ha hb' hx)]
    exact do_room S a b x
  · obtain ⟨k, rfl, hk⟩ := nat k (by simp)
    obtain ⟨f, rfl, hf⟩ := nat f (by simp)
    obtain ⟨l, rfl, hl⟩ := nat l (by simp)
    rw [step_of (call2 hk hf hl)]
    exact do_comes S k f l
  · obtain ⟨n, rfl, hn⟩ := nat n (by simp)
    rw [step_of (call3 hn)]
    exact do_goes S n
  · rw [step_of call4]
    exact do_lands S
  · rw [step_of call5]
    exact do_plan S
  · rw [step_of call6]
    exact do_came S
  · obtain ⟨n, rfl, hn⟩ := nat n (by simp)
    obtain ⟨t, rfl, ht⟩ := nat t (by simp)
    rw [step_of (call7 hn ht)]
    exact do_may S n t
  · obtain ⟨n, rfl, hn⟩ := nat n (by simp)
    rw [step_of (call8 hn)]
    exact do_why S n
  · rw [step_of call9]
    exact do_many S
  · rw [step_of call10]
    exact do_state S
theorem played_is : ∀ (cs : List (List Int)) {m : M} {s : St}, Sim m s → (∀ c ∈ cs, Good c) → (∀ c ∈ cs, ∀ z ∈ c, z ≤ 4294967295) →
    m.played cs = PyFlat.told (PyFlat.played (fun s c => Sy52Neutral.step s (c.headD [])) s (cs.map fun d => [d]))
  | [], _, _, _, _, _ => rfl
  | c :: cs, m, s, S, g, b => by
    obtain ⟨h1, h2⟩ := sim_step S (g c (List.mem_cons_self ..)) (b c (List.mem_cons_self ..))
    have ih := played_is cs h1 (fun d hd => g d (List.mem_cons_of_mem _ hd)) (fun d hd => b d (List.mem_cons_of_mem _ hd))
    show ((m.called c).2.length : Int) :: ((m.called c).2 ++ (m.called c).1.played cs) = (((Sy52Neutral.step s c).2.length : Int) :: (Sy52Neutral.step s c).2) ++ PyFlat.told (PyFlat.played (fun s c => Sy52Neutral.step s (c.headD [])) (Sy52Neutral.step s c).1 (cs.map fun d => [d]))
    rw [ih, h2]
    rfl
theorem whole_good {c : List Int} (G : Good c) : PySy52.whole [c] = [c] := by
  obtain ⟨p, g⟩ := G
  rcases g with ⟨k, rfl⟩ | ⟨a, b, x, rfl⟩ | ⟨k, f, l, rfl⟩ | ⟨n, rfl⟩ | rfl | rfl | rfl | ⟨n, t, rfl⟩ | ⟨n, rfl⟩ | rfl | rfl <;> rfl
theorem whole_all : ∀ (cs : List (List Int)), (∀ c ∈ cs, Good c) → (cs.map fun d => [d]).map PySy52.whole = cs.map fun d => [d]
  | [], _ => rfl
  | c :: cs, g => by
    rw [List.map_cons, List.map_cons, whole_good (g c (List.mem_cons_self ..)), whole_all cs fun d hd => g d (List.mem_cons_of_mem _ hd)]
/-- a call that PyFlat reads -/
theorem call_good {p : Int} {r : List Int} {x : List (List Int)} {t : List Int} (hb : ∀ z ∈ p :: r, 0 ≤ z) (h : PyFlat.call PySy52.shape (p :: r) = some (x, t)) : ∃ d, x = [d] ∧ p :: r = d ++ t ∧ Good d := by
  have key : ∀ (n : Nat), PySy52.shape p = some (n, 0) → ¬ r.length < n ∧ x = [p :: r.take n] ∧ p :: r = (p :: r.take n) ++ t := fun n hs => by
    unfold PyFlat.call at h
    dsimp only at h
    rw [hs] at h
    dsimp only at h
    unfold PyFlat.rows at h
    dsimp only at h
    split at h
    · cases h
    · next c =>
      have e := Option.some.inj h
      refine ⟨c, (congrArg Prod.fst e).symm, ?_⟩
      rw [← show r.drop n = t from congrArg Prod.snd e, List.cons_append, List.take_append_drop]
  have fin : ∀ (n : Nat), PySy52.shape p = some (n, 0) → (∀ u : List Int, u.length = n → Good (p :: u) ∨ ∃ z ∈ p :: u, ¬ 0 ≤ z) → ∃ d, x = [d] ∧ p :: r = d ++ t ∧ Good d := fun n hs q => by
    obtain ⟨h1, h2, h3⟩ := key n hs
    refine ⟨_, h2, h3, ?_⟩
    rcases q (r.take n) (by rw [List.length_take]; omega) with g | ⟨z, hz, nz⟩
    · exact g
    · refine absurd (hb z ?_) nz
      rw [h3]
      exact List.mem_append_left _ hz
  have pn : ∀ u : List Int, (∀ z ∈ p :: u, 0 ≤ z) ∨ ∃ z ∈ p :: u, ¬ 0 ≤ z := fun u => by
    by_cases c : ∀ z ∈ p :: u, 0 ≤ z
    · exact .inl c
    · exact .inr (Classical.not_forall.mp c |>.elim fun z q => ⟨z, Classical.not_imp.mp q⟩)
  have l0 : ∀ u : List Int, u.length = 0 → u = [] := fun u e => List.length_eq_zero_iff.mp e
  have l1 : ∀ u : List Int, u.length = 1 → ∃ a, u = [a] := fun u e => List.length_eq_one_iff.mp e
  have l2 : ∀ u : List Int, u.length = 2 → ∃ a b, u = [a, b] := fun u e => match u, e with | [a, b], _ => ⟨a, b, rfl⟩
  have l3 : ∀ u : List Int, u.length = 3 → ∃ a b c, u = [a, b, c] := fun u e => match u, e with | [a, b, c], _ => ⟨a, b, c, rfl⟩
  by_cases e0 : p = 0
  · subst e0
    refine fin 1 rfl fun u hu => (pn u).imp (fun q => ⟨q, ?_⟩) id
    obtain ⟨a, rfl⟩ := l1 u hu
    exact .inl ⟨a, rfl⟩
  by_cases e1 : p = 1
  · subst e1
    refine fin 3 rfl fun u hu => (pn u).imp (fun q => ⟨q, ?_⟩) id
    obtain ⟨a, b, c, rfl⟩ := l3 u hu
    exact .inr (.inl ⟨a, b, c, rfl⟩)
  by_cases e2 : p = 2
  · subst e2
    refine fin 3 rfl fun u hu => (pn u).imp (fun q => ⟨q, ?_⟩) id
    obtain ⟨a, b, c, rfl⟩ := l3 u hu
    exact .inr (.inr (.inl ⟨a, b, c, rfl⟩))
  by_cases e3 : p = 3
  · subst e3
    refine fin 1 rfl fun u hu => (pn u).imp (fun q => ⟨q, ?_⟩) id
    obtain ⟨a, rfl⟩ := l1 u hu
    exact .inr (.inr (.inr (.inl ⟨a, rfl⟩)))
  by_cases e4 : p = 4
  · subst e4
    refine fin 0 rfl fun u hu => (pn u).imp (fun q => ⟨q, ?_⟩) id
    rw [l0 u hu]
    simp
  by_cases e5 : p = 5
  · subst e5
    refine fin 0 rfl fun u hu => (pn u).imp (fun q => ⟨q, ?_⟩) id
    rw [l0 u hu]
    simp
  by_cases e6 : p = 6
  · subst e6
    refine fin 0 rfl fun u hu => (pn u).imp (fun q => ⟨q, ?_⟩) id
    rw [l0 u hu]
    simp
  by_cases e7 : p = 7
  · subst e7
    refine fin 2 rfl fun u hu => (pn u).imp (fun q => ⟨q, ?_⟩) id
    obtain ⟨a, b, rfl⟩ := l2 u hu
    simp
  by_cases e8 : p = 8
  · subst e8
    refine fin 1 rfl fun u hu => (pn u).imp (fun q => ⟨q, ?_⟩) id
    obtain ⟨a, rfl⟩ := l1 u hu
    simp
  by_cases e9 : p = 9
  · subst e9
    refine fin 0 rfl fun u hu => (pn u).imp (fun q => ⟨q, ?_⟩) id
    rw [l0 u hu]
    simp
  by_cases e10 : p = 10
  · subst e10
    refine fin 0 rfl fun u hu => (pn u).imp (fun q => ⟨q, ?_⟩) id
    rw [l0 u hu]
    simp
  · have e : PySy52.shape p = none := by
      unfold PySy52.shape
      rw [if_neg e0, if_neg e1, if_neg e2, if_neg e3, if_neg e4, if_neg e5, if_neg e6, if_neg e7, if_neg e8, if_neg e9, if_neg e10]
    unfold PyFlat.call at h
    dsimp only at h
    rw [e] at h
    cases h
theorem calls_good : ∀ (f : Nat) (l : List Int) (raw : List (List (List Int))), (∀ z ∈ l, 0 ≤ z) → PyFlat.calls PySy52.shape f l = some raw → ∃ cs : List (List Int), raw = cs.map (fun d => [d]) ∧ l = cs.flatten ∧ ∀ c ∈ cs, Good c
  | f, [], raw, _, h => by
    have e : [] = raw := by
      cases f <;> exact Option.some.inj h
    subst e
    exact ⟨[], rfl, rfl, fun c h => absurd h List.not_mem_nil⟩
  | 0, _ :: _, raw, _, h => by cases h
  | f + 1, p :: r, raw, hb, h => by
    unfold PyFlat.calls at h
    split at h
    · cases h
    · next x t e =>
      obtain ⟨d, rfl, hd, g⟩ := call_good hb e
      split at h
      · cases h
      · next cs e2 =>
        obtain ⟨ds, h1, h2, h3⟩ := calls_good f t cs (fun z hz => hb z (by rw [hd]; exact List.mem_append_right _ hz)) e2
        refine ⟨d :: ds, ?_, ?_, fun c hc => ?_⟩
        · rw [← Option.some.inj h, h1]
          rfl
        · rw [List.flatten_cons, ← h2]
          exact hd
        · rcases List.mem_cons.mp hc with rfl | hc
          · exact g
          · exact h3 c hc
/-- THE LAW: what is due is what the mirror plays -/
theorem law {l : List Int} (hb : ∀ z ∈ l, 0 ≤ z ∧ z ≤ 4294967295) (h : PySy52.answers_asked l = true) :
    ∃ cs : List (List Int), l = cs.flatten ∧ (∀ c ∈ cs, Good c) ∧ cs.length ≤ 80 ∧ PySy52.answers l = (M.fresh 1).played cs := by
  unfold PySy52.answers_asked at h
  split at h
  · cases h
  · next raw e =>
    obtain ⟨cs, h1, h2, h3⟩ := calls_good _ _ _ (fun z hz => (hb z hz).1) e
    rw [Bool.and_eq_true, Bool.and_eq_true, Bool.and_eq_true, Bool.and_eq_true] at h
    have hl : cs.length ≤ 80 := by
      have q : decide (raw.length ≤ 80) = true := h.1.1.1.2
      rw [h1, List.length_map] at q
      exact of_decide_eq_true q
    refine ⟨cs, h2, h3, hl, ?_⟩
    unfold PySy52.answers PySy52.calls
    rw [e]
    dsimp only
    rw [h1, whole_all cs h3]
    refine (played_is cs (sim_fresh 1) h3 fun c hc z hz => (hb z ?_).2).symm
    rw [h2]
    exact List.mem_flatten.mpr ⟨c, hc, hz⟩
end
end Wa
/-! ## The walk: how the mirror lies in the heap -/
namespace Wa
open PySem PySem.Spec PyProof.Rows L2
/-! ### pairs of lists -/
theorem pair_at {α β : Type} {F : α → β → Prop} : ∀ {xs : List α} {ys : List β}, Paired F xs ys → ∀ {i : Nat} {y : β}, ys[i]? = some y → ∃ x, xs[i]? = some x ∧ F x y
  | _, _, .nil, i, y, h => by simp at h
  | _, _, .cons r _, 0, y, h => by
    have e := Option.some.inj h
    subst e
    exact ⟨_, rfl, r⟩
  | _, _, .cons _ t, i + 1, y, h => pair_at t h
theorem pair_to {α β : Type} {F : α → β → Prop} : ∀ {xs : List α} {ys : List β}, Paired F xs ys → ∀ {i : Nat} {x : α}, xs[i]? = some x → ∃ y, ys[i]? = some y ∧ F x y
  | _, _, .nil, i, y, h => by simp at h
  | _, _, .cons r _, 0, y, h => by
    have e := Option.some.inj h
    subst e
    exact ⟨_, rfl, r⟩
  | _, _, .cons _ t, i + 1, y, h => pair_to t h
theorem pair_app {α β : Type} {F : α → β → Prop} : ∀ {xs us : List α} {ys vs : List β}, Paired F xs ys → Paired F us vs → Paired F (xs ++ us) (ys ++ vs)
  | _, _, _, _, .nil, q => q
  | _, _, _, _, .cons r t, q => .cons r (pair_app t q)
theorem pair_set {α β : Type} {F : α → β → Prop} {y : β} : ∀ {xs : List α} {ys : List β} {i : Nat} {x : α}, Paired F xs ys → xs[i]? = some x → F x y → Paired F xs (ys.set i y)
  | _, _, i, x, .nil, h, _ => by simp at h
  | _, _, 0, x, .cons _ t, h, g => by
    have e := Option.some.inj h
    subst e
    exact .cons g t
  | _, _, i + 1, x, .cons r t, h, g => .cons r (pair_set t h g)
theorem pair_keep {α β : Type} {F G : α → β → Prop} : ∀ {xs : List α} {ys : List β}, Paired F xs ys → (∀ x ∈ xs, ∀ y, F x y → G x y) → Paired G xs ys
  | _, _, .nil, _ => .nil
  | _, _, .cons r t, h => .cons (h _ (List.mem_cons_self ..) _ r) (pair_keep t fun x hx => h x (List.mem_cons_of_mem _ hx))
theorem take_one {α : Type} : ∀ {l : List α} {i : Nat} {x : α}, l[i]? = some x → l.take (i + 1) = l.take i ++ [x]
  | [], i, x, h => by simp at h
  | a :: l, 0, x, h => by
    have e : a = x := Option.some.inj h
    subst e
    rfl
  | a :: l, i + 1, x, h => by
    have ih := take_one (l := l) (i := i) (x := x) h
    show a :: l.take (i + 1) = a :: l.take i ++ [x]
    rw [ih]
    rfl
theorem map_at {α β : Type} {f : α → β} {l : List α} {i : Nat} {y : β} (h : (l.map f)[i]? = some y) : ∃ x, l[i]? = some x ∧ y = f x := by
  rw [List.getElem?_map] at h
  cases e : l[i]? with
  | none =>
    rw [e] at h
    cases h
  | some x =>
    rw [e] at h
    exact ⟨x, rfl, (Option.some.inj h).symm⟩
theorem at_map {α β : Type} {f : α → β} {l : List α} {i : Nat} {x : α} (h : l[i]? = some x) : (l.map f)[i]? = some (f x) := by
  rw [List.getElem?_map, h]
  rfl
/-! ### what stands at an address -/
def P2 (H : Hp) (t : Addr) (q : Int × Int) : Prop := H t = some (.tup [.int q.1, .int q.2])
def P3 (H : Hp) (t : Addr) (q : Int × Int × Int) : Prop := H t = some (.tup [.int q.1, .int q.2.1, .int q.2.2])
def Ints (H : Hp) (a : Addr) (ns : List Int) : Prop := H a = some (.lst (ns.map V.int))
def Pairs (H : Hp) (a : Addr) (o : Order) : Prop := ∃ ps : List Addr, H a = some (.lst (ps.map V.ref)) ∧ Paired (P2 H) ps o
def Trips (H : Hp) (a : Addr) (o : List (Int × Int × Int)) : Prop := ∃ ps : List Addr, H a = some (.lst (ps.map V.ref)) ∧ Paired (P3 H) ps o
def Orders (H : Hp) (a : Addr) (os : List Order) : Prop := ∃ qs : List Addr, H a = some (.lst (qs.map V.ref)) ∧ Paired (Pairs H) qs os
/-- all but the cells cs stands -/
def But (cs : List Addr) (H H' : Hp) : Prop := ∀ b o, H b = some o → b ∉ cs → H' b = some o
theorem But.refl (cs : List Addr) (H : Hp) : But cs H H := fun _ _ h _ => h
theorem But.trans {cs : List Addr} {H H1 H2 : Hp} (a : But cs H H1) (b : But cs H1 H2) : But cs H H2 := fun c o h n => b c o (a c o h n) n
theorem But.of {cs : List Addr} {H H' : Hp} (s : Same H H') : But cs H H' := fun b o h _ => s b o h
theorem But.one {cs : List Addr} {H : Hp} {a : Addr} {o : HO} (h : a ∈ cs) : But cs H (upd H a o) := fun b u e n => by
  rw [upd_ne (fun z => n (by rw [z]; exact h))]
  exact e
theorem Same.new {H : Hp} {p : Addr} {o : HO} (h : H p = none) : Same H (upd H p o) := fun b u e => by
  rw [upd_ne (ne_of_none e h)]
  exact e
/-- a store at an address that was new since H -/
theorem Same.put {H H' : Hp} {p : Addr} {o : HO} (s : Same H H') (h : H p = none) : Same H (upd H' p o) := fun b u e => by
  rw [upd_ne (ne_of_none e h)]
  exact s b u e
/-- a tuple stays when lists are written -/
theorem tup_keeps {H H' : Hp} {cs : List Addr} (l : ∀ c ∈ cs, ∃ xs, H c = some (.lst xs)) (b : But cs H H') {t : Addr} {xs : List V} (h : H t = some (.tup xs)) : H' t = some (.tup xs) :=
  b t _ h fun m => by
    obtain ⟨ys, e⟩ := l t m
    rw [h] at e
    cases e
theorem Pairs.same {H H' : Hp} {a : Addr} {o : Order} (s : Same H H') (h : Pairs H a o) : Pairs H' a o := by
  obtain ⟨ps, h1, h2⟩ := h
  exact ⟨ps, s _ _ h1, h2.mono fun _ _ q => s _ _ q⟩
theorem Trips.same {H H' : Hp} {a : Addr} {o : List (Int × Int × Int)} (s : Same H H') (h : Trips H a o) : Trips H' a o := by
  obtain ⟨ps, h1, h2⟩ := h
  exact ⟨ps, s _ _ h1, h2.mono fun _ _ q => s _ _ q⟩
theorem Orders.same {H H' : Hp} {a : Addr} {os : List Order} (s : Same H H') (h : Orders H a os) : Orders H' a os := by
  obtain ⟨ps, h1, h2⟩ := h
  exact ⟨ps, s _ _ h1, h2.mono fun _ _ q => Pairs.same s q⟩
theorem Ints.same {H H' : Hp} {a : Addr} {ns : List Int} (s : Same H H') (h : Ints H a ns) : Ints H' a ns := s _ _ h
theorem Pairs.seq {K : PySem.W.Frag} {H : Hp} {a : Addr} {o : Order} (h : Pairs H a o) : ∃ xs, SqL K H a xs := by
  obtain ⟨ps, h1, _⟩ := h
  exact ⟨_, SqL.of h1⟩
/-! ### the airport -/
def sF (sh : Int) (R P L W : Addr) : List (Str × V) := [("shift", .int sh), ("rooms", .ref R), ("planes", .ref P), ("landed", .ref L), ("waiting", .ref W)]
structure SkyL (C : Addr) (H : Hp) (a dx R P L W : Addr) (rs : List Addr) (m : M) : Prop where
  obj : H a = some (.ins C dx (sF m.shift R P L W))
  rooms : H R = some (.lst (rs.map V.ref))
  rows : Paired (fun r row => Ints H r row) rs m.rooms
  planes : Trips H P m.planes
  landed : Pairs H L m.landed
  waits : Ints H W m.waiting
  apart : (R :: P :: L :: W :: rs).Nodup
/-- the airport m stands at a; its lists are cs -/
def Sky (C : Addr) (H : Hp) (a : Addr) (m : M) (cs : List Addr) : Prop := ∃ dx R P L W rs, cs = R :: P :: L :: W :: rs ∧ SkyL C H a dx R P L W rs m
theorem Sky.same {C : Addr} {H H' : Hp} {a : Addr} {m : M} {cs : List Addr} (s : Same H H') (h : Sky C H a m cs) : Sky C H' a m cs := by
  obtain ⟨dx, R, P, L, W, rs, e, S⟩ := h
  exact ⟨dx, R, P, L, W, rs, e, s _ _ S.obj, s _ _ S.rooms, S.rows.mono fun _ _ q => s _ _ q, S.planes.same s, S.landed.same s, s _ _ S.waits, S.apart⟩
theorem pair_lists {H : Hp} : ∀ {rs : List Addr} {rows : List (List Int)}, Paired (fun r row => Ints H r row) rs rows → ∀ r ∈ rs, ∃ xs, H r = some (.lst xs)
  | _, _, .nil, r, h => absurd h List.not_mem_nil
  | _, _, .cons q t, r, h => by
    rcases List.mem_cons.mp h with e | h
    · subst e
      exact ⟨_, q⟩
    · exact pair_lists t r h
theorem SkyL.lists {C : Addr} {H : Hp} {a dx R P L W : Addr} {rs : List Addr} {m : M} (S : SkyL C H a dx R P L W rs m) : ∀ c ∈ R :: P :: L :: W :: rs, ∃ xs, H c = some (.lst xs) := by
  intro c hc
  obtain ⟨ps, hp, _⟩ := S.planes
  obtain ⟨ls, hl, _⟩ := S.landed
  rcases List.mem_cons.mp hc with rfl | hc
  · exact ⟨_, S.rooms⟩
  rcases List.mem_cons.mp hc with rfl | hc
  · exact ⟨_, hp⟩
  rcases List.mem_cons.mp hc with rfl | hc
  · exact ⟨_, hl⟩
  rcases List.mem_cons.mp hc with rfl | hc
  · exact ⟨_, S.waits⟩
  exact pair_lists S.rows c hc
theorem Sky.lists {C : Addr} {H : Hp} {a : Addr} {m : M} {cs : List Addr} (h : Sky C H a m cs) : ∀ c ∈ cs, ∃ xs, H c = some (.lst xs) := by
  obtain ⟨dx, R, P, L, W, rs, rfl, S⟩ := h
  exact S.lists
def Has (m : M) (n : Int) : Prop := 0 ≤ n ∧ n < (m.planes.length : Int)
/-! ### the fields -/
theorem lk_here {k : Str} {v : V} {r : List (Str × V)} : List.lookup k ((k, v) :: r) = some v := by
  have e : (k == k) = true := beq_self_eq_true k
  simp only [List.lookup, e]
theorem lk_past {k g : Str} {v : V} {r : List (Str × V)} (h : (k == g) = false) : List.lookup k ((g, v) :: r) = List.lookup k r := by
  simp only [List.lookup, h]
theorem put_here {f : Str} {v x : V} {r : List (Str × V)} : putF f v ((f, x) :: r) = (f, v) :: r := if_pos rfl
theorem put_past {f g : Str} {v x : V} {r : List (Str × V)} (h : ¬ g = f) : putF f v ((g, x) :: r) = (g, x) :: putF f v r := if_neg h
section
variable (sh : Int) (R P L W : Addr)
theorem sF_shift : (sF sh R P L W).lookup ("shift" : Str) = some (.int sh) := lk_here
theorem sF_rooms : (sF sh R P L W).lookup ("rooms" : Str) = some (.ref R) := (lk_past (by decide +kernel)).trans lk_here
theorem sF_planes : (sF sh R P L W).lookup ("planes" : Str) = some (.ref P) := (lk_past (by decide +kernel)).trans ((lk_past (by decide +kernel)).trans lk_here)
theorem sF_landed : (sF sh R P L W).lookup ("landed" : Str) = some (.ref L) := (lk_past (by decide +kernel)).trans ((lk_past (by decide +kernel)).trans ((lk_past (by decide +kernel)).trans lk_here))
theorem sF_waiting : (sF sh R P L W).lookup ("waiting" : Str) = some (.ref W) := (lk_past (by decide +kernel)).trans ((lk_past (by decide +kernel)).trans ((lk_past (by decide +kernel)).trans ((lk_past (by decide +kernel)).trans lk_here)))
theorem sF_no {k : Str} (h : (k == ("shift" : Str)) = false ∧ (k == ("rooms" : Str)) = false ∧ (k == ("planes" : Str)) = false ∧ (k == ("landed" : Str)) = false ∧ (k == ("waiting" : Str)) = false) : (sF sh R P L W).lookup k = none :=
  (lk_past h.1).trans ((lk_past h.2.1).trans ((lk_past h.2.2.1).trans ((lk_past h.2.2.2.1).trans ((lk_past h.2.2.2.2).trans rfl))))
theorem sF_new : putF "waiting" (.ref W) (putF "landed" (.ref L) (putF "planes" (.ref P) (putF "rooms" (.ref R) (putF "shift" (.int sh) [])))) = sF sh R P L W := by
  show putF "waiting" (.ref W) (putF "landed" (.ref L) (putF "planes" (.ref P) (putF "rooms" (.ref R) [("shift", .int sh)]))) = _
  rw [put_past (by decide +kernel)]
  show putF "waiting" (.ref W) (putF "landed" (.ref L) (putF "planes" (.ref P) [("shift", .int sh), ("rooms", .ref R)])) = _
  rw [put_past (by decide +kernel), put_past (by decide +kernel)]
  show putF "waiting" (.ref W) (putF "landed" (.ref L) [("shift", .int sh), ("rooms", .ref R), ("planes", .ref P)]) = _
  rw [put_past (by decide +kernel), put_past (by decide +kernel), put_past (by decide +kernel)]
  show putF "waiting" (.ref W) [("shift", .int sh), ("rooms", .ref R), ("planes", .ref P), ("landed", .ref L)] = _
  rw [put_past (by decide +kernel), put_past (by decide +kernel), put_past (by decide +kernel), put_past (by decide +kernel)]
  rfl
end
/-! ### the text by places, and what the top has written -/
def top (i : Nat) : Stmt := PySem.Challenge.pw_whirlingair_s01_answers.main.body.getD i (.Pass ⟨0, 0, 0, 0⟩)
/-- a def that stands under a name of the module -/
def Fn (P : Program) (w : World) (K : PySem.W.Frag) (mg : Str → Option Value) (base : Heap) (k : Nat) (x : Str) (ps : List Str) (sp : Sp) : Prop :=
  ∃ f fd, mg x = some (.ref f) ∧ PySem.W.keepIn K (.ref f) = true ∧ Binds K fd ps [] ∧ FnOk P w K mg base CX0 k f fd ps sp
/-- a method of the class -/
def Mt (P : Program) (w : World) (K : PySem.W.Frag) (mg : Str → Option Value) (base : Heap) (C : Addr) (k : Nat) (x : Str) (ps : List Str) (sp : Sp) : Prop :=
  ∃ f fd, Meth K C x f ∧ Binds K fd ps [] ∧ FnOk P w K mg base CX0 k f fd ps sp
section
variable {X : Cx} {k : Nat} {x m : Str} {ps : List Str} {sp : Sp} {p pos apos : Pos} {e o : Expr} {es : List Expr} {t : TA} {ta : TE} {C : Addr}
theorem pe_fn (F : Fn X.prog X.w X.K X.mg X.base k x ps sp) (hr : Room k X.A) (hg : Gl X x) (ha : PA X (e :: es) t) (hdb : (x == ("__debug__" : Str)) = false := by decide)
    (he : starEach (e :: es) X.env = (false, eval e X.env) :: starEach es X.env := by rfl) (hpl : (backTo pos (starEach es X.env)).any (·.1) = false := by rfl) : PE X (.Call (.Name x p) (e :: es) [] pos) (tCall sp [] E0 t) := by
  obtain ⟨f, fd, hm, hk, hb, G⟩ := F
  exact pe_call G hr hg hm hk hb .nil pass0 ha hdb he hpl
theorem pe_mt {pl : Sem Bool} (F : Mt X.prog X.w X.K X.mg X.base C k m ps sp) (hr : Room k X.A) (he : PE X o ta) (c : Cls X.K C) (ha : PA X (e :: es) t)
    (hst : starEach (e :: es) X.env = (false, eval e X.env) :: starEach es X.env := by rfl) (hpl : (backTo pos (starEach es X.env)).any (·.1) = false := by rfl)
    (ht : eval (.Call (.Attribute o m apos) (e :: es) [] pos) X.env = (do
      let ov ← eval o X.env
      standAt apos.atName
      let (f, first) ← holding [ov] (getMethod ov m pl)
      callWith pos f first (backTo pos (starEach (e :: es) X.env)) (backToKw pos (keywordEach [] X.env))) := by rfl) :
    PE X (.Call (.Attribute o m apos) (e :: es) [] pos) (tMeth C m sp [] E0 ta t) := by
  obtain ⟨f, fd, hm, hb, G⟩ := F
  exact pe_meth he c hm G hr hb .nil pass0 ha hst hpl ht
end
structure Txt (K : PySem.W.Frag) (mg : Str → Option Value) (C B : Addr) : Prop where
  cl : Cls K C
  nS : NoAttr K C "shift"
  nR : NoAttr K C "rooms"
  nP : NoAttr K C "planes"
  nL : NoAttr K C "landed"
  nW : NoAttr K C "waiting"
  gSky : mg "Sky" = some (.ref C)
  gLen : mg "len" = none
  gMax : mg "max" = none
  gMin : mg "min" = none
  gAbs : mg "abs" = none
  gSum : mg "sum" = none
  gAny : mg "any" = none
  gInt : mg "int" = none
  gDict : mg "dict" = none
  gList : mg "list" = none
  gRange : mg "range" = none
  gNoOne : ∃ t, mg "NO_ONE_WAITS" = some (.int (-4) t)
  gNoPlan : ∃ t, mg "NO_PLAN" = some (.int (-6) t)
  gClasses : ∃ t, mg "CLASSES" = some (.int 4 t)
  gMostShift : ∃ t, mg "MOST_SHIFT" = some (.int 3 t)
  gMostRoom : ∃ t, mg "MOST_ROOM" = some (.int 9 t)
  gLatest : ∃ t, mg "LATEST" = some (.int 1000 t)
  gMostWaiting : ∃ t, mg "MOST_WAITING" = some (.int 8 t)
  gMostCame : ∃ t, mg "MOST_THAT_CAME" = some (.int 60 t)
  gNotLet : ∃ t, mg "NOT_LET" = some (.int (-1) t)
  gNoSuch : ∃ t, mg "NO_SUCH" = some (.int (-2) t)
  gNotNow : ∃ t, mg "NOT_NOW" = some (.int (-4) t)
  gFull : ∃ t, mg "FULL" = some (.int (-5) t)
  gBegins : ∃ t, mg "BEGINS" = some (.int 0 t)
  gRoom : ∃ t, mg "ROOM" = some (.int 1 t)
  gComes : ∃ t, mg "COMES" = some (.int 2 t)
  gGoes : ∃ t, mg "GOES" = some (.int 3 t)
  gLands : ∃ t, mg "LANDS" = some (.int 4 t)
  gPlan : ∃ t, mg "PLAN" = some (.int 5 t)
  gCame : ∃ t, mg "CAME" = some (.int 6 t)
  gMay : ∃ t, mg "MAY" = some (.int 7 t)
  gWhy : ∃ t, mg "WHY" = some (.int 8 t)
  gMany : ∃ t, mg "MANY" = some (.int 9 t)
  gFirst : ∃ t, mg "SHIFT_AT_FIRST" = some (.int 1 t)
  gBehind : mg "BEHIND" = some (.ref B)
  tB : ∀ H : Hp, SqT K H B ([1, 3, 3, 1, 0, 0, 0, 2, 1, 0, 0].map V.int)
theorem pe_const {X : Cx} {x : Str} {z : Int} {pos : Pos} (h : ∃ t, X.mg x = some (.int z t)) (hg : Gl X x := by rfl) (hd : (x == ("__debug__" : Str)) = false := by decide) : PE X (.Name x pos) (tC (.int z)) := by
  obtain ⟨t, h⟩ := h
  exact pe_glob hg h ⟨t, rfl⟩ hd
/-! ### the first method -/
abbrev sClear : Stmt := inClass (top 35) 6
def spClear (C : Addr) : Sp := fun vs H Q _ => ∃ (a : Addr) (m : M) (cs : List Addr) (x t n : Int), vs = [.ref a, .int x, .int t, .int n] ∧ Sky C H a m cs ∧ m.Wf ∧ Has m x ∧ Has m n ∧ Q (.int (m.clear x t n)) H
section
variable {P : Program} {w : World} {K : PySem.W.Frag} {mg : Str → Option Value} {base : Heap} {C B : Addr}
theorem plane_at {H : Hp} {m : M} {p : Addr} (h : Trips H p m.planes) {n : Int} (hn : Has m n) : ∃ (xs : List V) (t : Addr), H p = some (.lst xs) ∧ atI xs n = some (.ref t) ∧ P3 H t (m.plane n) := by
  obtain ⟨ps, h1, h2⟩ := h
  obtain ⟨j, rfl⟩ : ∃ j : Nat, n = (j : Int) := ⟨n.toNat, by have := hn.1; omega⟩
  have hj : j < m.planes.length := by have := hn.2; omega
  obtain ⟨t, ht, q⟩ := pair_at h2 (List.getElem?_eq_getElem hj)
  refine ⟨_, t, h1, at_of (j := j) rfl (at_map ht), ?_⟩
  have e : m.plane (j : Int) = m.planes[j] := by
    unfold M.plane
    rw [Int.toNat_natCast, List.getD_eq_getElem?_getD, List.getElem?_eq_getElem hj]
    rfl
  rw [e]
  exact q
theorem cls_of {m : M} (W : m.Wf) {n : Int} (hn : Has m n) : 0 ≤ (m.plane n).1 ∧ (m.plane n).1 < 4 := by
  have hj : n.toNat < m.planes.length := by have := hn.1; have := hn.2; omega
  unfold M.plane
  rw [List.getD_eq_getElem?_getD, List.getElem?_eq_getElem hj]
  exact W.pc _ (List.getElem_mem hj)
theorem room_at {H : Hp} {m : M} {R : Addr} {rs : List Addr} (W : m.Wf) (hr : Paired (fun r row => Ints H r row) rs m.rooms) {a b : Int} (ha : 0 ≤ a ∧ a < 4) (hb : 0 ≤ b ∧ b < 4) :
    ∃ (r : Addr) (ys : List V), atI (rs.map V.ref) a = some (.ref r) ∧ H r = some (.lst ys) ∧ atI ys b = some (.int (m.room a b)) := by
  obtain ⟨i, rfl⟩ : ∃ j : Nat, a = (j : Int) := ⟨a.toNat, by omega⟩
  obtain ⟨j, rfl⟩ : ∃ j : Nat, b = (j : Int) := ⟨b.toNat, by omega⟩
  have hi : i < m.rooms.length := by rw [W.rl]; omega
  have hj : j < m.rooms[i].length := by rw [W.rr _ (List.getElem_mem hi)]; omega
  obtain ⟨r, h1, h2⟩ := pair_at hr (List.getElem?_eq_getElem hi)
  refine ⟨r, _, at_of (j := i) rfl (at_map h1), h2, at_of (j := j) rfl (at_map ?_)⟩
  have e1 : m.rooms.getD i [] = m.rooms[i] := by
    rw [List.getD_eq_getElem?_getD, List.getElem?_eq_getElem hi]
    rfl
  unfold M.room
  rw [Int.toNat_natCast, Int.toNat_natCast, e1, List.getD_eq_getElem?_getD, List.getElem?_eq_getElem hj]
  rfl
theorem scClear : FnScope ["self", "ahead", "time", "number"] ["self", "ahead", "time", "number"] (defScope sClear) := ⟨rfl, rfl, rfl, by decide +kernel, rfl, by decide +kernel, by decide +kernel⟩
theorem ok_clear {f : Addr} {fd : FuncData} (F : Fun K "clear_from" "Sky.clear_from" sClear f fd) (T : Txt K mg C B) : FnOk P w K mg base CX0 1 f fd ["self", "ahead", "time", "number"] (spClear C) := by
  refine F.ok scClear (fun vs H Q E h => ?_) (fun cdv A outer s H vs Q E hr h => ?_)
  · obtain ⟨a, m, cs, x, t, n, rfl, _⟩ := h
    rfl
  · obtain ⟨a, m, cs, x, t, n, rfl, ⟨dx, R, P, L, W, rs, rfl, S⟩, Wf, hx, hn, k⟩ := h
    refine ⟨_, pss_one (ps_ret (pe_op op_add (pv 2) (pe_ix ix_list (pe_ix ix_list (pe_fld (pv 0) rfl) (pe_ix ix_tup (pe_ix ix_list (pe_fld (pv 0) rfl) (pv 1) (fun _ _ => rfl)) pe_int (fun _ _ => rfl)) (fun _ _ => rfl))
      (pe_ix ix_tup (pe_ix ix_list (pe_fld (pv 0) rfl) (pv 3) (fun _ _ => rfl)) pe_int (fun _ _ => rfl)) (fun _ _ => rfl)))), ?_⟩
    obtain ⟨xs, tx, p1, p2, p3⟩ := plane_at S.planes hx
    obtain ⟨ys, tn, q1, q2, q3⟩ := plane_at S.planes hn
    obtain ⟨r, zs, r1, r2, r3⟩ := room_at (R := R) Wf S.rows (cls_of Wf hx) (cls_of Wf hn)
    refine ⟨_, rfl, ?_⟩
    refine ⟨_, rfl, a, C, dx, _, _, rfl, S.obj, T.cl, T.nR, sF_rooms _ _ _ _ _, ?_⟩
    refine ⟨_, rfl, a, C, dx, _, _, rfl, S.obj, T.cl, T.nP, sF_planes _ _ _ _ _, _, rfl, P, _, _, _, rfl, rfl, SqL.of p1, p2, ?_⟩
    refine ⟨tx, _, 0, _, rfl, rfl, SqT.of p3, at_of (j := 0) rfl rfl, ?_⟩
    refine ⟨R, _, _, _, rfl, rfl, SqL.of S.rooms, r1, ?_⟩
    refine ⟨_, rfl, a, C, dx, _, _, rfl, S.obj, T.cl, T.nP, sF_planes _ _ _ _ _, _, rfl, P, _, _, _, rfl, rfl, SqL.of q1, q2, ?_⟩
    refine ⟨tn, _, 0, _, rfl, rfl, SqT.of q3, at_of (j := 0) rfl rfl, ?_⟩
    refine ⟨r, _, _, _, rfl, rfl, SqL.of r2, r3, ?_⟩
    refine ⟨_, _, rfl, rfl, ?_⟩
    exact k
end
end Wa
/-! ## The walk: the methods of the class -/
namespace Wa
open PySem PySem.Spec PyProof.Rows L2
/-! ### data, for == and index -/
def dI (ns : List Int) : List PyData := ns.map PyData.int
def d2 (q : Int × Int) : PyData := .tuple [.int q.1, .int q.2]
def d3 (q : Int × Int × Int) : PyData := .tuple [.int q.1, .int q.2.1, .int q.2.2]
def dO (o : Order) : PyData := .list (o.map d2)
theorem ints_dp {K : PySem.W.Frag} {H : Hp} : ∀ ns : List Int, DpAll K H (ns.map V.int) (dI ns)
  | [] => .nil
  | n :: r => .cons (.int n) (ints_dp r)
theorem refs_dp {K : PySem.W.Frag} {H : Hp} {α : Type} {F : Addr → α → Prop} {f : α → PyData} (h : ∀ p q, F p q → Dp K H (.ref p) (f q)) : ∀ {ps : List Addr} {o : List α}, Paired F ps o → DpAll K H (ps.map V.ref) (o.map f)
  | _, _, .nil => .nil
  | _, _, .cons r t => .cons (h _ _ r) (refs_dp h t)
theorem dp2 {K : PySem.W.Frag} {H : Hp} {p : Addr} {q : Int × Int} (h : P2 H p q) : Dp K H (.ref p) (d2 q) := .tup (SqT.of h) (.cons (.int _) (.cons (.int _) .nil))
theorem dp3 {K : PySem.W.Frag} {H : Hp} {p : Addr} {q : Int × Int × Int} (h : P3 H p q) : Dp K H (.ref p) (d3 q) := .tup (SqT.of h) (.cons (.int _) (.cons (.int _) (.cons (.int _) .nil)))
theorem dpI {K : PySem.W.Frag} {H : Hp} {a : Addr} {ns : List Int} (h : Ints H a ns) : Dp K H (.ref a) (.list (dI ns)) := .lst (SqL.of h) (ints_dp ns)
theorem dpO {K : PySem.W.Frag} {H : Hp} {a : Addr} {o : Order} (h : Pairs H a o) : Dp K H (.ref a) (dO o) := by
  obtain ⟨ps, h1, h2⟩ := h
  exact .lst (SqL.of h1) (refs_dp (fun _ _ q => dp2 q) h2)
theorem dpT {K : PySem.W.Frag} {H : Hp} {a : Addr} {o : List (Int × Int × Int)} (h : Trips H a o) : Dp K H (.ref a) (.list (o.map d3)) := by
  obtain ⟨ps, h1, h2⟩ := h
  exact .lst (SqL.of h1) (refs_dp (fun _ _ q => dp3 q) h2)
theorem dpOs {K : PySem.W.Frag} {H : Hp} {a : Addr} {os : List Order} (h : Orders H a os) : Dp K H (.ref a) (.list (os.map dO)) := by
  obtain ⟨ps, h1, h2⟩ := h
  exact .lst (SqL.of h1) (refs_dp (fun _ _ q => dpO q) h2)
theorem dp0 {K : PySem.W.Frag} {H : Hp} {a : Addr} (h : H a = some (.lst [])) : Dp K H (.ref a) (.list []) := .lst (SqL.of h) .nil
theorem all_lay {α : Type} {f : α → PyData} {k : Nat} (h : ∀ x, (f x).canLay0 = true ∧ (f x).depth ≤ k) : ∀ l : List α, PyData.canLayAll0 (l.map f) = true ∧ PyData.depthAll (l.map f) ≤ k
  | [] => ⟨by simp only [List.map_nil, PyData.canLayAll0], by simp only [List.map_nil, PyData.depthAll]; exact Nat.zero_le _⟩
  | x :: l => by
    obtain ⟨h1, h2⟩ := all_lay h l
    obtain ⟨g1, g2⟩ := h x
    constructor
    · simp only [List.map_cons, PyData.canLayAll0, h1, g1, Bool.and_true]
    · simp only [List.map_cons, PyData.depthAll]
      omega
theorem list_lay {α : Type} {f : α → PyData} {k : Nat} (h : ∀ x, (f x).canLay0 = true ∧ (f x).depth ≤ k) (l : List α) : (PyData.list (l.map f)).canLay0 = true ∧ (PyData.list (l.map f)).depth ≤ k + 1 := by
  obtain ⟨h1, h2⟩ := all_lay h l
  constructor
  · simp only [PyData.canLay0]
    exact h1
  · simp only [PyData.depth]
    omega
theorem lay2 (q : Int × Int) : (d2 q).canLay0 = true ∧ (d2 q).depth ≤ 1 := by
  constructor
  · simp [d2, PyData.canLay0, PyData.canLayAll0]
  · simp [d2, PyData.depth, PyData.depthAll]
theorem lay3 (q : Int × Int × Int) : (d3 q).canLay0 = true ∧ (d3 q).depth ≤ 1 := by
  constructor
  · simp [d3, PyData.canLay0, PyData.canLayAll0]
  · simp [d3, PyData.depth, PyData.depthAll]
theorem layI (q : Int) : (PyData.int q).canLay0 = true ∧ (PyData.int q).depth ≤ 0 := by
  constructor
  · simp [PyData.canLay0]
  · simp [PyData.depth]
theorem shaped_of {d : PyData} {k : Nat} (h : d.canLay0 = true ∧ d.depth ≤ k) (hk : k ≤ 64) : SeqAt.shaped d = true := by
  unfold SeqAt.shaped
  rw [h.1, decide_eq_true (Nat.le_trans h.2 hk)]
  rfl
theorem shI (ns : List Int) : SeqAt.shaped (.list (dI ns)) = true := shaped_of (list_lay (k := 0) layI ns) (by decide)
theorem sh0 : SeqAt.shaped (.list []) = true := shI []
theorem shT (o : List (Int × Int × Int)) : SeqAt.shaped (.list (o.map d3)) = true := shaped_of (list_lay (k := 1) lay3 o) (by decide)
theorem shO (o : Order) : SeqAt.shaped (dO o) = true := shaped_of (list_lay (k := 1) lay2 o) (by decide)
theorem sh2 (q : Int × Int) : SeqAt.shaped (d2 q) = true := shaped_of (lay2 q) (by decide)
theorem shOs (os : List Order) : SeqAt.shaped (.list (os.map dO)) = true := shaped_of (list_lay (k := 2) (list_lay (k := 1) lay2) os) (by decide)
theorem eqv_nil (xs : List PyData) : PyData.eqv (.list xs) (.list []) = xs.isEmpty := by
  cases xs with
  | nil => simp [PyData.eqv, PyData.eqvAll]
  | cons _ _ => simp [PyData.eqv, PyData.eqvAll]
theorem eqv2 (p q : Int × Int) : PyData.eqv (d2 p) (d2 q) = decide (p = q) := by
  unfold d2
  simp only [PyData.eqv, PyData.eqvAll, Bool.and_true]
  obtain ⟨a, b⟩ := p
  obtain ⟨c, d⟩ := q
  rw [Bool.eq_iff_iff]
  simp
/-! ### lists of whole numbers -/
theorem all_flat : ∀ ns : List Int, (ns.map V.int).all flatV = true
  | [] => rfl
  | _ :: r => by
    rw [List.map_cons, List.all_cons, all_flat r]
    rfl
theorem in_ints (n : Int) : ∀ ns : List Int, inV (.int n) (ns.map V.int) = ns.contains n
  | [] => rfl
  | k :: r => by
    have ih := in_ints n r
    unfold inV at ih ⊢
    rw [List.map_cons, List.any_cons, List.contains_cons, ih]
    refine congrArg (fun z => z || _) ?_
    show (k == n) = (n == k)
    rw [Bool.eq_iff_iff, beq_iff_eq, beq_iff_eq]
    exact ⟨fun h => h.symm, fun h => h.symm⟩
theorem erase_at : ∀ {ns : List Int} {n : Int}, n ∈ ns → ∃ j, ns[j]? = some n ∧ (∀ i : Nat, i < j → ns[i]? ≠ some n) ∧ ns.eraseIdx j = ns.erase n
  | k :: r, n, h => by
    by_cases e : k = n
    · subst e
      exact ⟨0, rfl, fun i hi => absurd hi (Nat.not_lt_zero _), by rw [List.erase_cons_head]; rfl⟩
    · have h' : n ∈ r := by
        rcases List.mem_cons.mp h with q | q
        · exact absurd q.symm e
        · exact q
      obtain ⟨j, h1, h2, h3⟩ := erase_at h'
      refine ⟨j + 1, h1, fun i hi => ?_, ?_⟩
      · match i, hi with
        | 0, _ => exact fun q => e (Option.some.inj q)
        | i + 1, hi => exact h2 i (by omega)
      · rw [List.erase_cons_tail (by simp [e]), ← h3]
        rfl
theorem lt_line {n : Nat} (h : n < 16777216) : n < sizeLine := by
  rw [sizeLine_eq]
  exact h
theorem le_line {n : Nat} (h : n ≤ 16777216) : n ≤ sizeLine := by
  rw [sizeLine_eq]
  exact h
section
variable {C : Addr} {H H' : Hp} {a dx R P L W : Addr} {rs : List Addr} {m : M} {X : List Addr}
/-- some of the airport's lists are written: the rest stands -/
theorem SkyL.tup (S : SkyL C H a dx R P L W rs m) (hx : ∀ c ∈ X, c ∈ R :: P :: L :: W :: rs) (b : But X H H') {t : Addr} {xs : List V} (h : H t = some (.tup xs)) : H' t = some (.tup xs) :=
  tup_keeps (fun c hc => S.lists c (hx c hc)) b h
theorem SkyL.obj' (S : SkyL C H a dx R P L W rs m) (hx : ∀ c ∈ X, c ∈ R :: P :: L :: W :: rs) (b : But X H H') : H' a = some (.ins C dx (sF m.shift R P L W)) :=
  b _ _ S.obj fun z => by
    obtain ⟨xs, e⟩ := S.lists a (hx a z)
    rw [S.obj] at e
    cases e
theorem SkyL.rows' (S : SkyL C H a dx R P L W rs m) (b : But X H H') (h : ∀ r ∈ rs, r ∉ X) : Paired (fun r row => Ints H' r row) rs m.rooms := pair_keep S.rows fun r hr _ q => b _ _ q (h r hr)
theorem SkyL.trips' (S : SkyL C H a dx R P L W rs m) (hx : ∀ c ∈ X, c ∈ R :: P :: L :: W :: rs) (b : But X H H') {ps : List Addr} {o : List (Int × Int × Int)} (h : Paired (P3 H) ps o) : Paired (P3 H') ps o := h.mono fun _ _ q => S.tup hx b q
theorem SkyL.pairs' (S : SkyL C H a dx R P L W rs m) (hx : ∀ c ∈ X, c ∈ R :: P :: L :: W :: rs) (b : But X H H') {ps : List Addr} {o : Order} (h : Paired (P2 H) ps o) : Paired (P2 H') ps o := h.mono fun _ _ q => S.tup hx b q
theorem SkyL.planes' (S : SkyL C H a dx R P L W rs m) (hx : ∀ c ∈ X, c ∈ R :: P :: L :: W :: rs) (b : But X H H') (h : P ∉ X) : Trips H' P m.planes := by
  obtain ⟨ps, hp, pp⟩ := S.planes
  exact ⟨ps, b _ _ hp h, S.trips' hx b pp⟩
theorem SkyL.landed' (S : SkyL C H a dx R P L W rs m) (hx : ∀ c ∈ X, c ∈ R :: P :: L :: W :: rs) (b : But X H H') (h : L ∉ X) : Pairs H' L m.landed := by
  obtain ⟨ps, hp, pp⟩ := S.landed
  exact ⟨ps, b _ _ hp h, S.pairs' hx b pp⟩
end
theorem But.mem {X Y : List Addr} {H H' : Hp} (b : But X H H') (h : ∀ c ∈ X, c ∈ Y) : But Y H H' := fun p o e n => b p o e fun z => n (h p z)
/-! ### the defs -/
abbrev sInit : Stmt := inClass (top 35) 0
abbrev sSetRoom : Stmt := inClass (top 35) 1
abbrev sAddPlane : Stmt := inClass (top 35) 2
abbrev sWhyNot : Stmt := inClass (top 35) 3
abbrev sLeave : Stmt := inClass (top 35) 4
abbrev sLand : Stmt := inClass (top 35) 5
abbrev sRank : Stmt := inClass (top 35) 7
def spWhyNot (C : Addr) : Sp := fun vs H Q _ => ∃ (a : Addr) (m : M) (cs : List Addr) (n : Int), vs = [.ref a, .int n] ∧ Sky C H a m cs ∧ Q (.int (m.whyNot n)) H
def spRank (C : Addr) : Sp := fun vs H Q _ => ∃ (a : Addr) (m : M) (cs : List Addr) (n : Int), vs = [.ref a, .int n] ∧ Sky C H a m cs ∧ m.Wf ∧ ∀ H', Same H H' → Q (.int (m.rank n)) H'
def spLeave (C : Addr) : Sp := fun vs H Q _ => ∃ (a : Addr) (m : M) (cs : List Addr) (n : Int), vs = [.ref a, .int n] ∧ Sky C H a m cs ∧ n ∈ m.waiting ∧ ∀ H', Sky C H' a (m.leave n) cs → But cs H H' → Q (.int ((m.leave n).waiting.length : Int)) H'
def spLand (C : Addr) : Sp := fun vs H Q _ => ∃ (a : Addr) (m : M) (cs : List Addr) (n t : Int), vs = [.ref a, .int n, .int t] ∧ Sky C H a m cs ∧ m.Wf ∧ n ∈ m.waiting ∧ ∀ H', Sky C H' a (m.land n t) cs → But cs H H' → Q .non H'
def spAddPlane (C : Addr) : Sp := fun vs H Q _ => ∃ (a : Addr) (m : M) (cs : List Addr) (k f l : Int), vs = [.ref a, .int k, .int f, .int l] ∧ Sky C H a m cs ∧ m.Wf ∧ ∀ H', Sky C H' a (m.addPlane k f l).1 cs → But cs H H' → Q (.int (m.addPlane k f l).2) H'
def spSetRoom (C : Addr) : Sp := fun vs H Q _ => ∃ (a : Addr) (m : M) (cs : List Addr) (x y z : Int), vs = [.ref a, .int x, .int y, .int z] ∧ Sky C H a m cs ∧ m.Wf ∧ 0 ≤ x ∧ 0 ≤ y ∧ ∀ H', Sky C H' a (m.setRoom x y z).1 cs → But cs H H' → Q (.int (m.setRoom x y z).2) H'
def spInit (C : Addr) : Sp := fun vs H Q _ => ∃ (p dx : Addr) (k : Int), vs = [.ref p, .int k] ∧ H p = some (.ins C dx []) ∧
  ∀ (H' : Hp) (cs : List Addr), Sky C H' p (M.fresh k) cs → (∀ c ∈ cs, H c = none) → (∀ b o, H b = some o → b ≠ p → H' b = some o) → Q .non H'
theorem tYes_then {σ : L2.St} {H : Hp} {A B : Hp → Prop} (h : A H) : tYes σ H (fun b H3 => if b = true then A H3 else B H3) := by
  show if true = true then A H else B H
  rw [if_pos rfl]
  exact h
theorem upd_none {H : Hp} {a p : Addr} {o : HO} (h : upd H a o p = none) : p ≠ a ∧ H p = none := by
  by_cases e : p = a
  · rw [e, upd_same] at h
    cases h
  · rw [upd_ne e] at h
    exact ⟨e, h⟩
theorem rows_set {H H' : Hp} {row : List Int} : ∀ {rs : List Addr} {rows : List (List Int)} {i : Nat} {r : Addr}, Paired (fun r row => Ints H r row) rs rows → rs.Nodup → rs[i]? = some r → (∀ q, q ≠ r → ∀ row, Ints H q row → Ints H' q row) → Ints H' r row → Paired (fun r row => Ints H' r row) rs (rows.set i row)
  | _, _, i, r, .nil, _, h, _, _ => by simp at h
  | _, _, 0, r, .cons q t, nd, h, g, n => by
    have e := Option.some.inj h
    subst e
    obtain ⟨n1, _⟩ := List.nodup_cons.mp nd
    exact .cons n (pair_keep t fun x hx y f => g x (fun z => n1 (by rw [← z]; exact hx)) y f)
  | _, _, i + 1, r, .cons q t, nd, h, g, n => by
    obtain ⟨n1, n2⟩ := List.nodup_cons.mp nd
    exact .cons (g _ (fun z => n1 (by rw [z]; exact List.mem_of_getElem? h)) _ q) (rows_set t n2 h g n)
section
variable {P : Program} {w : World} {K : PySem.W.Frag} {mg : Str → Option Value} {base : Heap} {C B : Addr}
theorem scWhyNot : FnScope ["self", "number"] ["self", "number"] (defScope sWhyNot) := ⟨rfl, rfl, rfl, by decide +kernel, rfl, by decide +kernel, by decide +kernel⟩
theorem ok_whyNot {f : Addr} {fd : FuncData} (F : Fun K "why_not" "Sky.why_not" sWhyNot f fd) (T : Txt K mg C B) : FnOk P w K mg base CX0 1 f fd ["self", "number"] (spWhyNot C) := by
  refine F.ok scWhyNot (fun vs H Q E h => ?_) (fun cdv A outer s H vs Q E hr h => ?_)
  · obtain ⟨a, m, cs, n, rfl, _⟩ := h
    rfl
  · obtain ⟨a, m, cs, n, rfl, ⟨dx, R, P, L, W, rs, rfl, S⟩, k⟩ := h
    refine ⟨_, pss_cons (ps_if (pt_cmpR op_ge (pv 1) (pe_callB call_len_seq (by rfl) T.gLen PySem.boot_len (pa_cons (pe_fld (pv 0) rfl) pa_nil)) (nomark _)) (pss_one (ps_ret (pe_const T.gNoSuch))) pss_nil)
      (pss_cons (ps_if (pt_cmpR op_notIn_seq (pv 1) (pe_fld (pv 0) rfl) (by rfl)) (pss_one (ps_ret (pe_const T.gNotNow))) pss_nil)
      (pss_one (ps_ret pe_int))), ?_⟩
    obtain ⟨ps, hp, pp⟩ := S.planes
    refine ⟨_, rfl, _, rfl, a, C, dx, _, _, rfl, S.obj, T.cl, T.nP, sF_planes _ _ _ _ _, P, _, rfl, .inl (SqL.of hp), _, _, rfl, rfl, _, rfl, ?_⟩
    have e : (ps.map V.ref).length = m.planes.length := by rw [List.length_map, pp.length]
    rw [e]
    unfold M.whyNot at k
    by_cases c : n ≥ (m.planes.length : Int)
    · rw [if_pos c] at k
      rw [decide_eq_true c]
      exact iteT k
    · rw [if_neg c] at k
      rw [decide_eq_false c]
      refine iteF ?_
      refine ⟨_, rfl, _, rfl, a, C, dx, _, _, rfl, S.obj, T.cl, T.nW, sF_waiting _ _ _ _ _, W, _, rfl, .inl (SqL.of S.waits), rfl, all_flat _, _, rfl, ?_⟩
      rw [in_ints]
      cases d : m.waiting.contains n with
      | false =>
        rw [d, if_pos rfl] at k
        exact k
      | true =>
        rw [d, if_neg (fun z => Bool.noConfusion z)] at k
        exact k
theorem scLeave : FnScope ["self", "number"] ["self", "number"] (defScope sLeave) := ⟨rfl, rfl, rfl, by decide +kernel, rfl, by decide +kernel, by decide +kernel⟩
theorem ok_leave {f : Addr} {fd : FuncData} (F : Fun K "leave" "Sky.leave" sLeave f fd) (T : Txt K mg C B) : FnOk P w K mg base CX0 1 f fd ["self", "number"] (spLeave C) := by
  refine F.ok scLeave (fun vs H Q E h => ?_) (fun cdv A outer s H vs Q E hr h => ?_)
  · obtain ⟨a, m, cs, n, rfl, _⟩ := h
    rfl
  · obtain ⟨a, m, cs, n, rfl, ⟨dx, R, P, L, W, rs, rfl, S⟩, hn, k⟩ := h
    refine ⟨_, pss_cons (ps_expr (pe_bm PySem.F.plainAttrs_list PySem.F.slot_list_remove PySem.F.type_list_remove mt_remove (pe_fld (pv 0) rfl) (pa_cons (pv 1) pa_nil)))
      (pss_one (ps_ret (pe_callB call_len_seq (by rfl) T.gLen PySem.boot_len (pa_cons (pe_fld (pv 0) rfl) pa_nil)))), ?_⟩
    obtain ⟨j, j1, j2, j3⟩ := erase_at hn
    refine ⟨_, rfl, a, C, dx, _, _, rfl, S.obj, T.cl, T.nW, sF_waiting _ _ _ _ _, .inl ⟨rfl, _, SqL.of S.waits⟩, _, rfl, W, m.waiting, n, j, rfl, rfl, S.waits, j1, j2, ?_⟩
    have ap := S.apart
    have b : But [W] H (upd H W (.lst ((m.waiting.eraseIdx j).map V.int))) := But.one (by simp)
    have hx : ∀ c ∈ [W], c ∈ R :: P :: L :: W :: rs := by simp
    have S' : SkyL C (upd H W (.lst ((m.waiting.eraseIdx j).map V.int))) a dx R P L W rs (m.leave n) := by
      simp only [List.nodup_cons, List.mem_cons, not_or] at ap
      obtain ⟨⟨_, _, rW, _⟩, ⟨_, pW, _⟩, ⟨lW, _⟩, wr, _⟩ := ap
      refine ⟨S.obj' hx b, (upd_ne rW).trans S.rooms, S.rows' b fun r hr => ?_, S.planes' hx b (by simp [pW]), S.landed' hx b (by simp [lW]), ?_, S.apart⟩
      · intro z
        rw [List.mem_singleton.mp z] at hr
        exact wr hr
      · show _ = some (HO.lst ((m.waiting.erase n).map V.int))
        rw [upd_same, j3]
    refine ⟨_, rfl, a, C, dx, _, _, rfl, S'.obj, T.cl, T.nW, sF_waiting _ _ _ _ _, W, _, rfl, .inl (SqL.of S'.waits), ?_⟩
    rw [List.length_map]
    exact k _ ⟨dx, R, P, L, W, rs, rfl, S'⟩ (b.mem hx)
theorem scLand : FnScope ["self", "number", "time"] ["self", "number", "time"] (defScope sLand) := ⟨rfl, rfl, rfl, by decide +kernel, rfl, by decide +kernel, by decide +kernel⟩
theorem ok_land {f : Addr} {fd : FuncData} (F : Fun K "land" "Sky.land" sLand f fd) (T : Txt K mg C B) : FnOk P w K mg base CX0 1 f fd ["self", "number", "time"] (spLand C) := by
  refine F.ok scLand (fun vs H Q E h => ?_) (fun cdv A outer s H vs Q E hr h => ?_)
  · obtain ⟨a, m, cs, n, t, rfl, _⟩ := h
    rfl
  · obtain ⟨a, m, cs, n, t, rfl, ⟨dx, R, P, L, W, rs, rfl, S⟩, Wf, hn, k⟩ := h
    refine ⟨_, pss_cons (ps_expr (pe_bm PySem.F.plainAttrs_list PySem.F.slot_list_remove PySem.F.type_list_remove mt_remove (pe_fld (pv 0) rfl) (pa_cons (pv 1) pa_nil)))
      (pss_one (ps_expr (pe_bm PySem.F.plainAttrs_list PySem.F.slot_list_append PySem.F.type_list_append mt_append (pe_fld (pv 0) rfl) (pa_cons (pe_tup (pa_cons (pv 1) (pa_cons (pv 2) pa_nil))) pa_nil)))), ?_⟩
    obtain ⟨j, j1, j2, j3⟩ := erase_at hn
    have ap := S.apart
    simp only [List.nodup_cons, List.mem_cons, not_or] at ap
    obtain ⟨⟨_, rL, rW, _⟩, ⟨pL, pW, _⟩, ⟨lW, lr⟩, wr, _⟩ := ap
    refine ⟨_, rfl, a, C, dx, _, _, rfl, S.obj, T.cl, T.nW, sF_waiting _ _ _ _ _, .inl ⟨rfl, _, SqL.of S.waits⟩, _, rfl, W, m.waiting, n, j, rfl, rfl, S.waits, j1, j2, ?_⟩
    have b : But [W] H (upd H W (.lst ((m.waiting.eraseIdx j).map V.int))) := But.one (by simp)
    have hx : ∀ c ∈ [W], c ∈ R :: P :: L :: W :: rs := by simp
    obtain ⟨ls, hl, pl⟩ := S.landed
    have hl1 := (upd_ne (H := H) (o := .lst ((m.waiting.eraseIdx j).map V.int)) lW).trans hl
    refine ⟨_, rfl, a, C, dx, _, _, rfl, S.obj' hx b, T.cl, T.nL, sF_landed _ _ _ _ _, .inl ⟨rfl, _, SqL.of hl1⟩, _, rfl, _, rfl, (by show 2 ≤ sizeLine; decide), fun p hp => ?_⟩
    have s2 := Same.new (o := .tup [.int n, .int t]) hp
    have hl2 := s2 _ _ hl1
    have ll := Wf.ll
    have lp := Wf.pl
    refine ⟨L, _, _, rfl, rfl, hl2, small1000 (by rw [List.length_map, pl.length]; omega), ?_⟩
    refine k _ ⟨dx, R, P, L, W, rs, rfl, ?_⟩ ?_
    · have b2 : But [W, L] H (upd (upd (upd H W (.lst ((m.waiting.eraseIdx j).map V.int))) p (.tup [.int n, .int t])) L (.lst (ls.map V.ref ++ [V.ref p]))) :=
        ((b.mem (by simp)).trans (But.of s2)).trans (But.one (by simp))
      have hx2 : ∀ c ∈ [W, L], c ∈ R :: P :: L :: W :: rs := by simp
      refine ⟨S.obj' hx2 b2, b2 _ _ S.rooms (by simp [rL, rW]), S.rows' b2 fun r hr => ?_, S.planes' hx2 b2 (by simp [pL, pW]), ⟨ls ++ [p], ?_, ?_⟩, ?_, S.apart⟩
      · intro z
        rcases List.mem_cons.mp z with z | z
        · rw [z] at hr
          exact wr hr
        · rw [List.mem_singleton.mp z] at hr
          exact lr hr
      · rw [upd_same, List.map_append]
        rfl
      · refine pair_app (S.pairs' hx2 b2 pl) (.cons ?_ .nil)
        show _ = some (HO.tup [.int n, .int t])
        rw [upd_ne (ne_of_none hl1 hp).symm]
        exact upd_same
      · show _ = some (HO.lst ((m.waiting.erase n).map V.int))
        rw [upd_ne (fun z => lW z.symm)]
        have e : upd H W (.lst ((m.waiting.eraseIdx j).map V.int)) W = some (HO.lst ((m.waiting.erase n).map V.int)) := by rw [upd_same, j3]
        exact s2 _ _ e
    · exact ((b.mem hx).trans (But.of s2)).trans (But.one (by simp))
theorem scAddPlane : FnScope ["self", "kind", "first", "last", "number"] ["self", "kind", "first", "last"] (defScope sAddPlane) := ⟨rfl, rfl, rfl, by decide +kernel, rfl, by decide +kernel, by decide +kernel⟩
theorem ok_addPlane {f : Addr} {fd : FuncData} (F : Fun K "add_plane" "Sky.add_plane" sAddPlane f fd) (T : Txt K mg C B) : FnOk P w K mg base CX0 1 f fd ["self", "kind", "first", "last"] (spAddPlane C) := by
  refine F.ok scAddPlane (fun vs H Q E h => ?_) (fun cdv A outer s H vs Q E hr h => ?_)
  · obtain ⟨a, m, cs, k', f', l', rfl, _⟩ := h
    rfl
  · obtain ⟨a, m, cs, kd, fi, la, rfl, ⟨dx, R, P, L, W, rs, rfl, S⟩, Wf, k⟩ := h
    refine ⟨_, pss_cons (ps_if (PW.pt (pw_or (pt_cmpR op_ge (pv 1) (pe_const T.gClasses) (nomark _)) (pw_or (pt_cmpR op_lt (pv 3) (pv 2) (nomark _)) (pw_or1 (pt_cmpR op_gt (pv 3) (pe_const T.gLatest) (nomark _))))))
        (pss_one (ps_ret (pe_const T.gNotLet))) pss_nil)
      (pss_cons (ps_if (PW.pt (pw_or (pt_cmpR op_ge (pe_callB call_len_seq (by rfl) T.gLen PySem.boot_len (pa_cons (pe_fld (pv 0) rfl) pa_nil)) (pe_const T.gMostWaiting) (nomark _))
          (pw_or1 (pt_cmpR op_ge (pe_callB call_len_seq (by rfl) T.gLen PySem.boot_len (pa_cons (pe_fld (pv 0) rfl) pa_nil)) (pe_const T.gMostCame) (nomark _)))))
        (pss_one (ps_ret (pe_const T.gFull))) pss_nil)
      (pss_cons (ps_set (i := 4) scAddPlane.nd rfl (Or.inl rfl) (pe_callB call_len_seq (by rfl) T.gLen PySem.boot_len (pa_cons (pe_fld (pv 0) rfl) pa_nil)))
      (pss_cons (ps_expr (pe_bm PySem.F.plainAttrs_list PySem.F.slot_list_append PySem.F.type_list_append mt_append (pe_fld (pv 0) rfl) (pa_cons (pe_tup (pa_cons (pv 1) (pa_cons (pv 2) (pa_cons (pv 3) pa_nil)))) pa_nil)))
      (pss_cons (ps_expr (pe_bm PySem.F.plainAttrs_list PySem.F.slot_list_append PySem.F.type_list_append mt_append (pe_fld (pv 0) rfl) (pa_cons (pv 4) pa_nil)))
      (pss_one (ps_ret (pv 4))))))), ?_⟩
    have same : Sky C H a m (R :: P :: L :: W :: rs) := ⟨dx, R, P, L, W, rs, rfl, S⟩
    unfold M.addPlane at k
    refine ⟨_, rfl, _, _, rfl, rfl, _, rfl, ?_⟩
    by_cases c1 : kd ≥ 4 ∨ la < fi ∨ la > 1000
    · rw [if_pos c1] at k
      have kk := k H same (But.refl _ _)
      by_cases d1 : kd ≥ 4
      · rw [decide_eq_true d1]
        exact iteT (iteT kk)
      · rw [decide_eq_false d1]
        refine iteF ⟨_, rfl, _, rfl, _, _, rfl, rfl, _, rfl, ?_⟩
        by_cases d2 : la < fi
        · rw [decide_eq_true d2]
          exact iteT (iteT kk)
        · rw [decide_eq_false d2]
          refine iteF ⟨_, rfl, _, _, rfl, rfl, _, rfl, ?_⟩
          rw [decide_eq_true (show 1000 < la by omega)]
          exact iteT kk
    · rw [if_neg c1] at k
      rw [decide_eq_false (show ¬ 4 ≤ kd by omega)]
      refine iteF ⟨_, rfl, _, rfl, _, _, rfl, rfl, _, rfl, ?_⟩
      rw [decide_eq_false (show ¬ la < fi by omega)]
      refine iteF ⟨_, rfl, _, _, rfl, rfl, _, rfl, ?_⟩
      rw [decide_eq_false (show ¬ 1000 < la by omega)]
      refine iteF ?_
      obtain ⟨ps, hp, pp⟩ := S.planes
      have e1 : (m.waiting.map V.int).length = m.waiting.length := List.length_map ..
      have e2 : (ps.map V.ref).length = m.planes.length := by rw [List.length_map, pp.length]
      refine ⟨_, rfl, a, C, dx, _, _, rfl, S.obj, T.cl, T.nW, sF_waiting _ _ _ _ _, W, _, rfl, .inl (SqL.of S.waits), _, _, rfl, rfl, _, rfl, ?_⟩
      rw [e1]
      have full : (m.waiting.length : Int) ≥ 8 ∨ (m.planes.length : Int) ≥ 60 → Q (.int (-5)) H := fun c => by
        rw [if_pos c] at k
        exact k H same (But.refl _ _)
      by_cases d1 : (8 : Int) ≤ (m.waiting.length : Int)
      · rw [decide_eq_true d1]
        exact iteT (iteT (full (.inl d1)))
      · rw [decide_eq_false d1]
        refine iteF ⟨_, rfl, a, C, dx, _, _, rfl, S.obj, T.cl, T.nP, sF_planes _ _ _ _ _, P, _, rfl, .inl (SqL.of hp), _, _, rfl, rfl, _, rfl, ?_⟩
        rw [e2]
        by_cases d2 : (60 : Int) ≤ (m.planes.length : Int)
        · rw [decide_eq_true d2]
          exact iteT (full (.inr d2))
        · rw [decide_eq_false d2]
          refine iteF ?_
          rw [if_neg (show ¬ ((m.waiting.length : Int) ≥ 8 ∨ (m.planes.length : Int) ≥ 60) by omega)] at k
          have ap := S.apart
          simp only [List.nodup_cons, List.mem_cons, not_or] at ap
          obtain ⟨⟨rP, _, rW, _⟩, ⟨pL, pW, pr⟩, ⟨lW, _⟩, wr, _⟩ := ap
          refine ⟨_, rfl, a, C, dx, _, _, rfl, S.obj, T.cl, T.nP, sF_planes _ _ _ _ _, P, _, rfl, .inl (SqL.of hp), ?_⟩
          rw [e2]
          refine ⟨_, rfl, a, C, dx, _, _, rfl, S.obj, T.cl, T.nP, sF_planes _ _ _ _ _, .inl ⟨rfl, _, SqL.of hp⟩, _, rfl, _, rfl, _, rfl, (by show 3 ≤ sizeLine; decide), fun p np => ?_⟩
          have s1 := Same.new (o := .tup [.int kd, .int fi, .int la]) np
          have hp1 := s1 _ _ hp
          refine ⟨P, _, _, rfl, rfl, hp1, small1000 (by rw [e2]; omega), ?_⟩
          have b1 : But [P] H (upd (upd H p (.tup [.int kd, .int fi, .int la])) P (.lst (ps.map V.ref ++ [V.ref p]))) := (But.of s1).trans (But.one (by simp))
          have hx1 : ∀ c ∈ [P], c ∈ R :: P :: L :: W :: rs := by simp
          have hw1 := b1 _ _ S.waits (by simp [Ne.symm pW])
          refine ⟨_, rfl, a, C, dx, _, _, rfl, S.obj' hx1 b1, T.cl, T.nW, sF_waiting _ _ _ _ _, .inl ⟨rfl, _, SqL.of hw1⟩, _, rfl, W, _, _, rfl, rfl, hw1, small1000 (by rw [e1]; have := Wf.wl; omega), ?_⟩
          have b2 : But [P, W] H (upd (upd (upd H p (.tup [.int kd, .int fi, .int la])) P (.lst (ps.map V.ref ++ [V.ref p]))) W (.lst (m.waiting.map V.int ++ [V.int (m.planes.length : Int)]))) := (b1.mem (by simp)).trans (But.one (by simp))
          have hx2 : ∀ c ∈ [P, W], c ∈ R :: P :: L :: W :: rs := by simp
          refine ⟨_, rfl, k _ ⟨dx, R, P, L, W, rs, rfl, ?_⟩ (b2.mem hx2)⟩
          refine ⟨S.obj' hx2 b2, b2 _ _ S.rooms (by simp [rP, rW]), S.rows' b2 fun r hr => ?_, ⟨ps ++ [p], ?_, ?_⟩, S.landed' hx2 b2 (by simp [Ne.symm pL, lW]), ?_, S.apart⟩
          · intro z
            rcases List.mem_cons.mp z with z | z
            · rw [z] at hr
              exact pr hr
            · rw [List.mem_singleton.mp z] at hr
              exact wr hr
          · rw [upd_ne pW, upd_same, List.map_append]
            rfl
          · refine pair_app (S.trips' hx2 b2 pp) (.cons ?_ .nil)
            show _ = some (HO.tup [.int kd, .int fi, .int la])
            rw [upd_ne (ne_of_none S.waits np).symm, upd_ne (ne_of_none hp np).symm]
            exact upd_same
          · show _ = some (HO.lst ((m.waiting ++ [(m.planes.length : Int)]).map V.int))
            rw [upd_same, List.map_append]
            rfl
theorem scSetRoom : FnScope ["self", "ahead", "behind", "much"] ["self", "ahead", "behind", "much"] (defScope sSetRoom) := ⟨rfl, rfl, rfl, by decide +kernel, rfl, by decide +kernel, by decide +kernel⟩
theorem ok_setRoom {f : Addr} {fd : FuncData} (F : Fun K "set_room" "Sky.set_room" sSetRoom f fd) (T : Txt K mg C B) : FnOk P w K mg base CX0 1 f fd ["self", "ahead", "behind", "much"] (spSetRoom C) := by
  refine F.ok scSetRoom (fun vs H Q E h => ?_) (fun cdv A outer s H vs Q E hr h => ?_)
  · obtain ⟨a, m, cs, x, y, z, rfl, _⟩ := h
    rfl
  · obtain ⟨a, m, cs, x, y, z, rfl, ⟨dx, R, P, L, W, rs, rfl, S⟩, Wf, x0, y0, k⟩ := h
    refine ⟨_, pss_cons (ps_if (PW.pt (pw_or (pt_cmpR op_ge (pv 1) (pe_const T.gClasses) (nomark _)) (pw_or (pt_cmpR op_ge (pv 2) (pe_const T.gClasses) (nomark _)) (pw_or (pt_cmpR op_lt (pv 3) pe_int (nomark _)) (pw_or1 (pt_cmpR op_gt (pv 3) (pe_const T.gMostRoom) (nomark _)))))))
        (pss_one (ps_ret (pe_const T.gNotLet))) pss_nil)
      (pss_cons (ps_if (pt_cmpR (op_neD hr.units) (pe_fld (pv 0) rfl) (pe_lst pa_nil) (nomark _)) (pss_one (ps_ret (pe_const T.gNotNow))) pss_nil)
      (pss_cons (ps_asg (pv 3) (pg_sub (pe_ix ix_list (pe_fld (pv 0) rfl) (pv 1) (fun _ _ => rfl)) (pv 2) set_list))
      (pss_one (ps_ret pe_int)))), ?_⟩
    have same : ∀ H', Same H H' → Sky C H' a m (R :: P :: L :: W :: rs) := fun H' s => Sky.same s ⟨dx, R, P, L, W, rs, rfl, S⟩
    unfold M.setRoom at k
    refine ⟨_, rfl, _, _, rfl, rfl, _, rfl, ?_⟩
    by_cases c1 : x ≥ 4 ∨ y ≥ 4 ∨ z < 1 ∨ z > 9
    · rw [if_pos c1] at k
      have kk := k H (same H (Same.refl H)) (But.refl _ _)
      by_cases d1 : x ≥ 4
      · rw [decide_eq_true d1]
        exact iteT (iteT kk)
      · rw [decide_eq_false d1]
        refine iteF ⟨_, rfl, _, _, rfl, rfl, _, rfl, ?_⟩
        by_cases d2 : y ≥ 4
        · rw [decide_eq_true d2]
          exact iteT (iteT kk)
        · rw [decide_eq_false d2]
          refine iteF ⟨_, rfl, _, _, rfl, rfl, _, rfl, ?_⟩
          by_cases d3 : z < 1
          · rw [decide_eq_true d3]
            exact iteT (iteT kk)
          · rw [decide_eq_false d3]
            refine iteF ⟨_, rfl, _, _, rfl, rfl, _, rfl, ?_⟩
            rw [decide_eq_true (show 9 < z by omega)]
            exact iteT kk
    · rw [if_neg c1] at k
      rw [decide_eq_false (show ¬ 4 ≤ x by omega)]
      refine iteF ⟨_, rfl, _, _, rfl, rfl, _, rfl, ?_⟩
      rw [decide_eq_false (show ¬ 4 ≤ y by omega)]
      refine iteF ⟨_, rfl, _, _, rfl, rfl, _, rfl, ?_⟩
      rw [decide_eq_false (show ¬ z < 1 by omega)]
      refine iteF ⟨_, rfl, _, _, rfl, rfl, _, rfl, ?_⟩
      rw [decide_eq_false (show ¬ 9 < z by omega)]
      refine iteF ?_
      refine ⟨_, rfl, a, C, dx, _, _, rfl, S.obj, T.cl, T.nP, sF_planes _ _ _ _ _, Nat.zero_le _, fun p np => ?_⟩
      have s1 := Same.new (o := .lst []) np
      have S1 : Sky C (upd H p (.lst [])) a m (R :: P :: L :: W :: rs) := same _ s1
      refine ⟨_, _, dpT (S.planes.same s1), dp0 upd_same, shT _, sh0, _, rfl, ?_⟩
      rw [eqv_nil]
      cases e : m.planes with
      | cons q l =>
        rw [if_pos (by rw [e]; exact fun z => nomatch z)] at k
        exact k _ S1 (But.of s1)
      | nil =>
        rw [if_neg (by rw [e]; exact fun z => z rfl)] at k
        refine iteF ?_
        obtain ⟨i, rfl⟩ : ∃ j : Nat, x = (j : Int) := ⟨x.toNat, by omega⟩
        obtain ⟨j, rfl⟩ : ∃ j : Nat, y = (j : Int) := ⟨y.toNat, by omega⟩
        have hi : i < m.rooms.length := by rw [Wf.rl]; omega
        have hj : j < m.rooms[i].length := by rw [Wf.rr _ (List.getElem_mem hi)]; omega
        obtain ⟨r, h1, h2⟩ := pair_at S.rows (List.getElem?_eq_getElem hi)
        have h2' : upd H p (.lst []) r = some (.lst (m.rooms[i].map V.int)) := s1 _ _ h2
        have ix : ixN (m.rooms[i].map V.int).length (j : Int) = some j := by
          unfold ixN
          rw [if_pos (show (0 : Int) ≤ (j : Int) by omega), List.length_map, if_pos (show (j : Int) < (m.rooms[i].length : Int) by omega), Int.toNat_natCast]
        refine ⟨_, rfl, _, rfl, a, C, dx, _, _, rfl, s1 _ _ S.obj, T.cl, T.nR, sF_rooms _ _ _ _ _, _, rfl, R, _, _, _, rfl, rfl, SqL.of (s1 _ _ S.rooms), at_of (j := i) rfl (at_map h1), _, rfl, r, _, _, j, rfl, rfl, h2', ix, ?_⟩
        have mr : r ∈ rs := List.mem_of_getElem? h1
        have b : But [r] H (upd (upd H p (.lst [])) r (.lst ((m.rooms[i].map V.int).set j (.int z)))) := (But.of s1).trans (But.one (by simp))
        have hx : ∀ c ∈ [r], c ∈ R :: P :: L :: W :: rs := by simp [mr]
        refine k _ ⟨dx, R, P, L, W, rs, rfl, ?_⟩ (b.mem hx)
        have ap := S.apart
        simp only [List.nodup_cons, List.mem_cons, not_or] at ap
        obtain ⟨⟨_, _, _, Rr⟩, ⟨_, _, Pr⟩, ⟨_, Lr⟩, Wr, nd⟩ := ap
        have no : ∀ c, c ∉ rs → c ∉ [r] := fun c hc z => hc (by rw [List.mem_singleton.mp z]; exact mr)
        refine ⟨S.obj' hx b, b _ _ S.rooms (no _ Rr), ?_, S.planes' hx b (no _ Pr), S.landed' hx b (no _ Lr), b _ _ S.waits (no _ Wr), S.apart⟩
        rw [Int.toNat_natCast, Int.toNat_natCast]
        have eg : m.rooms.getD i [] = m.rooms[i] := by
          rw [List.getD_eq_getElem?_getD, List.getElem?_eq_getElem hi]
          rfl
        rw [eg]
        exact rows_set S.rows nd h1 (fun q hq row g => b _ _ g (by simp [hq])) (by
          show _ = some (HO.lst ((m.rooms[i].set j z).map V.int))
          rw [upd_same, List.map_set])
theorem scInit : FnScope ["self", "shift", "k"] ["self", "shift"] (defScope sInit) := ⟨rfl, rfl, rfl, by decide +kernel, rfl, by decide +kernel, by decide +kernel⟩
theorem ok_init {f : Addr} {fd : FuncData} (F : Fun K "__init__" "Sky.__init__" sInit f fd) (T : Txt K mg C B) : FnOk P w K mg base CX0 1 f fd ["self", "shift"] (spInit C) := by
  refine F.ok scInit (fun vs H Q E h => ?_) (fun cdv A outer s H vs Q E hr h => ?_)
  · obtain ⟨p, dx, k, rfl, _⟩ := h
    rfl
  · obtain ⟨a, dx, sh, rfl, ha, k⟩ := h
    refine ⟨_, pss_cons (ps_fld (pv 0) (pv 1) rfl)
      (pss_cons (ps_fld (pv 0) (pe_lc (own := [("k", 2)]) (g := gName 2) (tt := tYes) rfl scInit.nd (pi_range1 rfl T.gRange (pa_cons (pe_const T.gClasses) pa_nil)) (blkOk_by (N := ["self", "shift", "k"]) (sc := defScope sInit) (by decide +kernel))
          (fun _ _ _ _ _ => pg_name (i := 2) scInit.nd rfl (Or.inl rfl)) (fun _ _ _ _ _ => pts_nil) (fun _ _ _ _ _ => pe_op op_rep (pe_lst (pa_cons pe_int pa_nil)) (pe_const T.gClasses))) rfl)
      (pss_cons (ps_fld (pv 0) (pe_lst pa_nil) rfl)
      (pss_cons (ps_fld (pv 0) (pe_lst pa_nil) rfl)
      (pss_one (ps_fld (pv 0) (pe_lst pa_nil) rfl))))), ?_⟩
    refine ⟨_, rfl, _, rfl, a, C, dx, [], rfl, ha, T.cl, T.nS, (by show 0 < 1000; decide), ?_⟩
    -- self.rooms
    refine ⟨4, rfl, by decide, by decide, fun D hD => ?_⟩
    generalize hH1 : upd H a (.ins C dx (putF "shift" (.int sh) [])) = H1 at hD
    have a1 : H1 a = some (.ins C dx (putF "shift" (.int sh) [])) := by rw [← hH1, upd_same]
    have old1 : ∀ b o, H b = some o → b ≠ a → H1 b = some o := fun b o e n => by
      rw [← hH1, upd_ne n]
      exact e
    have free1 : ∀ b, H1 b = none → H b = none := fun b e => by
      rw [← hH1] at e
      exact (upd_none e).2
    refine lc_range (lo := 0) (n := 4) (fun i H' => Same H1 H' ∧ ∃ rs : List Addr, H' D = some (.lst (rs.map V.ref)) ∧ Paired (fun r row => Ints H' r row) rs (List.replicate i (List.replicate 4 1)) ∧ rs.Nodup ∧ D ∉ rs ∧ ∀ r ∈ rs, H1 r = none)
      ⟨Same.new hD, [], upd_same, .nil, List.Pairwise.nil, List.not_mem_nil, fun r h => absurd h List.not_mem_nil⟩ ?_ ?_
    · rintro i H' hi ⟨s1, rs, hDl, pr, nd, dn, fr⟩
      refine ⟨rfl, tYes_then ?_⟩
      refine ⟨(by show 1 ≤ sizeLine; decide), fun l hl => ?_⟩
      refine ⟨l, 4, _, rfl, rfl, upd_same, by decide, by decide, (by show 1 * 4 ≤ sizeLine; decide), fun p hp => ?_⟩
      have s2 : Same H' (upd H' l (.lst [.int 1])) := Same.new hl
      have s3 : Same H' (upd (upd H' l (.lst [.int 1])) p (.lst (List.replicate (4 : Int).toNat [V.int 1]).flatten)) := s2.trans (Same.new hp)
      have hp' : H' p = none := s2.free hp
      have nDp : D ≠ p := ne_of_none hDl hp'
      refine ⟨_, s3 _ _ hDl, small1000 (by rw [List.length_map, pr.length, List.length_replicate]; omega), ?_⟩
      have s4 : Same H1 (upd (upd (upd H' l (.lst [.int 1])) p (.lst (List.replicate (4 : Int).toNat [V.int 1]).flatten)) D (.lst (rs.map V.ref ++ [V.ref p]))) := Same.put (s1.trans s3) hD
      have np : p ∉ rs := fun z => by
        obtain ⟨xs, e⟩ := pair_lists pr p z
        rw [hp'] at e
        cases e
      refine ⟨s4, rs ++ [p], by rw [upd_same, List.map_append]; rfl, ?_, ?_, ?_, ?_⟩
      · rw [List.replicate_succ']
        refine pair_app (pair_keep pr fun r hr row q => ?_) (.cons ?_ .nil)
        · show _ = _
          rw [upd_ne (fun z => dn (by rw [← z]; exact hr))]
          exact s3 _ _ q
        · show _ = some (HO.lst ((List.replicate 4 (1 : Int)).map V.int))
          rw [upd_ne nDp.symm, upd_same]
          rfl
      · rw [List.nodup_append]
        refine ⟨nd, List.Pairwise.cons (fun _ z => absurd z List.not_mem_nil) List.Pairwise.nil, fun x hx y hy z => ?_⟩
        rw [List.mem_singleton.mp hy] at z
        exact np (by rw [← z]; exact hx)
      · intro z
        rcases List.mem_append.mp z with z | z
        · exact dn z
        · exact nDp (List.mem_singleton.mp z)
      · intro r hr
        rcases List.mem_append.mp hr with hr | hr
        · exact fr r hr
        · rw [List.mem_singleton.mp hr]
          exact s1.free hp'
    · rintro H2 ⟨s1, rs, hDl, pr, nd, dn, fr⟩
      have a2 := s1 _ _ a1
      refine ⟨_, rfl, a, C, dx, _, rfl, a2, T.cl, T.nR, (by show 1 < 1000; decide), ?_⟩
      -- self.planes
      refine ⟨Nat.zero_le _, fun Pl hP => ?_⟩
      refine ⟨_, rfl, a, C, dx, _, rfl, (upd_ne (upd_none hP).1.symm).trans upd_same, T.cl, T.nP, (by show 2 < 1000; decide), ?_⟩
      refine ⟨Nat.zero_le _, fun L hL => ?_⟩
      refine ⟨_, rfl, a, C, dx, _, rfl, (upd_ne (upd_none hL).1.symm).trans upd_same, T.cl, T.nL, (by show 3 < 1000; decide), ?_⟩
      refine ⟨Nat.zero_le _, fun W hW => ?_⟩
      refine ⟨_, rfl, a, C, dx, _, rfl, (upd_ne (upd_none hW).1.symm).trans upd_same, T.cl, T.nW, (by show 4 < 1000; decide), ?_⟩
      obtain ⟨pa, p2⟩ := upd_none hP
      obtain ⟨la, l1⟩ := upd_none hL
      obtain ⟨lp, l1⟩ := upd_none l1
      obtain ⟨_, l2⟩ := upd_none l1
      obtain ⟨wa, w1⟩ := upd_none hW
      obtain ⟨wl, w1⟩ := upd_none w1
      obtain ⟨_, w1⟩ := upd_none w1
      obtain ⟨wp, w1⟩ := upd_none w1
      obtain ⟨_, w2⟩ := upd_none w1
      have Da : D ≠ a := (ne_of_none a1 hD).symm
      have keep : ∀ b o, H2 b = some o → b ≠ a → upd (upd (upd (upd (upd (upd (upd H2 a (.ins C dx (putF "rooms" (.ref D) (putF "shift" (.int sh) [])))) Pl (.lst [])) a (.ins C dx (putF "planes" (.ref Pl) (putF "rooms" (.ref D) (putF "shift" (.int sh) []))))) L (.lst [])) a
          (.ins C dx (putF "landed" (.ref L) (putF "planes" (.ref Pl) (putF "rooms" (.ref D) (putF "shift" (.int sh) [])))))) W (.lst [])) a (.ins C dx (putF "waiting" (.ref W) (putF "landed" (.ref L) (putF "planes" (.ref Pl) (putF "rooms" (.ref D) (putF "shift" (.int sh) [])))))) b = some o := fun b o e n => by
        rw [upd_ne n, upd_ne (ne_of_none e w2), upd_ne n, upd_ne (ne_of_none e l2), upd_ne n, upd_ne (ne_of_none e p2), upd_ne n]
        exact e
      have ra : ∀ r ∈ rs, r ≠ a := fun r hr z => by
        have := fr r hr
        rw [z, a1] at this
        cases this
      refine k _ (D :: Pl :: L :: W :: rs) ⟨dx, D, Pl, L, W, rs, rfl, ?_⟩ ?_ ?_
      · refine ⟨upd_same.trans (congrArg (fun q => some (HO.ins C dx q)) (sF_new sh D Pl L W)), keep _ _ hDl Da, pair_keep pr fun r hr row q => keep _ _ q (ra r hr), ⟨[], ?_, .nil⟩, ⟨[], ?_, .nil⟩, ?_, ?_⟩
        · rw [upd_ne pa, upd_ne wp.symm, upd_ne pa, upd_ne lp.symm, upd_ne pa, upd_same]
          rfl
        · rw [upd_ne la, upd_ne wl.symm, upd_ne la, upd_same]
          rfl
        · show _ = some (HO.lst [])
          rw [upd_ne wa, upd_same]
        · have rn : ∀ r ∈ rs, ∀ q, H2 q = none → r ≠ q := fun r hr q e => by
            obtain ⟨xs, f⟩ := pair_lists pr r hr
            exact ne_of_none f e
          refine List.nodup_cons.mpr ⟨?_, List.nodup_cons.mpr ⟨?_, List.nodup_cons.mpr ⟨?_, List.nodup_cons.mpr ⟨fun z => rn W z W w2 rfl, nd⟩⟩⟩⟩
          · simp only [List.mem_cons, not_or]
            exact ⟨ne_of_none hDl p2, ne_of_none hDl l2, ne_of_none hDl w2, dn⟩
          · simp only [List.mem_cons, not_or]
            exact ⟨lp.symm, wp.symm, fun z => rn Pl z Pl p2 rfl⟩
          · simp only [List.mem_cons, not_or]
            exact ⟨wl.symm, fun z => rn L z L l2 rfl⟩
      · intro c hc
        rcases List.mem_cons.mp hc with rfl | hc
        · exact free1 _ hD
        rcases List.mem_cons.mp hc with rfl | hc
        · exact free1 _ (s1.free p2)
        rcases List.mem_cons.mp hc with rfl | hc
        · exact free1 _ (s1.free l2)
        rcases List.mem_cons.mp hc with rfl | hc
        · exact free1 _ (s1.free w2)
        exact free1 _ (fr c hc)
      · exact fun b o e n => keep b o (s1 _ _ (old1 b o e n)) n
end
end Wa
/-! ## The walk: comprehensions over pairs and whole numbers; rank_of, numbers_of, soonest, is_near -/
namespace Wa
open PySem PySem.Spec PyProof.Rows L2
theorem filter_take {α : Type} {p : α → Bool} {l : List α} {i : Nat} {x : α} (h : l[i]? = some x) : (l.take (i + 1)).filter p = (l.take i).filter p ++ (if p x = true then [x] else []) := by
  rw [take_one h, List.filter_append, List.filter_cons, List.filter_nil]
theorem take_len {α : Type} {l : List α} {i n : Nat} (h : l.length < n) : (l.take i).length < n := by
  rw [List.length_take]
  omega
/-- [e for a, b in l if c], l a list of pairs of whole numbers, e a whole number -/
theorem lc_pairsF {K : PySem.W.Frag} {tl te : TE} {tt : TT} {i1 i2 : Nat} {vs : List Nat} {σ : L2.St} {H : Hp} {Q : VK} {o : Order} {p : Int × Int → Bool} {f : Int × Int → Int} (len : o.length < 16777216)
    (hl : ∀ R : V → Hp → Prop, (∀ L H1, Same H H1 → Pairs H1 L o → R (.ref L) H1) → tl σ H R)
    (hw : ∀ x y, wipe (((wipe σ vs).set i1 (some x)).set i2 (some y)) vs = wipe σ vs)
    (hc : ∀ q H', q ∈ o → Same H H' → ∀ R : Bool → Hp → Prop, (∀ H4, Same H' H4 → R (p q) H4) → tt (((wipe σ vs).set i1 (some (.int q.1))).set i2 (some (.int q.2))) H' R)
    (ht : ∀ q H', q ∈ o → Same H H' → ∀ R : VK, (∀ H4, Same H' H4 → R (.int (f q)) H4) → te (((wipe σ vs).set i1 (some (.int q.1))).set i2 (some (.int q.2))) H' R)
    (hd : ∀ H' D, Same H H' → Ints H' D ((o.filter p).map f) → H D = none → Q (.ref D) H') :
    tLc (iList K tl) (gTup K 2 (gCons (gName i1) (gCons (gName i2) gNil))) tt te vs σ H Q := by
  refine hl _ fun L H1 s1 hp => ⟨L, rfl, ?_, fun D hD => ?_⟩
  · obtain ⟨ps, h1, _⟩ := hp
    exact ⟨_, SqL.of h1⟩
  · obtain ⟨ps, h1, h2⟩ := hp
    refine lc_list (K := K) (a := L) (xs := ps.map V.ref) (fun i H' => Same H1 H' ∧ Ints H' D (((o.take i).filter p).map f)) ⟨Same.new hD, upd_same⟩ (fun i H' _ ⟨s2, _⟩ => SqL.of (s2 _ _ h1)) ?_ ?_
    · rintro i x H' hi ⟨s2, hDl⟩
      obtain ⟨t, ht', rfl⟩ := map_at hi
      obtain ⟨q, hq, h3⟩ := pair_to h2 ht'
      have mq : q ∈ o := List.mem_of_getElem? hq
      refine ⟨t, _, rfl, SqT.of (s2 _ _ h3), rfl, _, _, rfl, _, _, rfl, rfl, hw _ _, ?_⟩
      refine hc q H' mq (s1.trans s2) _ fun H4 s3 => ?_
      have e := filter_take (p := p) hq
      cases c : p q with
      | false =>
        refine iteF ?_
        rw [c, if_neg Bool.false_ne_true, List.append_nil] at e
        rw [e]
        exact ⟨s2.trans s3, s3 _ _ hDl⟩
      | true =>
        rw [c, if_pos rfl] at e
        refine iteT (ht q H4 mq ((s1.trans s2).trans s3) _ fun H5 s4 => ?_)
        refine ⟨_, s4 _ _ (s3 _ _ hDl), lt_line ?_, Same.put ((s2.trans s3).trans s4) hD, ?_⟩
        · rw [List.length_map, List.length_map]
          exact Nat.lt_of_le_of_lt (List.length_filter_le ..) (take_len len)
        · rw [e]
          show _ = some (HO.lst _)
          rw [upd_same, List.map_append, List.map_append]
          rfl
    · rintro H' ⟨s2, hDl⟩
      rw [List.length_map, h2.length, List.take_length] at hDl
      exact hd H' D (s1.trans s2) hDl (s1.free hD)
theorem lc_pairs {K : PySem.W.Frag} {tl te : TE} {i1 i2 : Nat} {vs : List Nat} {σ : L2.St} {H : Hp} {Q : VK} {o : Order} {f : Int × Int → Int} (len : o.length < 16777216)
    (hl : ∀ R : V → Hp → Prop, (∀ L H1, Same H H1 → Pairs H1 L o → R (.ref L) H1) → tl σ H R)
    (hw : ∀ x y, wipe (((wipe σ vs).set i1 (some x)).set i2 (some y)) vs = wipe σ vs)
    (ht : ∀ q H', q ∈ o → Same H H' → ∀ R : VK, (∀ H4, Same H' H4 → R (.int (f q)) H4) → te (((wipe σ vs).set i1 (some (.int q.1))).set i2 (some (.int q.2))) H' R)
    (hd : ∀ H' D, Same H H' → Ints H' D (o.map f) → H D = none → Q (.ref D) H') :
    tLc (iList K tl) (gTup K 2 (gCons (gName i1) (gCons (gName i2) gNil))) tYes te vs σ H Q :=
  lc_pairsF (p := fun _ => true) len hl hw (fun _ H' _ _ R k => k H' (Same.refl H')) ht fun H' D s h n => hd H' D s (by
    rw [List.filter_eq_self.mpr fun _ _ => rfl] at h
    exact h) n
/-- [e for a in l if c], l a list of whole numbers, e a whole number -/
theorem lc_intsF {K : PySem.W.Frag} {tl te : TE} {tt : TT} {i1 : Nat} {vs : List Nat} {σ : L2.St} {H : Hp} {Q : VK} {o : List Int} {p : Int → Bool} {f : Int → Int} (len : o.length < 16777216)
    (hl : ∀ R : V → Hp → Prop, (∀ L H1, Same H H1 → Ints H1 L o → R (.ref L) H1) → tl σ H R)
    (hw : ∀ x, wipe ((wipe σ vs).set i1 (some x)) vs = wipe σ vs)
    (hc : ∀ q H', q ∈ o → Same H H' → ∀ R : Bool → Hp → Prop, (∀ H4, Same H' H4 → R (p q) H4) → tt ((wipe σ vs).set i1 (some (.int q))) H' R)
    (ht : ∀ q H', q ∈ o → Same H H' → ∀ R : VK, (∀ H4, Same H' H4 → R (.int (f q)) H4) → te ((wipe σ vs).set i1 (some (.int q))) H' R)
    (hd : ∀ H' D, Same H H' → Ints H' D ((o.filter p).map f) → H D = none → Q (.ref D) H') :
    tLc (iList K tl) (gName i1) tt te vs σ H Q := by
  refine hl _ fun L H1 s1 h1 => ⟨L, rfl, ⟨_, SqL.of h1⟩, fun D hD => ?_⟩
  refine lc_list (K := K) (a := L) (xs := o.map V.int) (fun i H' => Same H1 H' ∧ Ints H' D (((o.take i).filter p).map f)) ⟨Same.new hD, upd_same⟩ (fun i H' _ ⟨s2, _⟩ => SqL.of (s2 _ _ h1)) ?_ ?_
  · rintro i x H' hi ⟨s2, hDl⟩
    obtain ⟨q, hq, rfl⟩ := map_at hi
    have mq : q ∈ o := List.mem_of_getElem? hq
    refine ⟨hw _, ?_⟩
    refine hc q H' mq (s1.trans s2) _ fun H4 s3 => ?_
    have e := filter_take (p := p) hq
    cases c : p q with
    | false =>
      refine iteF ?_
      rw [c, if_neg Bool.false_ne_true, List.append_nil] at e
      rw [e]
      exact ⟨s2.trans s3, s3 _ _ hDl⟩
    | true =>
      rw [c, if_pos rfl] at e
      refine iteT (ht q H4 mq ((s1.trans s2).trans s3) _ fun H5 s4 => ?_)
      refine ⟨_, s4 _ _ (s3 _ _ hDl), lt_line ?_, Same.put ((s2.trans s3).trans s4) hD, ?_⟩
      · rw [List.length_map, List.length_map]
        exact Nat.lt_of_le_of_lt (List.length_filter_le ..) (take_len len)
      · rw [e]
        show _ = some (HO.lst _)
        rw [upd_same, List.map_append, List.map_append]
        rfl
  · rintro H' ⟨s2, hDl⟩
    rw [List.length_map, List.take_length] at hDl
    exact hd H' D (s1.trans s2) hDl (s1.free hD)
abbrev sNumbers : Stmt := top 4
abbrev sSoonest : Stmt := top 2
abbrev sNear : Stmt := top 3
abbrev sKnown : Stmt := top 1
def spNumbers : Sp := fun vs H Q _ => ∃ (q : Addr) (o : Order), vs = [.ref q] ∧ Pairs H q o ∧ o.length < 16777216 ∧ ∀ (H' : Hp) (p : Addr), Same H H' → H p = none → Ints H' p (o.map Prod.fst) → Q (.ref p) H'
/-- what places_known tells -/
def Known (H : Hp) (d : Addr) (m : M) (ns : List Int) : Prop := ∃ kvs : List (Key × V), H d = some (.dK kvs) ∧ kvs.length ≤ ns.length ∧ ∀ n ∈ ns, ∃ t, valV kvs (Sum.inl n) = some (.ref t) ∧ P2 H t (m.base n, m.rank n)
theorem Known.same {H H' : Hp} {d : Addr} {m : M} {ns : List Int} (s : Same H H') (h : Known H d m ns) : Known H' d m ns := by
  obtain ⟨kvs, h1, h2, h3⟩ := h
  refine ⟨kvs, s _ _ h1, h2, fun n hn => ?_⟩
  obtain ⟨t, h4, h5⟩ := h3 n hn
  exact ⟨t, h4, s _ _ h5⟩
def spKnown (C : Addr) : Sp := fun vs H Q _ => ∃ (a : Addr) (m : M) (cs : List Addr), vs = [.ref a] ∧ Sky C H a m cs ∧ m.Wf ∧ ∀ (H' : Hp) (d : Addr), Same H H' → Known H' d m m.waiting → Q (.ref d) H'
def spSoonest (C : Addr) : Sp := fun vs H Q _ => ∃ (a d q : Addr) (m : M) (cs : List Addr) (o : Order) (n : Int), vs = [.ref a, .ref d, .ref q, .int n] ∧ Sky C H a m cs ∧ m.Wf ∧ Known H d m m.waiting ∧ Pairs H q o ∧ o.length < 16777215 ∧ (∀ x ∈ o, Has m x.1) ∧ n ∈ m.waiting ∧
  ∀ H' : Hp, Same H H' → Q (.int (m.soonest o n)) H'
def spNear (C : Addr) : Sp := fun vs H Q _ => ∃ (a d q : Addr) (m : M) (cs : List Addr) (o : Order) (n sh : Int), vs = [.ref a, .ref d, .int sh, .ref q, .int n] ∧ Sky C H a m cs ∧ Known H d m m.waiting ∧ Pairs H q o ∧ n ∈ m.waiting ∧ Q (.bl (m.near sh o n)) H
theorem waits_has {m : M} (W : m.Wf) {n : Int} (h : n ∈ m.waiting) : Has m n := W.wb n h
section
variable {P : Program} {w : World} {K : PySem.W.Frag} {mg : Str → Option Value} {base : Heap} {C B : Addr}
theorem scRank : FnScope ["self", "number", "others", "other", "time"] ["self", "number"] (defScope sRank) := ⟨rfl, rfl, rfl, by decide +kernel, rfl, by decide +kernel, by decide +kernel⟩
theorem ok_rank {f : Addr} {fd : FuncData} (F : Fun K "rank_of" "Sky.rank_of" sRank f fd) (T : Txt K mg C B) : FnOk P w K mg base CX0 1 f fd ["self", "number"] (spRank C) := by
  refine F.ok scRank (fun vs H Q E h => ?_) (fun cdv A outer s H vs Q E hr h => ?_)
  · obtain ⟨a, m, cs, n, rfl, _⟩ := h
    rfl
  · obtain ⟨a, m, cs, n, rfl, ⟨dx, R, P, L, W, rs, rfl, S⟩, Wf, k⟩ := h
    refine ⟨_, pss_cons (ps_set (i := 2) scRank.nd rfl (Or.inl rfl) (pe_op op_cat (pe_lc (own := [("other", 3), ("time", 4)]) (g := gTup K 2 (gCons (gName 3) (gCons (gName 4) gNil))) (tt := tYes) rfl scRank.nd (pi_list (pe_fld (pv 0) rfl))
          (blkOk_by (N := ["self", "number", "others", "other", "time"]) (sc := defScope sRank) (by decide +kernel))
          (fun _ _ _ _ _ => pg_tup rfl (pgs_cons (pg_name (i := 3) scRank.nd rfl (Or.inl rfl)) (pgs_cons (pg_name (i := 4) scRank.nd rfl (Or.inl rfl)) pgs_nil))) (fun _ _ _ _ _ => pts_nil) (fun _ _ _ _ _ => pv 3)) (pe_fld (pv 0) rfl)))
      (pss_one (ps_ret (pe_callB call_len_seq (by rfl) T.gLen PySem.boot_len (pa_cons (pe_lc (own := [("other", 3)]) (g := gName 3) rfl scRank.nd (pi_list (pv 2))
          (blkOk_by (N := ["self", "number", "others", "other", "time"]) (sc := defScope sRank) (by decide +kernel))
          (fun _ _ _ _ _ => pg_name (i := 3) scRank.nd rfl (Or.inl rfl)) (fun _ _ _ _ _ => pts_one (pt_cmpR op_lt (pv 3) (pv 1) (nomark _))) (fun _ _ _ _ _ => pv 3)) pa_nil)))), ?_⟩
    have ll := Wf.ll
    have lp := Wf.pl
    dsimp only [tSeq, tAsg, tOp]
    refine lc_pairs (o := m.landed) (f := Prod.fst) (by omega) (fun R k => ⟨_, rfl, a, C, dx, _, _, rfl, S.obj, T.cl, T.nL, sF_landed _ _ _ _ _, k _ _ (Same.refl H) S.landed⟩) (fun _ _ => rfl) (fun q H' _ _ R k => ⟨_, rfl, k _ (Same.refl _)⟩) fun H1 D s1 h1 n1 => ?_
    refine ⟨_, rfl, a, C, dx, _, _, rfl, s1 _ _ S.obj, T.cl, T.nW, sF_waiting _ _ _ _ _, D, W, _, _, rfl, rfl, h1, s1 _ _ S.waits, ?_, fun p hp => ?_⟩
    · rw [List.length_map, List.length_map, List.length_map]
      exact le_line (by omega)
    · have s2 := Same.new (o := .lst ((m.landed.map Prod.fst).map V.int ++ m.waiting.map V.int)) hp
      dsimp only [gName, tRet, tCB, tCons]
      refine lc_intsF (i1 := 3) (o := m.landed.map Prod.fst ++ m.waiting) (p := fun o => decide (o < n)) (f := id) ?_ (fun R k => ⟨_, rfl, k _ _ (Same.refl _) ?_⟩) (fun _ => rfl) (fun q H' _ _ R k => ⟨_, rfl, _, rfl, _, _, rfl, rfl, _, rfl, k _ (Same.refl _)⟩) (fun q H' _ _ R k => ⟨_, rfl, k _ (Same.refl _)⟩) fun H3 D3 s3 h3 n3 => ?_
      · rw [List.length_append, List.length_map]
        omega
      · show _ = some (HO.lst _)
        rw [upd_same, List.map_append]
      · refine ⟨D3, _, rfl, .inl (SqL.of h3), ?_⟩
        rw [List.length_map, List.length_map]
        exact k _ ((s1.trans s2).trans s3)
theorem scNumbers : FnScope ["queue", "number", "time"] ["queue"] (defScope sNumbers) := ⟨rfl, rfl, rfl, by decide +kernel, rfl, by decide +kernel, by decide +kernel⟩
theorem ok_numbers {f : Addr} {fd : FuncData} (F : Fun K "numbers_of" "numbers_of" sNumbers f fd) : FnOk P w K mg base CX0 1 f fd ["queue"] spNumbers := by
  refine F.ok scNumbers (fun vs H Q E h => ?_) (fun cdv A outer s H vs Q E hr h => ?_)
  · obtain ⟨q, o, rfl, _⟩ := h
    rfl
  · obtain ⟨q, o, rfl, hq, len, k⟩ := h
    refine ⟨_, pss_one (ps_ret (pe_lc (own := [("number", 1), ("time", 2)]) (g := gTup K 2 (gCons (gName 1) (gCons (gName 2) gNil))) (tt := tYes) rfl scNumbers.nd (pi_list (pv 0)) (blkOk_by (N := ["queue", "number", "time"]) (sc := defScope sNumbers) (by decide +kernel))
      (fun _ _ _ _ _ => pg_tup rfl (pgs_cons (pg_name (i := 1) scNumbers.nd rfl (Or.inl rfl)) (pgs_cons (pg_name (i := 2) scNumbers.nd rfl (Or.inl rfl)) pgs_nil))) (fun _ _ _ _ _ => pts_nil) (fun _ _ _ _ _ => pv 1))), ?_⟩
    exact lc_pairs (o := o) (f := Prod.fst) len (fun R k => ⟨_, rfl, k _ _ (Same.refl H) hq⟩) (fun _ _ => rfl) (fun q H' _ _ R k => ⟨_, rfl, k _ (Same.refl _)⟩) fun H1 D s1 h1 n1 => k _ _ s1 n1 h1
theorem scSoonest : FnScope ["sky", "known", "queue", "number", "times", "ahead", "time"] ["sky", "known", "queue", "number"] (defScope sSoonest) := ⟨rfl, rfl, rfl, by decide +kernel, rfl, by decide +kernel, by decide +kernel⟩
theorem ok_soonest {f : Addr} {fd : FuncData} (F : Fun K "soonest" "soonest" sSoonest f fd) (T : Txt K mg C B) (GC : Mt P w K mg base C 1 "clear_from" ["self", "ahead", "time", "number"] (spClear C)) :
    FnOk P w K mg base CX0 2 f fd ["sky", "known", "queue", "number"] (spSoonest C) := by
  refine F.ok scSoonest (fun vs H Q E h => ?_) (fun cdv A outer s H vs Q E hr h => ?_)
  · obtain ⟨a, d, q, m, cs, o, n, rfl, _⟩ := h
    rfl
  · obtain ⟨a, d, q, m, cs, o, n, rfl, Sk, Wf, Kn, hq, len, ho, hn, k⟩ := h
    refine ⟨_, pss_cons (ps_setLc (i := 4) (own := [("ahead", 5), ("time", 6)]) (g := gTup K 2 (gCons (gName 5) (gCons (gName 6) gNil))) (tt := tYes) rfl scSoonest.nd rfl rfl (sw_true rfl rfl rfl (by decide +kernel)) (pi_list (pv 2))
        (blkOk_by (N := ["sky", "known", "queue", "number", "times", "ahead", "time"]) (sc := defScope sSoonest) (by decide +kernel))
        (fun _ _ _ _ _ => pg_tup rfl (pgs_cons (pg_name (i := 5) scSoonest.nd rfl (Or.inl rfl)) (pgs_cons (pg_name (i := 6) scSoonest.nd rfl (Or.inl rfl)) pgs_nil))) (fun _ _ _ _ _ => pts_nil)
        (fun _ _ _ _ _ => pe_mt GC hr (pv 0) T.cl (pa_cons (pv 5) (pa_cons (pv 6) (pa_cons (pv 3) pa_nil)))))
      (pss_one (ps_ret (pe_callB (cr_max rfl) (by rfl) T.gMax (by decide +kernel) (pa_cons (pe_op op_cat (pe_lst (pa_cons (pe_ix ix_tup (pe_dget (hu_of hr) (pv 1) (pv 3) (fun _ _ => rfl)) pe_int (fun _ _ => rfl)) pa_nil)) (pv 4)) pa_nil)))), ?_⟩
    dsimp only [tSeq, tAsg]
    refine lc_pairs (o := o) (f := fun x => m.clear x.1 x.2 n) (by omega) (fun R k => ⟨_, rfl, k _ _ (Same.refl H) hq⟩) (fun _ _ => rfl) (fun x H' hx s1 R k => ?_) fun H1 D s1 h1 n1 => ?_
    · obtain ⟨dx, R', P', L', W', rs, rfl, S⟩ := id (Sk.same s1)
      exact ⟨_, rfl, a, dx, _, rfl, S.obj, sF_no _ _ _ _ _ (by decide +kernel), _, rfl, _, rfl, _, rfl, a, m, _, x.1, x.2, n, rfl, Sk.same s1, Wf, ho x hx, waits_has Wf hn, k _ (Same.refl _)⟩
    · obtain ⟨kvs, k1, k2, k3⟩ := Kn.same s1
      obtain ⟨t, k4, k5⟩ := k3 n hn
      refine ⟨_, rfl, _, rfl, d, _, rfl, ?_, t, _, 0, _, rfl, rfl, SqT.of k5, at_of (j := 0) rfl rfl, (by show 1 ≤ sizeLine; decide), fun l hl => ?_⟩
      · have g := DGet.k (k := Sum.inl n) k1
        rw [k4] at g
        exact g
      · have s2 := Same.new (o := .lst [V.int (m.base n)]) hl
        refine ⟨_, rfl, l, D, _, _, rfl, rfl, upd_same, s2 _ _ h1, le_line ?_, fun p hp => ?_⟩
        · rw [List.length_map, List.length_map]
          show 1 + o.length ≤ _
          omega
        · refine ⟨p, [m.base n] ++ m.clears o n, rfl, SqL.of (upd_same.trans ?_), Nat.succ_pos _, fun z hz hm => ?_⟩
          · rw [List.map_append]
            rfl
          · rw [maxL_is hz hm]
            exact k _ ((s1.trans s2).trans (Same.new hp))
theorem scNear : FnScope ["sky", "known", "shift", "queue", "number", "place"] ["sky", "known", "shift", "queue", "number"] (defScope sNear) := ⟨rfl, rfl, rfl, by decide +kernel, rfl, by decide +kernel, by decide +kernel⟩
theorem ok_near {f : Addr} {fd : FuncData} (F : Fun K "is_near" "is_near" sNear f fd) (T : Txt K mg C B) : FnOk P w K mg base CX0 1 f fd ["sky", "known", "shift", "queue", "number"] (spNear C) := by
  refine F.ok scNear (fun vs H Q E h => ?_) (fun cdv A outer s H vs Q E hr h => ?_)
  · obtain ⟨a, d, q, m, cs, o, n, sh, rfl, _⟩ := h
    rfl
  · obtain ⟨a, d, q, m, cs, o, n, sh, rfl, ⟨dx, R, P, L, W, rs, rfl, S⟩, Kn, hq, hn, k⟩ := h
    refine ⟨_, pss_cons (ps_set (i := 5) scNear.nd rfl (Or.inl rfl) (pe_op op_add (pe_callB call_len_seq (by rfl) T.gLen PySem.boot_len (pa_cons (pe_fld (pv 0) rfl) pa_nil)) (pe_callB call_len_seq (by rfl) T.gLen PySem.boot_len (pa_cons (pv 3) pa_nil))))
      (pss_one (ps_ret (pe_cmpR op_le (pe_callB call_abs (by rfl) T.gAbs (by decide +kernel) (pa_cons (pe_op op_sub (pv 5) (pe_ix ix_tup (pe_dget (hu_of hr) (pv 1) (pv 4) (fun _ _ => rfl)) pe_int (fun _ _ => rfl))) pa_nil)) (pv 2) (nomark _)))), ?_⟩
    obtain ⟨ls, hl, pl⟩ := S.landed
    obtain ⟨qs, hqs, pq⟩ := hq
    obtain ⟨kvs, k1, k2, k3⟩ := Kn
    obtain ⟨t, k4, k5⟩ := k3 n hn
    refine ⟨_, rfl, a, C, dx, _, _, rfl, S.obj, T.cl, T.nL, sF_landed _ _ _ _ _, L, _, rfl, .inl (SqL.of hl), _, rfl, q, _, rfl, .inl (SqL.of hqs), _, _, rfl, rfl, ?_⟩
    refine ⟨_, rfl, _, rfl, _, rfl, d, _, rfl, ?_, t, _, 1, _, rfl, rfl, SqT.of k5, at_of (j := 1) rfl rfl, _, _, rfl, rfl, _, rfl, _, rfl, _, _, rfl, rfl, ?_⟩
    · have g := DGet.k (k := Sum.inl n) k1
      rw [k4] at g
      exact g
    · have e1 : (ls.map V.ref).length = m.landed.length := by rw [List.length_map, pl.length]
      have e2 : (qs.map V.ref).length = o.length := by rw [List.length_map, pq.length]
      rw [e1, e2]
      exact k
end
end Wa
/-! ## The walk: places_known, with_one_more, allowed -/
namespace Wa
open PySem PySem.Spec PyProof.Rows L2
/-- orders in the list at a, each in a list of its own of which av holds -/
def OrdersA (av : Addr → Prop) (H : Hp) (a : Addr) (os : List Order) : Prop := ∃ qs : List Addr, H a = some (.lst (qs.map V.ref)) ∧ Paired (Pairs H) qs os ∧ ∀ q ∈ qs, av q
theorem OrdersA.to {av : Addr → Prop} {H : Hp} {a : Addr} {os : List Order} (h : OrdersA av H a os) : Orders H a os := by
  obtain ⟨qs, h1, h2, _⟩ := h
  exact ⟨qs, h1, h2⟩
theorem OrdersA.same {av : Addr → Prop} {H H' : Hp} {a : Addr} {os : List Order} (s : Same H H') (h : OrdersA av H a os) : OrdersA av H' a os := by
  obtain ⟨qs, h1, h2, h3⟩ := h
  exact ⟨qs, s _ _ h1, h2.mono fun _ _ q => Pairs.same s q, h3⟩
/-- another list is written -/
theorem Pairs.write {H : Hp} {F q : Addr} {xs ys : List V} {o : Order} (hF : H F = some (.lst xs)) (n : q ≠ F) (h : Pairs H q o) : Pairs (upd H F (.lst ys)) q o := by
  obtain ⟨ps, h1, h2⟩ := h
  refine ⟨ps, (upd_ne n).trans h1, h2.mono fun t x q => ?_⟩
  exact (upd_ne (ne_of q hF (by intro z; cases z))).trans q
theorem filterMap_take {α β : Type} {f : α → Option β} {l : List α} {i : Nat} {x : α} (h : l[i]? = some x) : (l.take (i + 1)).filterMap f = (l.take i).filterMap f ++ (match f x with | none => [] | some y => [y]) := by
  rw [take_one h, List.filterMap_append]
  refine congrArg _ ?_
  rw [List.filterMap_cons]
  cases f x <;> rfl
section
variable {m : M} {sh : Int} {o : Order} {n : Int}
theorem one_no1 (h : (o.map Prod.fst).contains n = true) : m.one sh o n = none := by
  unfold M.one
  rw [h]
  rfl
theorem one_no2 (h : m.near sh o n = false) : m.one sh o n = none := by
  unfold M.one
  rw [h, Bool.and_false]
  rfl
theorem one_no3 (h : ¬ m.soonest o n ≤ (m.plane n).2.2) : m.one sh o n = none := by
  unfold M.one
  rw [if_neg h]
  split <;> rfl
theorem one_yes (h : (o.map Prod.fst).contains n = false) (h2 : m.near sh o n = true) (h3 : m.soonest o n ≤ (m.plane n).2.2) : m.one sh o n = some (o ++ [(n, m.soonest o n)]) := by
  unfold M.one
  rw [h, h2, if_pos h3]
  rfl
end
def spMore (C : Addr) : Sp := fun vs H Q _ => ∃ (a d q : Addr) (m : M) (cs : List Addr) (o : Order) (sh : Int), vs = [.ref a, .ref d, .int sh, .ref q] ∧ Sky C H a m cs ∧ m.Wf ∧ Known H d m m.waiting ∧ Pairs H q o ∧ o.length ≤ 8 ∧ (∀ x ∈ o, Has m x.1) ∧
  ∀ (H' : Hp) (p : Addr), Same H H' → OrdersA (fun r => H r = none) H' p (m.more sh o) → Q (.ref p) H'
def spAllowed (C : Addr) : Sp := fun vs H Q _ => ∃ (a : Addr) (m : M) (cs : List Addr) (sh : Int), vs = [.ref a, .int sh] ∧ Sky C H a m cs ∧ m.Wf ∧ ∀ (H' : Hp) (p : Addr), Same H H' → Orders H' p (m.allowed sh) → Q (.ref p) H'
abbrev sMore : Stmt := top 5
abbrev sAllowed : Stmt := top 6
section
variable {P : Program} {w : World} {K : PySem.W.Frag} {mg : Str → Option Value} {base : Heap} {C B : Addr}
theorem scKnown : FnScope ["sky", "found", "number", "times", "ahead", "time"] ["sky"] (defScope sKnown) := ⟨rfl, rfl, rfl, by decide +kernel, rfl, by decide +kernel, by decide +kernel⟩
theorem ok_known {f : Addr} {fd : FuncData} (F : Fun K "places_known" "places_known" sKnown f fd) (T : Txt K mg C B) (GC : Mt P w K mg base C 1 "clear_from" ["self", "ahead", "time", "number"] (spClear C)) (GR : Mt P w K mg base C 1 "rank_of" ["self", "number"] (spRank C)) :
    FnOk P w K mg base CX0 2 f fd ["sky"] (spKnown C) := by
  refine F.ok scKnown (fun vs H Q E h => ?_) (fun cdv A outer s H vs Q E hr h => ?_)
  · obtain ⟨a, m, cs, rfl, _⟩ := h
    rfl
  · obtain ⟨a, m, cs, rfl, Sk, Wf, k⟩ := h
    refine ⟨_, pss_cons (ps_set (i := 1) scKnown.nd rfl (Or.inl rfl) pe_dnewK)
      (pss_cons (ps_for PassesOwn.never rfl (pi_list (pe_fld (pv 0) rfl)) (pg_name (i := 2) scKnown.nd rfl (Or.inr rfl))
        (pss_cons (ps_setLc (i := 3) (own := [("ahead", 4), ("time", 5)]) (g := gTup K 2 (gCons (gName 4) (gCons (gName 5) gNil))) (tt := tYes) rfl scKnown.nd rfl rfl (sw_true rfl rfl rfl (by decide +kernel)) (pi_list (pe_fld (pv 0) rfl))
            (blkOk_by (N := ["sky", "found", "number", "times", "ahead", "time"]) (sc := defScope sKnown) (by decide +kernel))
            (fun _ _ _ _ _ => pg_tup rfl (pgs_cons (pg_name (i := 4) scKnown.nd rfl (Or.inl rfl)) (pgs_cons (pg_name (i := 5) scKnown.nd rfl (Or.inl rfl)) pgs_nil))) (fun _ _ _ _ _ => pts_nil)
            (fun _ _ _ _ _ => pe_mt GC hr (pv 0) T.cl (pa_cons (pv 4) (pa_cons (pv 5) (pa_cons (pv 2) pa_nil)))))
        (pss_one (ps_dput (hu_of hr) (pv 1) (pv 2) (pe_tup (pa_cons (pe_callB (cr_max rfl) (by rfl) T.gMax (by decide +kernel) (pa_cons (pe_op op_cat (pe_lst (pa_cons (pe_ix ix_tup (pe_ix ix_list (pe_fld (pv 0) rfl) (pv 2) (fun _ _ => rfl)) pe_int (fun _ _ => rfl)) pa_nil)) (pv 3)) pa_nil))
            (pa_cons (pe_mt GR hr (pv 0) T.cl (pa_cons (pv 2) pa_nil)) pa_nil))) rfl))))
      (pss_one (ps_ret (pv 1)))), ?_⟩
    intro d hd
    have s0 : Same H (upd H d (.dK [])) := Same.new hd
    obtain ⟨dx, R, P', L, W, rs, ecs, S⟩ := id Sk
    have ll := Wf.ll
    have lp := Wf.pl
    have lw := Wf.wl
    refine ⟨_, rfl, a, C, dx, _, _, rfl, s0 _ _ S.obj, T.cl, T.nW, sF_waiting _ _ _ _ _, W, rfl, ⟨_, SqL.of (s0 _ _ S.waits)⟩, for_list (K := K) (a := W) (xs := m.waiting.map V.int)
      (fun i σ H' => ∃ v2 v3 : Option V, σ = [some (.ref a), some (.ref d), v2, v3, none, none] ∧ Same H H' ∧ Known H' d m (m.waiting.take i)) ⟨none, none, rfl, s0, [], upd_same, Nat.zero_le _, fun n h => absurd h List.not_mem_nil⟩
      (fun i σ H' _ ⟨_, _, _, s1, _⟩ => SqL.of (s1 _ _ S.waits)) ?_ ?_⟩
    · rintro i x σ H1 hi ⟨v2, v3, rfl, s1, Kn⟩
      obtain ⟨n, hn, rfl⟩ := map_at hi
      have mn : n ∈ m.waiting := List.mem_of_getElem? hn
      dsimp only [gName, tSeq, tAsg]
      refine lc_pairs (i1 := 4) (i2 := 5) (o := m.landed) (f := fun x => m.clear x.1 x.2 n) (by omega) (fun R k => ⟨_, rfl, a, C, dx, _, _, rfl, s1 _ _ S.obj, T.cl, T.nL, sF_landed _ _ _ _ _, k _ _ (Same.refl H1) (S.landed.same s1)⟩) (fun _ _ => rfl) (fun x H2 hx s2 R k => ?_) fun H2 D s2 h2 n2 => ?_
      · exact ⟨_, rfl, a, dx, _, rfl, s2 _ _ (s1 _ _ S.obj), sF_no _ _ _ _ _ (by decide +kernel), _, rfl, _, rfl, _, rfl, a, m, cs, x.1, x.2, n, rfl, (Sk.same s1).same s2, Wf, Wf.lb x hx, waits_has Wf mn, k _ (Same.refl _)⟩
      · have s3 : Same H H2 := s1.trans s2
        obtain ⟨xs, tn, q1, q2, q3⟩ := plane_at (S.planes.same s3) (waits_has Wf mn)
        refine ⟨_, rfl, a, C, dx, _, _, rfl, s3 _ _ S.obj, T.cl, T.nP, sF_planes _ _ _ _ _, _, rfl, P', _, _, _, rfl, rfl, SqL.of q1, q2, tn, _, 1, _, rfl, rfl, SqT.of q3, at_of (j := 1) rfl rfl, (by show 1 ≤ sizeLine; decide), fun l hl => ?_⟩
        have s4 := Same.new (o := .lst [V.int (m.plane n).2.1]) hl
        refine ⟨_, rfl, l, D, _, _, rfl, rfl, upd_same, s4 _ _ h2, le_line ?_, fun p hp => ?_⟩
        · rw [List.length_map, List.length_map]
          show 1 + m.landed.length ≤ _
          omega
        · refine ⟨p, [(m.plane n).2.1] ++ m.clears m.landed n, rfl, SqL.of (upd_same.trans ?_), Nat.succ_pos _, fun z hz hm => ?_⟩
          · rw [List.map_append]
            rfl
          · have ez : z = m.base n := maxL_is hz hm
            subst ez
            have s5 := (s2.trans s4).trans (Same.new (o := .lst ([V.int (m.plane n).2.1] ++ (m.landed.map fun x => m.clear x.1 x.2 n).map V.int)) hp)
            refine ⟨_, rfl, a, dx, _, rfl, s5 _ _ (s1 _ _ S.obj), sF_no _ _ _ _ _ (by decide +kernel), _, rfl, a, m, cs, n, rfl, (Sk.same s1).same s5, Wf, fun H6 s6 => ⟨(by show 2 ≤ sizeLine; decide), fun t ht => ?_⟩⟩
            have s7 : Same H1 (upd H6 t (.tup [V.int (m.base n), V.int (m.rank n)])) := (s5.trans s6).trans (Same.new ht)
            obtain ⟨kvs, k1, k2, k3⟩ := Kn.same s7
            have lk : kvs.length ≤ 8 := by
              have : (m.waiting.take i).length ≤ 8 := by
                rw [List.length_take]
                omega
              omega
            refine ⟨_, rfl, _, rfl, d, _, rfl, DPut.k (k := Sum.inl n) k1 (small1000 (by omega)), ?_⟩
            refine ⟨_, _, rfl, Same.put (s1.trans s7) hd, putK kvs (Sum.inl n) (.ref t), upd_same, ?_, fun n' hn' => ?_⟩
            · have h1 := length_putK kvs (Sum.inl n) (.ref t)
              rw [take_one hn, List.length_append]
              have : ([n] : List Int).length = 1 := rfl
              omega
            · have tup : ∀ (t' : Addr) (ys : List V), upd H6 t (.tup [V.int (m.base n), V.int (m.rank n)]) t' = some (.tup ys) → upd (upd H6 t (.tup [V.int (m.base n), V.int (m.rank n)])) d (.dK (putK kvs (Sum.inl n) (.ref t))) t' = some (.tup ys) := fun t' ys e =>
                (upd_ne (ne_of e k1 (by intro z; cases z))).trans e
              by_cases e : n' = n
              · subst e
                refine ⟨t, ?_, tup _ _ upd_same⟩
                rw [valV_put, if_pos rfl]
              · have hn2 : n' ∈ m.waiting.take i := by
                  rw [take_one hn] at hn'
                  rcases List.mem_append.mp hn' with z | z
                  · exact z
                  · exact absurd (List.mem_singleton.mp z) e
                obtain ⟨t', e1, e2⟩ := k3 n' hn2
                refine ⟨t', ?_, tup _ _ e2⟩
                rw [valV_put, if_neg (fun z => e (Sum.inl.inj z))]
                exact e1
    · rintro σ H1 ⟨v2, v3, rfl, s1, Kn⟩
      rw [List.length_map, List.take_length] at Kn
      exact ⟨_, rfl, k _ _ s1 Kn⟩
theorem scMore : FnScope ["sky", "known", "shift", "queue", "found", "placed", "number", "time"] ["sky", "known", "shift", "queue"] (defScope sMore) := ⟨rfl, rfl, rfl, by decide +kernel, rfl, by decide +kernel, by decide +kernel⟩
theorem ok_more {f : Addr} {fd : FuncData} (F : Fun K "with_one_more" "with_one_more" sMore f fd) (T : Txt K mg C B) (GN : Fn P w K mg base 1 "numbers_of" ["queue"] spNumbers) (GI : Fn P w K mg base 1 "is_near" ["sky", "known", "shift", "queue", "number"] (spNear C))
    (GS : Fn P w K mg base 2 "soonest" ["sky", "known", "queue", "number"] (spSoonest C)) : FnOk P w K mg base CX0 3 f fd ["sky", "known", "shift", "queue"] (spMore C) := by
  refine F.ok scMore (fun vs H Q E h => ?_) (fun cdv A outer s H vs Q E hr h => ?_)
  · obtain ⟨a, d, q, m, cs, o, sh, rfl, _⟩ := h
    rfl
  · obtain ⟨a, d, q, m, cs, o, sh, rfl, Sk, Wf, Kn, hq, len, ho, k⟩ := h
    have hr1 : Room 1 _ := hr.mono (by decide)
    refine ⟨_, pss_cons (ps_set (i := 4) scMore.nd rfl (Or.inl rfl) (pe_lst pa_nil))
      (pss_cons (ps_set (i := 5) scMore.nd rfl (Or.inl rfl) (pe_fn GN hr1 rfl (pa_cons (pv 3) pa_nil)))
      (pss_cons (ps_for PassesOwn.never rfl (pi_list (pe_fld (pv 0) rfl)) (pg_name (i := 6) scMore.nd rfl (Or.inl rfl))
        (pss_one (ps_if (PW.pt (pw_and (pt_cmpR op_notIn_seq (pv 6) (pv 5) (by rfl)) (pw_and1 (pt_val (pe_fn GI hr1 rfl (pa_cons (pv 0) (pa_cons (pv 1) (pa_cons (pv 2) (pa_cons (pv 3) (pa_cons (pv 6) pa_nil))))))))))
          (pss_cons (ps_set (i := 7) scMore.nd rfl (Or.inl rfl) (pe_fn GS hr rfl (pa_cons (pv 0) (pa_cons (pv 1) (pa_cons (pv 3) (pa_cons (pv 6) pa_nil))))))
          (pss_one (ps_if (pt_cmpR op_le (pv 7) (pe_ix ix_tup (pe_ix ix_list (pe_fld (pv 0) rfl) (pv 6) (fun _ _ => rfl)) pe_int (fun _ _ => rfl)) (nomark _))
            (pss_one (ps_expr (pe_bm PySem.F.plainAttrs_list PySem.F.slot_list_append PySem.F.type_list_append mt_append (pv 4) (pa_cons (pe_op op_cat (pv 3) (pe_lst (pa_cons (pe_tup (pa_cons (pv 6) (pa_cons (pv 7) pa_nil))) pa_nil))) pa_nil)))) pss_nil))) pss_nil)))
      (pss_one (ps_ret (pv 4))))), ?_⟩
    obtain ⟨dx, R, P', L, W, rs, ecs, S⟩ := id Sk
    have lw := Wf.wl
    refine ⟨Nat.zero_le _, fun Fd hF => ?_⟩
    have s0 : Same H (upd H Fd (.lst [])) := Same.new hF
    refine ⟨_, rfl, q, o, rfl, hq.same s0, by omega, fun H1 D s1 fD hD => ?_⟩
    have s01 : Same H H1 := s0.trans s1
    have hF1 : H1 Fd = some (.lst []) := s1 _ _ upd_same
    have nDF : D ≠ Fd := (upd_none fD).1
    refine ⟨_, rfl, a, C, dx, _, _, rfl, s01 _ _ S.obj, T.cl, T.nW, sF_waiting _ _ _ _ _, W, rfl, ⟨_, SqL.of (s01 _ _ S.waits)⟩, for_list (K := K) (a := W) (xs := m.waiting.map V.int)
      (fun i σ H' => ∃ v6 v7 : Option V, σ = [some (.ref a), some (.ref d), some (.int sh), some (.ref q), some (.ref Fd), some (.ref D), v6, v7] ∧ Same H H' ∧ Ints H' D (o.map Prod.fst) ∧ OrdersA (fun r => H r = none ∧ r ≠ Fd) H' Fd ((m.waiting.take i).filterMap (m.one sh o)))
      ⟨none, none, rfl, s01, hD, [], hF1, .nil, fun r h => absurd h List.not_mem_nil⟩
      (fun i σ H' _ ⟨_, _, _, s2, _⟩ => SqL.of (s2 _ _ S.waits)) ?_ ?_⟩
    · rintro i x σ H2 hi ⟨v6, v7, rfl, s2, hD2, hO⟩
      obtain ⟨n, hn, rfl⟩ := map_at hi
      have mn : n ∈ m.waiting := List.mem_of_getElem? hn
      have ft := filterMap_take (f := m.one sh o) hn
      have skip : ∀ (v7 : Option V) (H3 : Hp), Same H2 H3 → m.one sh o n = none → ∃ v6' v7' : Option V, ([some (.ref a), some (.ref d), some (.int sh), some (.ref q), some (.ref Fd), some (.ref D), some (.int n), v7] : L2.St) = [some (.ref a), some (.ref d), some (.int sh), some (.ref q), some (.ref Fd), some (.ref D), v6', v7'] ∧ Same H H3 ∧
          Ints H3 D (o.map Prod.fst) ∧ OrdersA (fun r => H r = none ∧ r ≠ Fd) H3 Fd ((m.waiting.take (i + 1)).filterMap (m.one sh o)) := fun v7 H3 s3 e => by
        rw [e] at ft
        rw [ft, List.append_nil]
        exact ⟨_, _, rfl, s2.trans s3, s3 _ _ hD2, hO.same s3⟩
      refine ⟨_, rfl, _, rfl, D, _, rfl, .inl (SqL.of hD2), rfl, all_flat _, _, rfl, ?_⟩
      rw [in_ints]
      cases c1 : (o.map Prod.fst).contains n with
      | true => exact skip v7 H2 (Same.refl _) (one_no1 c1)
      | false =>
        refine iteT ⟨_, rfl, _, rfl, _, rfl, _, rfl, _, rfl, a, d, q, m, cs, o, n, sh, rfl, Sk.same s2, Kn.same s2, hq.same s2, mn, _, rfl, ?_⟩
        cases c2 : m.near sh o n with
        | false => exact skip v7 H2 (Same.refl _) (one_no2 c2)
        | true =>
          refine iteT ⟨_, rfl, _, rfl, _, rfl, _, rfl, a, d, q, m, cs, o, n, rfl, Sk.same s2, Wf, Kn.same s2, hq.same s2, by omega, ho, mn, fun H3 s3 => ?_⟩
          have s23 : Same H H3 := s2.trans s3
          obtain ⟨xs, tn, q1, q2, q3⟩ := plane_at (S.planes.same s23) (waits_has Wf mn)
          refine ⟨_, rfl, _, rfl, a, C, dx, _, _, rfl, s23 _ _ S.obj, T.cl, T.nP, sF_planes _ _ _ _ _, _, rfl, P', _, _, _, rfl, rfl, SqL.of q1, q2, tn, _, 2, _, rfl, rfl, SqT.of q3, at_of (j := 2) rfl rfl, _, _, rfl, rfl, _, rfl, ?_⟩
          by_cases c3 : m.soonest o n ≤ (m.plane n).2.2
          · rw [decide_eq_true c3]
            refine iteT ?_
            obtain ⟨qs, h1, h2, h3⟩ := hO.same s3
            obtain ⟨os, ho1, ho2⟩ := hq.same s23
            refine ⟨_, rfl, .inl ⟨rfl, _, SqL.of h1⟩, _, rfl, _, rfl, _, rfl, (by show 2 ≤ sizeLine; decide), fun t ht => ⟨(by show 1 ≤ sizeLine; decide), fun l hl => ?_⟩⟩
            have s4 := Same.new (o := .tup [V.int n, V.int (m.soonest o n)]) ht
            have s5 := s4.trans (Same.new (o := .lst [V.ref t]) hl)
            refine ⟨q, l, _, _, rfl, rfl, s5 _ _ ho1, upd_same, le_line ?_, fun p hp => ?_⟩
            · rw [List.length_map, ho2.length]
              show o.length + 1 ≤ _
              omega
            · have s6 := s5.trans (Same.new (o := .lst (os.map V.ref ++ [V.ref t])) hp)
              have hF6 := s6 _ _ h1
              have s06 : Same H _ := s23.trans s6
              have fp : H p = none := (s23.trans s5).free hp
              have pF : p ≠ Fd := (ne_of_none (s5 _ _ h1) hp).symm
              refine ⟨Fd, _, _, rfl, rfl, hF6, small1000 ?_, ?_⟩
              · rw [List.length_map, h2.length]
                have h4 : ((m.waiting.take i).filterMap (m.one sh o)).length ≤ (m.waiting.take i).length := List.length_filterMap_le ..
                have h5 : (m.waiting.take i).length ≤ m.waiting.length := by
                  rw [List.length_take]
                  omega
                omega
              · refine ⟨_, _, rfl, Same.put s06 hF, ?_, ?_⟩
                · show _ = _
                  rw [upd_ne nDF]
                  exact s6 _ _ (s3 _ _ hD2)
                · rw [one_yes c1 c2 c3] at ft
                  rw [ft]
                  refine ⟨qs ++ [p], ?_, ?_, fun r hr => ?_⟩
                  · rw [upd_same, List.map_append]
                    rfl
                  · refine pair_app (pair_keep h2 fun r hr y g => Pairs.write hF6 (h3 r hr).2 (g.same s6)) (.cons (Pairs.write hF6 pF ?_) .nil)
                    refine ⟨os ++ [t], ?_, ?_⟩
                    · rw [upd_same, List.map_append]
                      rfl
                    · refine pair_app (ho2.mono fun _ _ g => s6 _ _ g) (.cons ?_ .nil)
                      exact (Same.new (o := .lst (os.map V.ref ++ [V.ref t])) hp) _ _ ((Same.new (o := .lst [V.ref t]) hl) _ _ upd_same)
                  · rcases List.mem_append.mp hr with hr | hr
                    · exact h3 r hr
                    · rw [List.mem_singleton.mp hr]
                      exact ⟨fp, pF⟩
          · rw [decide_eq_false c3]
            exact skip _ H3 s3 (one_no3 c3)
    · rintro σ H2 ⟨v6, v7, rfl, s2, hD2, qs, h1, h2, h3⟩
      rw [List.length_map, List.take_length] at h2
      exact ⟨_, rfl, k _ _ s2 ⟨qs, h1, h2, fun r hr => (h3 r hr).1⟩⟩
theorem take_flat {α β : Type} {f : α → List β} {l : List α} {i : Nat} {x : α} (h : l[i]? = some x) : (l.take (i + 1)).flatMap f = (l.take i).flatMap f ++ f x := by
  rw [take_one h, List.flatMap_append, List.flatMap_cons, List.flatMap_nil, List.append_nil]
theorem scAllowed : FnScope ["sky", "shift", "known", "found", "turn", "longer", "queue"] ["sky", "shift"] (defScope sAllowed) := ⟨rfl, rfl, rfl, by decide +kernel, rfl, by decide +kernel, by decide +kernel⟩
theorem ok_allowed {f : Addr} {fd : FuncData} (F : Fun K "allowed" "allowed" sAllowed f fd) (T : Txt K mg C B) (GK : Fn P w K mg base 2 "places_known" ["sky"] (spKnown C)) (GM : Fn P w K mg base 3 "with_one_more" ["sky", "known", "shift", "queue"] (spMore C)) :
    FnOk P w K mg base CX0 4 f fd ["sky", "shift"] (spAllowed C) := by
  refine F.ok scAllowed (fun vs H Q E h => ?_) (fun cdv A outer s H vs Q E hr h => ?_)
  · obtain ⟨a, m, cs, sh, rfl, _⟩ := h
    rfl
  · obtain ⟨a, m, cs, sh, rfl, Sk, Wf, k⟩ := h
    have hr2 : Room 2 _ := hr.mono (by decide)
    refine ⟨_, pss_cons (ps_set (i := 2) scAllowed.nd rfl (Or.inl rfl) (pe_fn GK hr2 rfl (pa_cons (pv 0) pa_nil)))
      (pss_cons (ps_set (i := 3) scAllowed.nd rfl (Or.inl rfl) (pe_lst (pa_cons (pe_lst pa_nil) pa_nil)))
      (pss_cons (ps_for PassesOwn.never rfl (pi_range1 rfl T.gRange (pa_cons (pe_callB call_len_seq (by rfl) T.gLen PySem.boot_len (pa_cons (pe_fld (pv 0) rfl) pa_nil)) pa_nil)) (pg_name (i := 4) scAllowed.nd rfl (Or.inl rfl))
        (pss_cons (ps_set (i := 5) scAllowed.nd rfl (Or.inl rfl) (pe_lst pa_nil))
        (pss_cons (ps_for PassesOwn.never rfl (pi_list (pv 3)) (pg_name (i := 6) scAllowed.nd rfl (Or.inl rfl))
          (pss_one (ps_expr (pe_bm PySem.F.plainAttrs_list PySem.F.slot_list_extend PySem.F.type_list_extend mt_extend (pv 5) (pa_cons (pe_fn GM hr rfl (pa_cons (pv 0) (pa_cons (pv 2) (pa_cons (pv 1) (pa_cons (pv 6) pa_nil))))) pa_nil)))))
        (pss_one (ps_set (i := 3) scAllowed.nd rfl (Or.inl rfl) (pv 5))))))
      (pss_one (ps_ret (pv 3))))), ?_⟩
    obtain ⟨dx, R, P', L, W, rs, ecs, S⟩ := id Sk
    have lw := Wf.wl
    refine ⟨_, rfl, a, m, cs, rfl, Sk, Wf, fun H1 d s1 Kn => ?_⟩
    refine ⟨Nat.zero_le _, fun e he => ⟨(by show 1 ≤ sizeLine; decide), fun F0 hF0 => ?_⟩⟩
    have s2 : Same H1 (upd H1 e (.lst [])) := Same.new he
    have s3 : Same H1 (upd (upd H1 e (.lst [])) F0 (.lst [V.ref e])) := s2.trans (Same.new hF0)
    have s03 := s1.trans s3
    have lm : (m.waiting.map V.int).length = m.waiting.length := List.length_map ..
    refine ⟨_, rfl, a, C, dx, _, _, rfl, s03 _ _ S.obj, T.cl, T.nW, sF_waiting _ _ _ _ _, W, _, rfl, .inl (SqL.of (s03 _ _ S.waits)), _, rfl, by omega, by rw [lm]; omega, ?_⟩
    refine for_range (lo := 0) (n := (m.waiting.map V.int).length) (fun i σ H' => ∃ (Fi : Addr) (v4 v5 v6 : Option V), σ = [some (.ref a), some (.int sh), some (.ref d), some (.ref Fi), v4, v5, v6] ∧ Same H1 H' ∧ Orders H' Fi (m.levels sh i)) ?_ ?_ ?_
    · refine ⟨F0, _, _, _, rfl, s3, [e], upd_same, .cons ⟨[], ?_, .nil⟩ .nil⟩
      exact (Same.new hF0) _ _ upd_same
    · rintro i σ H2 hi ⟨Fi, v4, v5, v6, rfl, s4, qs, f1, f2⟩
      rw [lm] at hi
      refine ⟨Nat.zero_le _, fun G hG => ?_⟩
      have s5 : Same H2 (upd H2 G (.lst [])) := Same.new hG
      have hlen : (m.levels sh i).length ≤ 8 ^ i := M.levels_len lw i
      have hpow : 8 ^ (i + 1) ≤ 16777216 := pow8 (by omega)
      rw [Nat.pow_succ] at hpow
      refine ⟨_, rfl, Fi, rfl, ⟨_, SqL.of (s5 _ _ f1)⟩, for_list (K := K) (a := Fi) (xs := qs.map V.ref)
        (fun j σ H' => ∃ v6 : Option V, σ = [some (.ref a), some (.int sh), some (.ref d), some (.ref Fi), some (.int (0 + (i : Int))), some (.ref G), v6] ∧ Same H2 H' ∧ OrdersA (fun r => r ≠ G) H' G (((m.levels sh i).take j).flatMap (m.more sh)))
        ⟨_, rfl, s5, [], upd_same, .nil, fun r h => absurd h List.not_mem_nil⟩ (fun j σ H' _ ⟨_, _, s6, _⟩ => SqL.of (s6 _ _ f1)) ?_ ?_⟩
      · rintro j x σ H3 hj ⟨v6, rfl, s6, zs, g1, g2, g3⟩
        obtain ⟨q, hq, rfl⟩ := map_at hj
        obtain ⟨o, ho, hqo⟩ := pair_to f2 hq
        have Qe : m.Que i o := M.levels_que (List.mem_of_getElem? ho)
        have s16 := s4.trans s6
        have tf := take_flat (f := m.more sh) ho
        refine ⟨_, rfl, .inl ⟨rfl, _, SqL.of g1⟩, _, rfl, _, rfl, _, rfl, _, rfl, a, d, q, m, cs, o, sh, rfl, Sk.same (s1.trans s16), Wf, Kn.same s16, hqo.same s6, ?_, fun x hx => waits_has Wf (Qe.sub _ (List.mem_map.mpr ⟨x, hx, rfl⟩)), fun H4 p s7 hp => ?_⟩
        · rw [Qe.len]
          omega
        · obtain ⟨ys, p1, p2, p3⟩ := hp
          have gG := s7 _ _ g1
          have lens : (zs.map V.ref).length + (ys.map V.ref).length ≤ 16777216 := by
            rw [List.length_map, List.length_map, g2.length, p2.length, ← List.length_append, ← tf]
            have h1 := flat_len (f := m.more sh) (k := 8) ((m.levels sh i).take (j + 1)) fun x _ => Nat.le_trans (m.more_len sh x) lw
            have h2 : ((m.levels sh i).take (j + 1)).length ≤ (m.levels sh i).length := by
              rw [List.length_take]
              omega
            omega
          refine ⟨G, p, _, _, rfl, rfl, gG, p1, le_line lens, ?_⟩
          refine ⟨_, rfl, Same.put (s6.trans s7) hG, zs ++ ys, ?_, ?_, fun r hr => ?_⟩
          · rw [upd_same, List.map_append]
          · rw [tf]
            exact pair_app (pair_keep g2 fun r hr y g => Pairs.write gG (g3 r hr) (g.same s7)) (pair_keep p2 fun r hr y g => Pairs.write gG (ne_of_none g1 (p3 r hr)).symm g)
          · rcases List.mem_append.mp hr with hr | hr
            · exact g3 r hr
            · exact (ne_of_none g1 (p3 r hr)).symm
      · rintro σ H3 ⟨v6, rfl, s6, hO⟩
        rw [List.length_map, f2.length, List.take_length] at hO
        refine ⟨_, rfl, G, _, _, _, rfl, s4.trans s6, hO.to⟩
    · rintro σ H2 ⟨Fi, v4, v5, v6, rfl, s4, hO⟩
      rw [lm] at hO
      exact ⟨_, rfl, k _ _ (s1.trans s4) hO⟩
end
end Wa
/-! ## min of a list of pairs of whole numbers: a rule that the layer lacks -/
namespace Wa
open PySem PySem.Spec PyProof.Rows L2
theorem argBest_less (c : Nat → Int × Int) : ∀ k, argBest (fun i j => less (c i) (c j)) k ≤ k ∧ ∀ i, i ≤ k → less (c i) (c (argBest (fun i j => less (c i) (c j)) k)) = false
  | 0 => ⟨Nat.le_refl _, fun i h => by
    have e : i = 0 := by omega
    rw [e]
    exact less_irrefl _⟩
  | k + 1 => by
    obtain ⟨h1, h2⟩ := argBest_less c k
    by_cases d : less (c (k + 1)) (c (argBest (fun i j => less (c i) (c j)) k)) = true
    · have e : argBest (fun i j => less (c i) (c j)) (k + 1) = k + 1 := if_pos d
      rw [e]
      refine ⟨Nat.le_refl _, fun i hi => ?_⟩
      by_cases q : i = k + 1
      · rw [q]
        exact less_irrefl _
      · cases f : less (c i) (c (k + 1)) with
        | false => rfl
        | true =>
          have := less_trans f d
          rw [h2 i (by omega)] at this
          cases this
    · have e : argBest (fun i j => less (c i) (c j)) (k + 1) = argBest (fun i j => less (c i) (c j)) k := if_neg d
      rw [e]
      refine ⟨by omega, fun i hi => ?_⟩
      by_cases q : i = k + 1
      · rw [q]
        cases f : less (c (k + 1)) (c (argBest (fun i j => less (c i) (c j)) k)) with
        | false => rfl
        | true => exact absurd f d
      · exact h2 i (by omega)
theorem lex_less (p q : Int × Int) : HT.lexLt [p.1, p.2] [q.1, q.2] = less p q := by
  unfold less
  simp only [HT.lexLt]
  by_cases e : p.1 = q.1
  · rw [if_pos e]
    by_cases f : p.2 = q.2
    · rw [if_pos f]
      simp [e, f]
    · rw [if_neg f]
      simp [e]
  · rw [if_neg e]
    simp [e]
/-- min(xs), xs a list of pairs of whole numbers, not empty: one of them that none undercuts -/
def rMinT (K : PySem.W.Frag) : List V → Hp → VK → Prop := fun vs H Q => ∃ (a : Addr) (ps : List Addr) (cs : List (Int × Int)), vs = [V.ref a] ∧ SqL K H a (ps.map V.ref) ∧ Paired (P2 H) ps cs ∧ 0 < cs.length ∧
  ∀ (j : Nat) (p : Addr) (c : Int × Int), ps[j]? = some p → cs[j]? = some c → (∀ z ∈ cs, less z c = false) → Q (.ref p) H
theorem cr_minT {X : Cx} (hc : X.calm = true) (hu : X.A.units + 1 < cLine) : CallR X (.builtin "min") (rMinT X.K) := by
  intro pins s σ H vs us Q I r h
  obtain ⟨a, ps, cs, rfl, hs, hp, hne, q⟩ := h
  obtain ⟨its, rv, hl, _⟩ := I.list hs
  rw [Vals.ref1 r]
  have hlen : its.length = cs.length := by rw [← rv.length, List.length_map, hp.length]
  have key : ∀ (i : Nat) (x : Value), its.toArray[i]? = some x → ∃ p c, ps[i]? = some p ∧ cs[i]? = some c ∧ x = Value.ref p ∧ P2 H p c := fun i x hx => by
    have hi : its[i]? = some x := by simpa using hx
    obtain ⟨y, hy, ry⟩ := pair_at rv hi
    obtain ⟨p, hp', rfl⟩ := map_at hy
    obtain ⟨c, hc', h2⟩ := pair_to hp hp'
    exact ⟨p, c, hp', hc', ry, h2⟩
  refine call_min_walkH (PySem.W.iter_listW (A := X.A.in1) (I.ok.hd hc) hl.isList fun z2 e Wk st hfp hw hk => ?_)
  refine ⟨_, _, _, _, _, _, _, s.heap, fun i j => less (cs.getD i (0, 0)) (cs.getD j (0, 0)), rfl, Wk, st, hfp, by rw [List.size_toArray]; omega, hw, hk, fun i j x y z Q' E' ok hx hy hq => ?_, fun x z' hx mv => ?_⟩
  · obtain ⟨p, c, p1, c1, rfl, t1⟩ := key i x hx
    obtain ⟨p', c', p2, c2, rfl, t2⟩ := key j y hy
    obtain ⟨i1, r1, u1, _⟩ := I.tuple (SqT.of (K := X.K) t1)
    obtain ⟨i2, r2, u2, _⟩ := I.tuple (SqT.of (K := X.K) t2)
    have k1 : IntsAre i1.toArray.toList [c.1, c.2] := intsAre_of r1
    have k2 : IntsAre i2.toArray.toList [c'.1, c'.2] := intsAre_of r2
    have v1 : IsTup z.heap p i1.toArray := by
      obtain ⟨o, e, rest⟩ := u1
      exact ⟨o, ok _ _ e, rest⟩
    have v2 : IsTup z.heap p' i2.toArray := by
      obtain ⟨o, e, rest⟩ := u2
      exact ⟨o, ok _ _ e, rest⟩
    have e1 : cs.getD i (0, 0) = c := by rw [List.getD_eq_getElem?_getD, c1]; rfl
    have e2 : cs.getD j (0, 0) = c' := by rw [List.getD_eq_getElem?_getD, c2]; rfl
    dsimp only at hq
    rw [e1, e2, ← lex_less] at hq
    exact HT.lt_tupInts v1 v2 k1 k2 hu hq
  · obtain ⟨g, tk, rfl, kept⟩ := PySem.W.moved_old e rfl mv
    obtain ⟨p, c, p1, c1, rfl, t1⟩ := key _ x hx
    obtain ⟨b1, b2⟩ := argBest_less (fun i => cs.getD i (0, 0)) (its.toArray.size - 1)
    refine ⟨.ref p, H, I.kept kept, rfl, q _ p c p1 c1 fun z hz => ?_⟩
    obtain ⟨i, hi, rfl⟩ := List.mem_iff_getElem.mp hz
    have h1 := b2 i (by rw [List.size_toArray]; omega)
    have e1 : cs.getD i (0, 0) = cs[i] := by rw [List.getD_eq_getElem?_getD, List.getElem?_eq_getElem hi]; rfl
    have e2 : cs.getD (argBest (fun i j => less (cs.getD i (0, 0)) (cs.getD j (0, 0))) (its.toArray.size - 1)) (0, 0) = c := by rw [List.getD_eq_getElem?_getD, c1]; rfl
    rw [e1, e2] at h1
    exact h1
end Wa
/-! ## The walk: end_of, waiting_of, plan_of, time_of, first_behind -/
namespace Wa
open PySem PySem.Spec PyProof.Rows L2
theorem pair_last {α β : Type} {F : α → β → Prop} : ∀ {ys : List β} {xs : List α} {y : β}, Paired F xs (ys ++ [y]) → ∃ us x, xs = us ++ [x] ∧ Paired F us ys ∧ F x y
  | [], _, y, .cons r .nil => ⟨[], _, rfl, .nil, r⟩
  | z :: ys, _, y, .cons r t => by
    obtain ⟨us, x, e, h1, h2⟩ := pair_last t
    rw [e]
    exact ⟨_ :: us, x, rfl, .cons r h1, h2⟩
theorem first_at {α : Type} : ∀ {l : List α} {i : Nat} {x : α}, l[i]? = some x → ∃ j : Nat, l[j]? = some x ∧ ∀ k : Nat, k < j → l[k]? ≠ some x
  | [], i, x, h => by simp at h
  | a :: l, i, x, h => by
    by_cases e : a = x
    · exact ⟨0, by rw [e]; rfl, fun k hk => absurd hk (Nat.not_lt_zero _)⟩
    · match i, h with
      | 0, h => exact absurd (Option.some.inj h) e
      | i + 1, h =>
        obtain ⟨j, h1, h2⟩ := first_at (l := l) (i := i) h
        refine ⟨j + 1, h1, fun k hk => ?_⟩
        match k, hk with
        | 0, _ => exact fun q => e (Option.some.inj q)
        | k + 1, hk => exact h2 k (by omega)
/-- dict(order)[n] -/
theorem merge_look (n : Int) : ∀ (o : Order) (acc : List (Key × V)), (o.map Prod.fst).Nodup → valV (mergeK acc (o.map fun x => ((Sum.inl x.1 : Key), V.int x.2))) (Sum.inl n) = match o.lookup n with
    | some t => some (.int t)
    | none => valV acc (Sum.inl n)
  | [], acc, _ => rfl
  | x :: r, acc, nd => by
    obtain ⟨n1, n2⟩ := List.nodup_cons.mp nd
    have ih := merge_look n r (putK acc (Sum.inl x.1) (.int x.2)) n2
    show valV (mergeK (putK acc (Sum.inl x.1) (.int x.2)) (r.map fun x => ((Sum.inl x.1 : Key), V.int x.2))) (Sum.inl n) = _
    rw [ih, valV_put]
    obtain ⟨a, t⟩ := x
    by_cases e : n = a
    · subst e
      have hn : r.lookup n = none := by
        rw [List.lookup_eq_none_iff]
        intro p hp
        rw [bne_iff_ne]
        intro q
        exact n1 (List.mem_map.mpr ⟨p, hp, q.symm⟩)
      rw [hn, List.lookup_cons, beq_self_eq_true]
      dsimp only
      rw [if_pos rfl]
    · rw [List.lookup_cons, show (n == a) = false from by simp [e]]
      dsimp only
      rw [if_neg (fun q => e (Sum.inl.inj q))]
theorem look_in : ∀ {o : Order} {n : Int}, n ∈ o.map Prod.fst → o.lookup n = some (timeOf o n)
  | x :: r, n, h => by
    obtain ⟨a, t⟩ := x
    unfold timeOf
    rw [List.lookup_cons]
    by_cases e : n = a
    · rw [show (n == a) = true from by simp [e]]
      rfl
    · rw [show (n == a) = false from by simp [e]]
      have h' : n ∈ r.map Prod.fst := by
        rcases List.mem_cons.mp h with q | q
        · exact absurd q e
        · exact q
      have ih := look_in h'
      dsimp only
      rw [ih]
      rfl
theorem cut_one (xs : List V) : cutV xs none (some 1) = xs.take 1 := by
  unfold cutV
  have e : HT.sIx xs.length xs.length (some ((1 : Nat) : Int)) = min 1 xs.length := HT.sIx_nat ..
  rw [HT.sIx_none, show (some (1 : Int)) = some ((1 : Nat) : Int) from rfl, e, List.drop_zero, Nat.sub_zero]
  cases xs with
  | nil => rfl
  | cons x r => rw [List.length_cons, show min 1 (r.length + 1) = 1 by omega]
theorem dict_pairs {K : PySem.W.Frag} {H : Hp} : ∀ {ps : List Addr} {o : Order}, Paired (P2 H) ps o → Paired (fun p kv => SqT K H p [kV kv.1, kv.2]) ps (o.map fun x => ((Sum.inl x.1 : Key), V.int x.2))
  | _, _, .nil => .nil
  | _, _, .cons r t => .cons (SqT.of r) (dict_pairs t)
theorem room65 {k : Nat} {A : Around} (r : Room k A) : A.units + 65 < cLine := by
  have := r.un
  omega
abbrev sEnd : Stmt := top 8
abbrev sWaitingOf : Stmt := top 9
abbrev sPlanOf : Stmt := top 10
abbrev sTime : Stmt := top 11
abbrev sBehind : Stmt := top 12
def spEnd : Sp := fun vs H Q _ => ∃ (q : Addr) (o : Order), vs = [.ref q] ∧ Pairs H q o ∧ ∀ H', Same H H' → Q (.int (endOf o)) H'
def spWaitingOf (C : Addr) : Sp := fun vs H Q _ => ∃ (a q : Addr) (m : M) (cs : List Addr) (o : Order), vs = [.ref a, .ref q] ∧ Sky C H a m cs ∧ Pairs H q o ∧ o.length < 16777216 ∧ (∀ x ∈ o, Has m x.1) ∧ ∀ H', Same H H' → Q (.int (m.waitingOf o)) H'
def spPlanOf (C : Addr) : Sp := fun vs H Q _ => ∃ (a : Addr) (m : M) (cs : List Addr) (sh : Int), vs = [.ref a, .int sh] ∧ Sky C H a m cs ∧ m.Wf ∧ (m.planOf sh = none → ∀ H', Same H H' → Q .non H') ∧
  (∀ o, m.planOf sh = some o → ∀ H' q, Same H H' → Pairs H' q o → Q (.ref q) H')
def spTime : Sp := fun vs H Q _ => ∃ (q : Addr) (o : Order) (n : Int), vs = [.ref q, .int n] ∧ Pairs H q o ∧ (o.map Prod.fst).Nodup ∧ n ∈ o.map Prod.fst ∧ ∀ H', Same H H' → Q (.int (timeOf o n)) H'
def spBehind (C : Addr) : Sp := fun vs H Q _ => ∃ (a q : Addr) (m : M) (cs : List Addr) (o : Order) (n : Int), vs = [.ref a, .ref q, .int n] ∧ Sky C H a m cs ∧ m.Wf ∧ Pairs H q o ∧ o.length ≤ 8 ∧ (o.map Prod.fst).Nodup ∧ n ∈ o.map Prod.fst ∧ (∀ x ∈ o, Has m x.1) ∧
  ∀ H' p, Same H H' → Ints H' p (m.firstBehind o n) → Q (.ref p) H'
section
variable {P : Program} {w : World} {K : PySem.W.Frag} {mg : Str → Option Value} {base : Heap} {C B : Addr}
theorem scEnd : FnScope ["order"] ["order"] (defScope sEnd) := ⟨rfl, rfl, rfl, by decide +kernel, rfl, by decide +kernel, by decide +kernel⟩
theorem ok_end {f : Addr} {fd : FuncData} (F : Fun K "end_of" "end_of" sEnd f fd) : FnOk P w K mg base CX0 1 f fd ["order"] spEnd := by
  refine F.ok scEnd (fun vs H Q E h => ?_) (fun cdv A outer s H vs Q E hr h => ?_)
  · obtain ⟨q, o, rfl, _⟩ := h
    rfl
  · obtain ⟨q, o, rfl, hq, k⟩ := h
    refine ⟨_, pss_cons (ps_if (pt_cmpR (op_eqD hr.units) (pv 0) (pe_lst pa_nil) (nomark _)) (pss_one (ps_ret pe_int)) pss_nil)
      (pss_one (ps_ret (pe_ix ix_tup (pe_ix ix_list (pv 0) (pe_un un_neg pe_int) (fun _ _ => rfl)) pe_int (fun _ _ => rfl)))), ?_⟩
    refine ⟨_, rfl, Nat.zero_le _, fun p hp => ?_⟩
    have s1 := Same.new (o := .lst []) hp
    refine ⟨_, _, dpO (hq.same s1), dp0 upd_same, shO _, sh0, _, rfl, ?_⟩
    show if PyData.eqv (.list (o.map d2)) (.list []) = true then _ else _
    rw [eqv_nil]
    rcases List.eq_nil_or_concat o with e | ⟨o', x, e⟩
    · subst e
      exact iteT (k _ s1)
    · rw [List.concat_eq_append] at e
      subst e
      have e1 : ((o' ++ [x]).map d2).isEmpty = false := by
        rw [List.map_append]
        cases o'.map d2 <;> rfl
      rw [e1]
      refine iteF ?_
      obtain ⟨ps, h1, h2⟩ := hq
      obtain ⟨us, t, rfl, h3, h4⟩ := pair_last h2
      have h5 := s1 _ _ h1
      rw [List.map_append] at h5
      refine ⟨_, rfl, 1, rfl, q, _, _, _, rfl, rfl, SqL.of h5, atI_last _ _, t, _, 1, _, rfl, rfl, SqT.of (s1 _ _ h4), at_of (j := 1) rfl rfl, ?_⟩
      have e2 : endOf (o' ++ [x]) = x.2 := by
        unfold endOf
        rw [List.getLast?_concat]
      rw [e2] at k
      exact k _ s1
theorem scWaitingOf : FnScope ["sky", "order", "number", "time"] ["sky", "order"] (defScope sWaitingOf) := ⟨rfl, rfl, rfl, by decide +kernel, rfl, by decide +kernel, by decide +kernel⟩
theorem ok_waitingOf {f : Addr} {fd : FuncData} (F : Fun K "waiting_of" "waiting_of" sWaitingOf f fd) (T : Txt K mg C B) : FnOk P w K mg base CX0 1 f fd ["sky", "order"] (spWaitingOf C) := by
  refine F.ok scWaitingOf (fun vs H Q E h => ?_) (fun cdv A outer s H vs Q E hr h => ?_)
  · obtain ⟨a, q, m, cs, o, rfl, _⟩ := h
    rfl
  · obtain ⟨a, q, m, cs, o, rfl, ⟨dx, R, P', L, W, rs, rfl, S⟩, hq, len, ho, k⟩ := h
    refine ⟨_, pss_one (ps_ret (pe_callB (cr_sum rfl) (by rfl) T.gSum (by decide +kernel) (pa_cons (pe_lc (own := [("number", 2), ("time", 3)]) (g := gTup K 2 (gCons (gName 2) (gCons (gName 3) gNil))) (tt := tYes) (te := tOp (rI0 fun i j => .int (i - j)) (tVar 3) (tOp (rIxT K) (tOp (rIxL K) (tFld K (tVar 0) "planes") (tVar 2)) (tC (.int 1)))) rfl scWaitingOf.nd (pi_list (pv 1))
      (blkOk_by (N := ["sky", "order", "number", "time"]) (sc := defScope sWaitingOf) (by decide +kernel))
      (fun _ _ _ _ _ => pg_tup rfl (pgs_cons (pg_name (i := 2) scWaitingOf.nd rfl (Or.inl rfl)) (pgs_cons (pg_name (i := 3) scWaitingOf.nd rfl (Or.inl rfl)) pgs_nil))) (fun _ _ _ _ _ => pts_nil)
      (fun _ _ _ _ _ => pe_op op_sub (pv 3) (pe_ix ix_tup (pe_ix ix_list (pe_fld (pv 0) rfl) (pv 2) (fun _ _ => rfl)) pe_int (fun _ _ => rfl)))) pa_nil))), ?_⟩
    dsimp only [tRet, tCB, tCons]
    refine lc_pairs (i1 := 2) (i2 := 3) (o := o) (f := fun x => x.2 - (m.plane x.1).2.1) len (fun R k => ⟨_, rfl, k _ _ (Same.refl H) hq⟩) (fun _ _ => rfl) (fun x H' hx s1 R k => ?_) fun H1 D s1 h1 n1 => ?_
    · obtain ⟨xs, tn, q1, q2, q3⟩ := plane_at (S.planes.same s1) (ho x hx)
      exact ⟨_, rfl, _, rfl, a, C, dx, _, _, rfl, s1 _ _ S.obj, T.cl, T.nP, sF_planes _ _ _ _ _, _, rfl, P', _, _, _, rfl, rfl, SqL.of q1, q2, tn, _, 1, _, rfl, rfl, SqT.of q3, at_of (j := 1) rfl rfl, _, _, rfl, rfl, k _ (Same.refl _)⟩
    · exact ⟨D, _, rfl, SqL.of h1, k _ s1⟩
theorem scPlanOf : FnScope ["sky", "shift", "orders", "costs", "order"] ["sky", "shift"] (defScope sPlanOf) := ⟨rfl, rfl, rfl, by decide +kernel, rfl, by decide +kernel, by decide +kernel⟩
theorem ok_planOf {f : Addr} {fd : FuncData} (F : Fun K "plan_of" "plan_of" sPlanOf f fd) (T : Txt K mg C B) (GA : Fn P w K mg base 4 "allowed" ["sky", "shift"] (spAllowed C)) (GE : Fn P w K mg base 1 "end_of" ["order"] spEnd)
    (GW : Fn P w K mg base 1 "waiting_of" ["sky", "order"] (spWaitingOf C)) : FnOk P w K mg base CX0 5 f fd ["sky", "shift"] (spPlanOf C) := by
  refine F.ok scPlanOf (fun vs H Q E h => ?_) (fun cdv A outer s H vs Q E hr h => ?_)
  · obtain ⟨a, m, cs, sh, rfl, _⟩ := h
    rfl
  · obtain ⟨a, m, cs, sh, rfl, Sk, Wf, kN, kS⟩ := h
    have hr1 : Room 1 _ := hr.mono (by decide)
    refine ⟨_, pss_cons (ps_set (i := 2) scPlanOf.nd rfl (Or.inl rfl) (pe_fn GA hr rfl (pa_cons (pv 0) (pa_cons (pv 1) pa_nil))))
      (pss_cons (ps_if (pt_cmpR (op_eqD hr.units) (pv 2) (pe_lst pa_nil) (nomark _)) (pss_one (ps_ret pe_non)) pss_nil)
      (pss_cons (ps_setLc (i := 3) (own := [("order", 4)]) (g := gName 4) (tt := tYes) rfl scPlanOf.nd rfl rfl (sw_true rfl rfl rfl (by decide +kernel)) (pi_list (pv 2)) (blkOk_by (N := ["sky", "shift", "orders", "costs", "order"]) (sc := defScope sPlanOf) (by decide +kernel))
        (fun _ _ _ _ _ => pg_name (i := 4) scPlanOf.nd rfl (Or.inl rfl)) (fun _ _ _ _ _ => pts_nil)
        (fun _ _ _ _ _ => pe_tup (pa_cons (pe_fn GE hr1 rfl (pa_cons (pv 4) pa_nil)) (pa_cons (pe_fn GW hr1 rfl (pa_cons (pv 0) (pa_cons (pv 4) pa_nil))) pa_nil))))
      (pss_one (ps_ret (pe_ix ix_list (pv 2) (pe_bm PySem.F.plainAttrs_list PySem.F.slot_list_index PySem.F.type_list_index (mt_indexD (room65 hr)) (pv 3)
        (pa_cons (pe_callB (cr_minT rfl (hu_of hr)) (by rfl) T.gMin (by decide +kernel) (pa_cons (pv 3) pa_nil)) pa_nil)) (fun _ _ => rfl)))))), ?_⟩
    refine ⟨_, rfl, _, rfl, a, m, cs, sh, rfl, Sk, Wf, fun H1 O s1 hO => ?_⟩
    refine ⟨_, rfl, Nat.zero_le _, fun p hp => ?_⟩
    have s2 := Same.new (o := .lst []) hp
    have s02 := s1.trans s2
    refine ⟨_, _, dpOs (hO.same s2), dp0 upd_same, shOs _, sh0, _, rfl, ?_⟩
    rw [eqv_nil]
    have lenA : (m.allowed sh).length ≤ 16777216 := M.allowed_len Wf.wl
    cases e : m.allowed sh with
    | nil => exact iteT (kN (by unfold M.planOf; rw [e]; rfl) _ s02)
    | cons r l =>
      refine iteF ?_
      obtain ⟨qs, h1, h2⟩ := hO.same s2
      dsimp only [tSeq, tAsg]
      refine ⟨_, rfl, O, rfl, ⟨_, SqL.of h1⟩, fun D hD => ?_⟩
      refine lc_list (K := K) (a := O) (xs := qs.map V.ref) (fun i H' => Same (upd H1 p (.lst [])) H' ∧ Pairs H' D (((m.allowed sh).take i).map m.cost)) ⟨Same.new hD, [], upd_same, .nil⟩ (fun i H' _ ⟨s3, _⟩ => SqL.of (s3 _ _ h1)) ?_ ?_
      · rintro i x H2 hi ⟨s3, ps, d1, d2⟩
        obtain ⟨q, hq, rfl⟩ := map_at hi
        obtain ⟨o, ho, hqo⟩ := pair_to h2 hq
        have Qe := M.allowed_que (List.mem_of_getElem? ho)
        have lw := Wf.wl
        refine ⟨rfl, tYes_then ?_⟩
        refine ⟨_, rfl, q, o, rfl, hqo.same s3, fun H3 s4 => ⟨_, rfl, _, rfl, a, q, m, cs, o, rfl, Sk.same ((s02.trans s3).trans s4), hqo.same (s3.trans s4), ?_, fun x hx => waits_has Wf (Qe.sub _ (List.mem_map.mpr ⟨x, hx, rfl⟩)), fun H4 s5 => ⟨(by show 2 ≤ sizeLine; decide), fun t ht => ?_⟩⟩⟩
        · rw [Qe.len]
          omega
        · have s6 : Same H2 (upd H4 t (.tup [V.int (endOf o), V.int (m.waitingOf o)])) := (s4.trans s5).trans (Same.new ht)
          have dD := s6 _ _ d1
          have li : i < (m.allowed sh).length := (List.getElem?_eq_some_iff.mp ho).1
          refine ⟨_, dD, lt_line ?_, Same.put (s3.trans s6) hD, ps ++ [t], ?_, ?_⟩
          · rw [List.length_map, d2.length, List.length_map, List.length_take]
            omega
          · rw [upd_same, List.map_append]
            rfl
          · rw [take_one ho, List.map_append]
            have tup : ∀ (t' : Addr) (ys : List V), upd H4 t (.tup [V.int (endOf o), V.int (m.waitingOf o)]) t' = some (.tup ys) → upd (upd H4 t (.tup [V.int (endOf o), V.int (m.waitingOf o)])) D (.lst (ps.map V.ref ++ [V.ref t])) t' = some (.tup ys) := fun t' ys e =>
              (upd_ne (ne_of e dD (by intro z; cases z))).trans e
            exact pair_app (d2.mono fun _ _ g => tup _ _ (s6 _ _ g)) (.cons (tup _ _ upd_same) .nil)
      · rintro H2 ⟨s3, hP⟩
        rw [List.length_map, h2.length, List.take_length] at hP
        have dP : Dp K H2 (V.ref D) (.list (((m.allowed sh).map m.cost).map Wa.d2)) := dpO hP
        obtain ⟨ps, d1, d2⟩ := hP
        have ne : 0 < ((m.allowed sh).map m.cost).length := by
          rw [List.length_map, e]
          exact Nat.succ_pos _
        refine ⟨_, rfl, _, rfl, .inl ⟨rfl, _, SqL.of d1⟩, _, rfl, D, ps, _, rfl, SqL.of d1, d2, ne, fun j t c hj hc hm => ?_⟩
        obtain ⟨j', j1, j2⟩ := first_at hc
        obtain ⟨o, ho, ec⟩ := map_at j1
        obtain ⟨q, hq, hqo⟩ := pair_at h2 ho
        have ht : P2 H2 t c := by
          obtain ⟨c', hc', g⟩ := pair_to d2 hj
          rw [hc] at hc'
          cases hc'
          exact g
        refine ⟨D, _, Wa.d2 c, _, j', Wa.d2 c, rfl, rfl, dP, dp2 ht, shO ((m.allowed sh).map m.cost), sh2 c, at_map j1, ?_, fun i z hi hz => ?_, O, _, _, _, rfl, rfl, SqL.of (s3 _ _ h1), at_of (j := j') rfl (at_map hq), ?_⟩
        · rw [eqv2]
          exact decide_eq_true rfl
        · obtain ⟨c', hc', rfl⟩ := map_at hz
          rw [eqv2]
          exact decide_eq_false fun g => j2 i hi (by rw [← g]; exact hc')
        · refine kS o (M.least_is ho (fun z hz => ?_) fun i z hi hz => ?_) _ q (s02.trans s3) (hqo.same s3)
          · rw [← ec]
            exact hm _ (List.mem_map.mpr ⟨z, hz, rfl⟩)
          · rw [← ec]
            exact fun g => j2 i hi (by rw [← g]; exact at_map hz)
theorem scTime : FnScope ["order", "number"] ["order", "number"] (defScope sTime) := ⟨rfl, rfl, rfl, by decide +kernel, rfl, by decide +kernel, by decide +kernel⟩
theorem ok_time {f : Addr} {fd : FuncData} (F : Fun K "time_of" "time_of" sTime f fd) (T : Txt K mg C B) : FnOk P w K mg base CX0 1 f fd ["order", "number"] spTime := by
  refine F.ok scTime (fun vs H Q E h => ?_) (fun cdv A outer s H vs Q E hr h => ?_)
  · obtain ⟨q, o, n, rfl, _⟩ := h
    rfl
  · obtain ⟨q, o, n, rfl, ⟨ps, h1, h2⟩, nd, hn, k⟩ := h
    refine ⟨_, pss_one (ps_ret (pe_dget (hu_of hr) (pe_callTy (call_dictP rfl) (by rfl) T.gDict (by decide +kernel) (pa_cons (pv 0) pa_nil)) (pv 1) (fun _ _ => rfl))), ?_⟩
    refine ⟨_, rfl, q, ps, o.map fun x => ((Sum.inl x.1 : Key), V.int x.2), rfl, SqL.of h1, dict_pairs h2, fun p hp => ⟨_, rfl, p, _, rfl, ?_, k _ (Same.new hp)⟩⟩
    have g := DGet.k (H := upd H p (.dK (mergeK [] (o.map fun x => ((Sum.inl x.1 : Key), V.int x.2))))) (k := Sum.inl n) upd_same
    rw [merge_look n o [] nd, look_in hn] at g
    exact g
theorem scBehind : FnScope ["sky", "order", "number", "own", "some", "other", "time"] ["sky", "order", "number"] (defScope sBehind) := ⟨rfl, rfl, rfl, by decide +kernel, rfl, by decide +kernel, by decide +kernel⟩
theorem ok_behind {f : Addr} {fd : FuncData} (F : Fun K "first_behind" "first_behind" sBehind f fd) (T : Txt K mg C B) (GT : Fn P w K mg base 1 "time_of" ["order", "number"] spTime) (GC : Mt P w K mg base C 1 "clear_from" ["self", "ahead", "time", "number"] (spClear C)) :
    FnOk P w K mg base CX0 2 f fd ["sky", "order", "number"] (spBehind C) := by
  refine F.ok scBehind (fun vs H Q E h => ?_) (fun cdv A outer s H vs Q E hr h => ?_)
  · obtain ⟨a, q, m, cs, o, n, rfl, _⟩ := h
    rfl
  · obtain ⟨a, q, m, cs, o, n, rfl, Sk, Wf, hq, len, nd, hn, ho, k⟩ := h
    refine ⟨_, pss_cons (ps_set (i := 3) scBehind.nd rfl (Or.inr rfl) (pe_fn GT hr rfl (pa_cons (pv 1) (pa_cons (pv 2) pa_nil))))
      (pss_cons (ps_if (pt_cmpR op_eq (pv 3) (pe_ix ix_tup (pe_ix ix_list (pe_fld (pv 0) rfl) (pv 2) (fun _ _ => rfl)) pe_int (fun _ _ => rfl)) (nomark _)) (pss_one (ps_ret (pe_lst pa_nil))) pss_nil)
      (pss_cons (ps_setLc (i := 4) (own := [("other", 5), ("time", 6)]) (g := gTup K 2 (gCons (gName 5) (gCons (gName 6) gNil))) rfl scBehind.nd rfl rfl (sw_true rfl rfl rfl (by decide +kernel)) (pi_list (pe_op op_cat (pe_fld (pv 0) rfl) (pv 1)))
        (blkOk_by (N := ["sky", "order", "number", "own", "some", "other", "time"]) (sc := defScope sBehind) (by decide +kernel))
        (fun _ _ _ _ _ => pg_tup rfl (pgs_cons (pg_name (i := 5) scBehind.nd rfl (Or.inl rfl)) (pgs_cons (pg_name (i := 6) scBehind.nd rfl (Or.inl rfl)) pgs_nil)))
        (fun _ _ _ _ _ => pts_one (pt_cmpR op_eq (pe_mt GC hr (pv 0) T.cl (pa_cons (pv 5) (pa_cons (pv 6) (pa_cons (pv 2) pa_nil)))) (pv 3) (nomark _))) (fun _ _ _ _ _ => pv 5))
      (pss_one (ps_ret (pe_slice sl_list (pv 4) po_none (po_some pe_int)))))), ?_⟩
    have lw := Wf.wl
    have lp := Wf.pl
    have ll := Wf.ll
    have hasn : Has m n := by
      obtain ⟨x, hx, e⟩ := List.mem_map.mp hn
      rw [← e]
      exact ho x hx
    refine ⟨_, rfl, _, rfl, q, o, n, rfl, hq, nd, hn, fun H1 s1 => ?_⟩
    obtain ⟨dx, R, P', L, W, rs, ecs, S⟩ := id (Sk.same s1)
    obtain ⟨xs, tn, q1, q2, q3⟩ := plane_at S.planes hasn
    refine ⟨_, rfl, _, rfl, a, C, dx, _, _, rfl, S.obj, T.cl, T.nP, sF_planes _ _ _ _ _, _, rfl, P', _, _, _, rfl, rfl, SqL.of q1, q2, tn, _, 1, _, rfl, rfl, SqT.of q3, at_of (j := 1) rfl rfl, rfl, _, rfl, ?_⟩
    unfold M.firstBehind at k
    by_cases c : timeOf o n = (m.plane n).2.1
    · rw [if_pos c] at k
      rw [decide_eq_true (congrArg V.int c)]
      exact iteT ⟨Nat.zero_le _, fun p hp => k _ p (s1.trans (Same.new hp)) upd_same⟩
    · rw [if_neg c] at k
      rw [decide_eq_false (fun z => c (V.int.inj z))]
      refine iteF ?_
      dsimp only [tNext, tSeq, tAsg]
      refine lc_pairsF (i1 := 5) (i2 := 6) (o := m.landed ++ o) (p := fun x => decide (m.clear x.1 x.2 n = timeOf o n)) (f := Prod.fst) ?_ (fun Rr kk => ?_) (fun _ _ => rfl) (fun x H2 hx s2 Rr kk => ?_) (fun x H2 hx s2 Rr kk => ⟨_, rfl, kk _ (Same.refl _)⟩) fun H2 D s2 h2 n2 => ?_
      · rw [List.length_append]
        omega
      · obtain ⟨ls, l1, l2⟩ := S.landed
        obtain ⟨os, o1, o2⟩ := hq.same s1
        refine ⟨_, rfl, a, C, dx, _, _, rfl, S.obj, T.cl, T.nL, sF_landed _ _ _ _ _, _, rfl, L, q, _, _, rfl, rfl, l1, o1, le_line ?_, fun p hp => kk p _ (Same.new hp) ⟨ls ++ os, ?_, pair_app (l2.mono fun _ _ g => (Same.new hp) _ _ g) (o2.mono fun _ _ g => (Same.new hp) _ _ g)⟩⟩
        · rw [List.length_map, List.length_map, l2.length, o2.length]
          omega
        · rw [upd_same, List.map_append]
      · have hasx : Has m x.1 := by
          rcases List.mem_append.mp hx with hx | hx
          · exact Wf.lb x hx
          · exact ho x hx
        refine ⟨_, rfl, a, dx, _, rfl, s2 _ _ S.obj, sF_no _ _ _ _ _ (by decide +kernel), _, rfl, _, rfl, _, rfl, a, m, cs, x.1, x.2, n, rfl, (Sk.same s1).same s2, Wf, hasx, hasn, _, rfl, rfl, _, rfl, ?_⟩
        have e : decide (V.int (m.clear x.1 x.2 n) = V.int (timeOf o n)) = decide (m.clear x.1 x.2 n = timeOf o n) := decide_eq_decide.mpr ⟨fun z => V.int.inj z, fun z => congrArg V.int z⟩
        rw [e]
        exact kk _ (Same.refl _)
      · refine ⟨_, rfl, 1, rfl, D, _, rfl, SqL.of h2, fun p hp => k _ p ((s1.trans s2).trans (Same.new hp)) ?_⟩
        show _ = some (HO.lst _)
        rw [upd_same, cut_one, ← List.map_take]
        rfl
end
end Wa
/-! ## The walk: what is told -/
namespace Wa
open PySem PySem.Spec PyProof.Rows L2
abbrev sListed : Stmt := top 16
abbrev sPairsListed : Stmt := top 17
abbrev sToldPlan : Stmt := top 18
abbrev sToldLanding : Stmt := top 19
abbrev sToldMay : Stmt := top 20
abbrev sToldWhy : Stmt := top 21
abbrev sToldMany : Stmt := top 22
abbrev sToldState : Stmt := top 23
def spListed : Sp := fun vs H Q _ => ∃ (a : Addr) (ns : List Int), vs = [.ref a] ∧ Ints H a ns ∧ ns.length < 16777216 ∧ ∀ H' p, Same H H' → H p = none → Ints H' p (listed ns) → Q (.ref p) H'
def spPairsListed : Sp := fun vs H Q _ => ∃ (a : Addr) (o : Order), vs = [.ref a] ∧ Pairs H a o ∧ o.length ≤ 1000 ∧ ∀ H' p, Same H H' → H p = none → Ints H' p (listed (pairs o)) → Q (.ref p) H'
def spToldPlan (C : Addr) : Sp := fun vs H Q _ => ∃ (a : Addr) (m : M) (cs : List Addr) (sh : Int), vs = [.ref a, .int sh] ∧ Sky C H a m cs ∧ m.Wf ∧ ∀ H' p, Same H H' → H p = none → Ints H' p (m.toldPlan sh) → Q (.ref p) H'
def spToldLanding (C : Addr) : Sp := fun vs H Q _ => ∃ (a : Addr) (m : M) (cs : List Addr), vs = [.ref a] ∧ Sky C H a m cs ∧ m.Wf ∧ ∀ H' p, Sky C H' a m.toldLanding.1 cs → But cs H H' → H p = none → Ints H' p m.toldLanding.2 → Q (.ref p) H'
def spToldMay (C : Addr) : Sp := fun vs H Q _ => ∃ (a : Addr) (m : M) (cs : List Addr) (n t : Int), vs = [.ref a, .int n, .int t] ∧ Sky C H a m cs ∧ m.Wf ∧ ∀ H' p, Same H H' → H p = none → Ints H' p (m.toldMay n t) → Q (.ref p) H'
def spToldWhy (C : Addr) : Sp := fun vs H Q _ => ∃ (a : Addr) (m : M) (cs : List Addr) (n : Int), vs = [.ref a, .int n] ∧ Sky C H a m cs ∧ m.Wf ∧ ∀ H' p, Same H H' → H p = none → Ints H' p (m.toldWhy n) → Q (.ref p) H'
def spToldMany (C : Addr) : Sp := fun vs H Q _ => ∃ (a : Addr) (m : M) (cs : List Addr), vs = [.ref a] ∧ Sky C H a m cs ∧ m.Wf ∧ ∀ H' p, Same H H' → H p = none → Ints H' p m.toldMany → Q (.ref p) H'
def spToldState (C : Addr) : Sp := fun vs H Q _ => ∃ (a : Addr) (m : M) (cs : List Addr), vs = [.ref a] ∧ Sky C H a m cs ∧ m.Wf ∧ ∀ H' p, Same H H' → H p = none → Ints H' p m.toldState → Q (.ref p) H'
theorem But.free {cs : List Addr} {H H' : Hp} {p : Addr} (b : But cs H H') (l : ∀ c ∈ cs, ∃ xs, H' c = some (.lst xs)) (h : H' p = none) : H p = none := by
  cases e : H p with
  | none => rfl
  | some o =>
    by_cases m : p ∈ cs
    · obtain ⟨xs, f⟩ := l p m
      rw [h] at f
      cases f
    · rw [b p o e m] at h
      cases h
theorem ints_new {H : Hp} {p : Addr} {xs : List V} {ns : List Int} (e : xs = ns.map V.int) : Ints (upd H p (.lst xs)) p ns := by
  rw [e]
  exact upd_same
/-- 0 of one that waits -/
theorem whyNot_in {m : M} {n : Int} (h : ¬ m.whyNot n < 0) : n ∈ m.waiting := by
  unfold M.whyNot at h
  split at h
  · exact absurd (by decide) h
  · split at h
    · exact absurd (by decide) h
    · next d =>
      cases e : m.waiting.contains n with
      | false => exact absurd e d
      | true => exact List.contains_iff_mem.mp e
section
variable {P : Program} {w : World} {K : PySem.W.Frag} {mg : Str → Option Value} {base : Heap} {C B : Addr}
theorem scListed : FnScope ["numbers"] ["numbers"] (defScope sListed) := ⟨rfl, rfl, rfl, by decide +kernel, rfl, by decide +kernel, by decide +kernel⟩
theorem ok_listed {f : Addr} {fd : FuncData} (F : Fun K "listed" "listed" sListed f fd) (T : Txt K mg C B) : FnOk P w K mg base CX0 1 f fd ["numbers"] spListed := by
  refine F.ok scListed (fun vs H Q E h => ?_) (fun cdv A outer s H vs Q E hr h => ?_)
  · obtain ⟨a, ns, rfl, _⟩ := h
    rfl
  · obtain ⟨a, ns, rfl, ha, len, k⟩ := h
    refine ⟨_, pss_one (ps_ret (pe_op op_cat (pe_lst (pa_cons (pe_callB call_len_seq (by rfl) T.gLen PySem.boot_len (pa_cons (pv 0) pa_nil)) pa_nil)) (pv 0))), ?_⟩
    refine ⟨_, rfl, a, _, rfl, .inl (SqL.of ha), (by show 1 ≤ sizeLine; decide), fun l hl => ⟨_, rfl, l, a, _, _, rfl, rfl, upd_same, (Same.new hl) _ _ ha, le_line ?_, fun p hp => ?_⟩⟩
    · show 1 + (ns.map V.int).length ≤ _
      rw [List.length_map]
      omega
    · refine k _ p ((Same.new hl).trans (Same.new hp)) (Same.free (Same.new hl) hp) (ints_new ?_)
      rw [List.length_map]
      rfl
theorem scPairsListed : FnScope ["pairs", "found", "number", "time"] ["pairs"] (defScope sPairsListed) := ⟨rfl, rfl, rfl, by decide +kernel, rfl, by decide +kernel, by decide +kernel⟩
theorem ok_pairsListed {f : Addr} {fd : FuncData} (F : Fun K "pairs_listed" "pairs_listed" sPairsListed f fd) (GL : Fn P w K mg base 1 "listed" ["numbers"] spListed) : FnOk P w K mg base CX0 2 f fd ["pairs"] spPairsListed := by
  refine F.ok scPairsListed (fun vs H Q E h => ?_) (fun cdv A outer s H vs Q E hr h => ?_)
  · obtain ⟨a, o, rfl, _⟩ := h
    rfl
  · obtain ⟨a, o, rfl, ⟨ps, h1, h2⟩, len, k⟩ := h
    refine ⟨_, pss_cons (ps_set (i := 1) scPairsListed.nd rfl (Or.inl rfl) (pe_lst pa_nil))
      (pss_cons (ps_for PassesOwn.never rfl (pi_list (pv 0)) (pg_tup rfl (pgs_cons (pg_name (i := 2) scPairsListed.nd rfl (Or.inl rfl)) (pgs_cons (pg_name (i := 3) scPairsListed.nd rfl (Or.inl rfl)) pgs_nil)))
        (pss_one (ps_expr (pe_bm PySem.F.plainAttrs_list PySem.F.slot_list_extend PySem.F.type_list_extend mt_extend (pv 1) (pa_cons (pe_lst (pa_cons (pv 2) (pa_cons (pv 3) pa_nil))) pa_nil)))))
      (pss_one (ps_ret (pe_fn GL hr rfl (pa_cons (pv 1) pa_nil))))), ?_⟩
    refine ⟨Nat.zero_le _, fun Fd hF => ?_⟩
    have s0 : Same H (upd H Fd (.lst [])) := Same.new hF
    have bound : ∀ i, (pairs (o.take i)).length ≤ 2000 := fun i => by
      have e1 := pairs_len (o.take i)
      have e2 : (o.take i).length ≤ o.length := by
        rw [List.length_take]
        omega
      omega
    refine ⟨_, rfl, a, rfl, ⟨_, SqL.of (s0 _ _ h1)⟩, for_list (K := K) (a := a) (xs := ps.map V.ref) (fun i σ H' => ∃ v2 v3 : Option V, σ = [some (.ref a), some (.ref Fd), v2, v3] ∧ Same H H' ∧ Ints H' Fd (pairs (o.take i))) ⟨none, none, rfl, s0, upd_same⟩ (fun i σ H' _ ⟨_, _, _, s1, _⟩ => SqL.of (s1 _ _ h1)) ?_ ?_⟩
    · rintro i x σ H1 hi ⟨v2, v3, rfl, s1, hFd⟩
      obtain ⟨t, ht, rfl⟩ := map_at hi
      obtain ⟨q, hq, g⟩ := pair_to h2 ht
      have tf := take_flat (f := fun x : Int × Int => [x.1, x.2]) hq
      refine ⟨t, _, rfl, SqT.of (s1 _ _ g), rfl, _, _, rfl, _, _, rfl, rfl, _, rfl, .inl ⟨rfl, _, SqL.of hFd⟩, _, rfl, _, rfl, (by show 2 ≤ sizeLine; decide), fun l hl => ?_⟩
      refine ⟨Fd, l, _, _, rfl, rfl, (Same.new hl) _ _ hFd, upd_same, le_line ?_, _, _, rfl, Same.put (s1.trans (Same.new hl)) hF, ?_⟩
      · have := bound i
        rw [List.length_map]
        show (pairs (o.take i)).length + 2 ≤ _
        omega
      · unfold pairs
        rw [tf]
        exact ints_new (by rw [List.map_append]; rfl)
    · rintro σ H1 ⟨v2, v3, rfl, s1, hFd⟩
      have b := bound (ps.map V.ref).length
      rw [List.length_map, h2.length, List.take_length] at hFd b
      exact ⟨_, rfl, Fd, _, rfl, hFd, by omega, fun H2 p s2 fp hp => k _ p (s1.trans s2) (Same.free s1 fp) hp⟩
theorem scToldPlan : FnScope ["sky", "shift", "order"] ["sky", "shift"] (defScope sToldPlan) := ⟨rfl, rfl, rfl, by decide +kernel, rfl, by decide +kernel, by decide +kernel⟩
theorem ok_toldPlan {f : Addr} {fd : FuncData} (F : Fun K "told_plan" "told_plan" sToldPlan f fd) (T : Txt K mg C B) (GP : Fn P w K mg base 5 "plan_of" ["sky", "shift"] (spPlanOf C)) (GE : Fn P w K mg base 1 "end_of" ["order"] spEnd)
    (GL : Fn P w K mg base 2 "pairs_listed" ["pairs"] spPairsListed) : FnOk P w K mg base CX0 6 f fd ["sky", "shift"] (spToldPlan C) := by
  refine F.ok scToldPlan (fun vs H Q E h => ?_) (fun cdv A outer s H vs Q E hr h => ?_)
  · obtain ⟨a, m, cs, sh, rfl, _⟩ := h
    rfl
  · obtain ⟨a, m, cs, sh, rfl, Sk, Wf, k⟩ := h
    have hr1 : Room 1 _ := hr.mono (by decide)
    have hr2 : Room 2 _ := hr.mono (by decide)
    refine ⟨_, pss_cons (ps_set (i := 2) scToldPlan.nd rfl (Or.inl rfl) (pe_fn GP hr rfl (pa_cons (pv 0) (pa_cons (pv 1) pa_nil))))
      (pss_cons (ps_if (pt_cmpR op_isN (pv 2) pe_non (nomark _)) (pss_one (ps_ret (pe_lst (pa_cons (pe_const T.gNoPlan) pa_nil)))) pss_nil)
      (pss_one (ps_ret (pe_op op_cat (pe_lst (pa_cons (pe_fn GE hr1 rfl (pa_cons (pv 2) pa_nil)) pa_nil)) (pe_fn GL hr2 rfl (pa_cons (pv 2) pa_nil)))))), ?_⟩
    unfold M.toldPlan at k
    refine ⟨_, rfl, _, rfl, a, m, cs, sh, rfl, Sk, Wf, fun e H1 s1 => ?_, fun o e H1 q s1 hq => ?_⟩
    · rw [e] at k
      exact ⟨_, rfl, rfl, _, rfl, iteT ⟨(by show 1 ≤ sizeLine; decide), fun p hp => k _ p (s1.trans (Same.new hp)) (Same.free s1 hp) (ints_new rfl)⟩⟩
    · rw [e] at k
      have lo := (M.planOf_que e).len
      have lw := Wf.wl
      have lp := pairs_len o
      refine ⟨_, rfl, rfl, _, rfl, iteF ⟨_, rfl, q, o, rfl, hq, fun H2 s2 => ⟨(by show 1 ≤ sizeLine; decide), fun l hl => ⟨_, rfl, q, o, rfl, (hq.same s2).same (Same.new hl), by omega, fun H3 p s3 _ hp => ?_⟩⟩⟩⟩
      refine ⟨l, p, _, _, rfl, rfl, s3 _ _ upd_same, hp, le_line ?_, fun r hr => k _ r ((((s1.trans s2).trans (Same.new hl)).trans s3).trans (Same.new hr)) (Same.free (((s1.trans s2).trans (Same.new hl)).trans s3) hr) (ints_new ?_)⟩
      · rw [List.length_map, listed_len]
        show 1 + _ ≤ _
        omega
      · rw [List.map_cons]
        rfl
theorem scToldLanding : FnScope ["sky", "order", "number", "time"] ["sky"] (defScope sToldLanding) := ⟨rfl, rfl, rfl, by decide +kernel, rfl, by decide +kernel, by decide +kernel⟩
theorem ok_toldLanding {f : Addr} {fd : FuncData} (F : Fun K "told_landing" "told_landing" sToldLanding f fd) (T : Txt K mg C B) (GP : Fn P w K mg base 5 "plan_of" ["sky", "shift"] (spPlanOf C)) (GD : Mt P w K mg base C 1 "land" ["self", "number", "time"] (spLand C))
    (GL : Fn P w K mg base 1 "listed" ["numbers"] spListed) : FnOk P w K mg base CX0 6 f fd ["sky"] (spToldLanding C) := by
  refine F.ok scToldLanding (fun vs H Q E h => ?_) (fun cdv A outer s H vs Q E hr h => ?_)
  · obtain ⟨a, m, cs, rfl, _⟩ := h
    rfl
  · obtain ⟨a, m, cs, rfl, Sk, Wf, k⟩ := h
    have hr1 : Room 1 _ := hr.mono (by decide)
    refine ⟨_, pss_cons (ps_if (pt_cmpR (op_eqD hr.units) (pe_fld (pv 0) rfl) (pe_lst pa_nil) (nomark _)) (pss_one (ps_ret (pe_lst (pa_cons (pe_const T.gNoOne) pa_nil)))) pss_nil)
      (pss_cons (ps_set (i := 1) scToldLanding.nd rfl (Or.inl rfl) (pe_fn GP hr rfl (pa_cons (pv 0) (pa_cons (pe_fld (pv 0) rfl) pa_nil))))
      (pss_cons (ps_if (pt_cmpR op_isN (pv 1) pe_non (nomark _)) (pss_one (ps_ret (pe_lst (pa_cons (pe_const T.gNoPlan) pa_nil)))) pss_nil)
      (pss_cons (ps_asg (pe_ix ix_list (pv 1) pe_int (fun _ _ => rfl)) (pg_tup rfl (pgs_cons (pg_name (i := 2) scToldLanding.nd rfl (Or.inl rfl)) (pgs_cons (pg_name (i := 3) scToldLanding.nd rfl (Or.inl rfl)) pgs_nil))))
      (pss_cons (ps_expr (pe_mt GD hr1 (pv 0) T.cl (pa_cons (pv 2) (pa_cons (pv 3) pa_nil))))
      (pss_one (ps_ret (pe_op op_cat (pe_lst (pa_cons (pv 2) pa_nil)) (pe_fn GL hr1 rfl (pa_cons (pe_lst (pa_cons (pv 3) pa_nil)) pa_nil))))))))), ?_⟩
    obtain ⟨dx, R, P', L, W, rs, ecs, S⟩ := id Sk
    unfold M.toldLanding at k
    refine ⟨_, rfl, a, C, dx, _, _, rfl, S.obj, T.cl, T.nW, sF_waiting _ _ _ _ _, Nat.zero_le _, fun p hp => ?_⟩
    have s1 := Same.new (o := .lst []) hp
    refine ⟨_, _, dpI (S.waits.same s1), dp0 upd_same, shI _, sh0, _, rfl, ?_⟩
    rw [eqv_nil]
    cases e : m.waiting with
    | nil =>
      rw [if_pos e] at k
      exact iteT ⟨(by show 1 ≤ sizeLine; decide), fun q hq => k _ q (Sk.same (s1.trans (Same.new hq))) (But.of (s1.trans (Same.new hq))) (Same.free s1 hq) (ints_new rfl)⟩
    | cons n0 l0 =>
      rw [if_neg (by rw [e]; exact fun z => nomatch z)] at k
      refine iteF ⟨_, rfl, _, rfl, a, C, dx, _, _, rfl, s1 _ _ S.obj, T.cl, T.nS, sF_shift _ _ _ _ _, a, m, cs, m.shift, rfl, Sk.same s1, Wf, fun g H1 s2 => ?_, fun o g H1 q s2 hq => ?_⟩
      · rw [g] at k
        have s3 := s1.trans s2
        exact ⟨_, rfl, rfl, _, rfl, iteT ⟨(by show 1 ≤ sizeLine; decide), fun q hq => k _ q (Sk.same (s3.trans (Same.new hq))) (But.of (s3.trans (Same.new hq))) (Same.free s3 hq) (ints_new rfl)⟩⟩
      · have Qe := M.planOf_que g
        have lo := Qe.len
        match o, g, hq, Qe, lo with
        | [], _, _, _, lo =>
          rw [e] at lo
          cases lo
        | x :: o', g, ⟨ps, h1, h2⟩, Qe, lo =>
          rw [g] at k
          obtain ⟨t, ht, hx⟩ := pair_at h2 (i := 0) rfl
          have mx : x.1 ∈ m.waiting := Qe.sub _ (List.mem_cons_self ..)
          refine ⟨_, rfl, rfl, _, rfl, iteF ⟨_, rfl, q, _, 0, _, rfl, rfl, SqL.of h1, at_of (j := 0) rfl (at_map ht), t, _, rfl, SqT.of hx, rfl, _, _, rfl, _, _, rfl, rfl, ?_⟩⟩
          have s3 := s1.trans s2
          obtain ⟨dx', R', P'', L', W', rs', ecs', S'⟩ := id (Sk.same s3)
          refine ⟨_, rfl, a, dx', _, rfl, S'.obj, sF_no _ _ _ _ _ (by decide +kernel), _, rfl, _, rfl, a, m, cs, x.1, x.2, rfl, Sk.same s3, Wf, mx, fun H2 Sk2 b2 => ?_⟩
          refine ⟨_, rfl, (by show 1 ≤ sizeLine; decide), fun l hl => ⟨_, rfl, (by show 1 ≤ sizeLine; decide), fun l2 hl2 => ⟨l2, [x.2], rfl, ints_new rfl, (by show 1 < 16777216; decide), fun H3 p3 s4 _ hp3 => ?_⟩⟩⟩
          have s5 : Same H2 H3 := ((Same.new hl).trans (Same.new hl2)).trans s4
          refine ⟨l, p3, _, _, rfl, rfl, s4 _ _ ((Same.new hl2) _ _ upd_same), hp3, (by show 1 + 2 ≤ sizeLine; decide), fun r hr => k _ r (Sk2.same (s5.trans (Same.new hr))) ?_ (But.free ((But.of s3).trans b2) Sk2.lists (s5.free hr)) (ints_new rfl)⟩
          exact ((But.of s3).trans b2).trans (But.of (s5.trans (Same.new hr)))
theorem scToldMay : FnScope ["sky", "number", "time", "refusal", "order"] ["sky", "number", "time"] (defScope sToldMay) := ⟨rfl, rfl, rfl, by decide +kernel, rfl, by decide +kernel, by decide +kernel⟩
theorem ok_toldMay {f : Addr} {fd : FuncData} (F : Fun K "told_may" "told_may" sToldMay f fd) (T : Txt K mg C B) (GY : Mt P w K mg base C 1 "why_not" ["self", "number"] (spWhyNot C)) (GA : Fn P w K mg base 4 "allowed" ["sky", "shift"] (spAllowed C))
    (GT : Fn P w K mg base 1 "time_of" ["order", "number"] spTime) : FnOk P w K mg base CX0 5 f fd ["sky", "number", "time"] (spToldMay C) := by
  refine F.ok scToldMay (fun vs H Q E h => ?_) (fun cdv A outer s H vs Q E hr h => ?_)
  · obtain ⟨a, m, cs, n, t, rfl, _⟩ := h
    rfl
  · obtain ⟨a, m, cs, n, t, rfl, Sk, Wf, k⟩ := h
    have hr1 : Room 1 _ := hr.mono (by decide)
    refine ⟨_, pss_cons (ps_set (i := 3) scToldMay.nd rfl (Or.inl rfl) (pe_mt GY hr1 (pv 0) T.cl (pa_cons (pv 1) pa_nil)))
      (pss_cons (ps_if (pt_cmpR op_lt (pv 3) pe_int (nomark _)) (pss_one (ps_ret (pe_lst (pa_cons (pv 3) pa_nil)))) pss_nil)
      (pss_one (ps_ret (pe_lst (pa_cons (pe_callTy call_int1 (by rfl) T.gInt (by decide +kernel) (pa_cons (pe_callB (cr_any rfl) (by rfl) T.gAny (by decide +kernel) (pa_cons
        (pe_lc (own := [("order", 4)]) (g := gName 4) (tt := tYes) rfl scToldMay.nd (pi_list (pe_fn GA hr rfl (pa_cons (pv 0) (pa_cons (pe_fld (pv 0) rfl) pa_nil)))) (blkOk_by (N := ["sky", "number", "time", "refusal", "order"]) (sc := defScope sToldMay) (by decide +kernel))
          (fun _ _ _ _ _ => pg_name (i := 4) scToldMay.nd rfl (Or.inl rfl)) (fun _ _ _ _ _ => pts_nil) (fun _ _ _ _ _ => pe_cmpR op_le (pe_fn GT hr1 rfl (pa_cons (pv 4) (pa_cons (pv 1) pa_nil))) (pv 2) (nomark _))) pa_nil)) pa_nil)) pa_nil))))), ?_⟩
    obtain ⟨dx, R, P', L, W, rs, ecs, S⟩ := id Sk
    unfold M.toldMay at k
    refine ⟨_, rfl, a, dx, _, rfl, S.obj, sF_no _ _ _ _ _ (by decide +kernel), _, rfl, a, m, cs, n, rfl, Sk, _, rfl, _, _, rfl, rfl, _, rfl, ?_⟩
    by_cases c : m.whyNot n < 0
    · rw [if_pos c] at k
      rw [decide_eq_true c]
      exact iteT ⟨_, rfl, (by show 1 ≤ sizeLine; decide), fun p hp => k _ p (Same.new hp) hp (ints_new rfl)⟩
    · rw [if_neg c] at k
      rw [decide_eq_false c]
      have mn := whyNot_in c
      refine iteF ⟨_, rfl, _, rfl, a, C, dx, _, _, rfl, S.obj, T.cl, T.nS, sF_shift _ _ _ _ _, a, m, cs, m.shift, rfl, Sk, Wf, fun H1 O s1 hO => ?_⟩
      obtain ⟨qs, h1, h2⟩ := hO
      have lenA : (m.allowed m.shift).length ≤ 16777216 := M.allowed_len Wf.wl
      refine ⟨O, rfl, ⟨_, SqL.of h1⟩, fun D hD => ?_⟩
      refine lc_list (K := K) (a := O) (xs := qs.map V.ref) (fun i H' => Same H1 H' ∧ H' D = some (.lst ((((m.allowed m.shift).take i).map fun o => decide (timeOf o n ≤ t)).map V.bl))) ⟨Same.new hD, upd_same⟩ (fun i H' _ ⟨s3, _⟩ => SqL.of (s3 _ _ h1)) ?_ ?_
      · rintro i x H2 hi ⟨s3, hDl⟩
        obtain ⟨q, hq, rfl⟩ := map_at hi
        obtain ⟨o, ho, hqo⟩ := pair_to h2 hq
        have Qe := M.allowed_que (List.mem_of_getElem? ho)
        have li : i < (m.allowed m.shift).length := (List.getElem?_eq_some_iff.mp ho).1
        refine ⟨rfl, tYes_then ?_⟩
        refine ⟨_, rfl, _, rfl, q, o, n, rfl, hqo.same s3, Qe.nd, Qe.all Wf.wn mn, fun H3 s4 => ⟨_, rfl, _, _, rfl, rfl, _, s4 _ _ hDl, lt_line ?_, Same.put (s3.trans s4) hD, ?_⟩⟩
        · rw [List.length_map, List.length_map, List.length_take]
          omega
        · rw [upd_same, take_one ho, List.map_append, List.map_append]
          rfl
      · rintro H2 ⟨s3, hDl⟩
        rw [List.length_map, h2.length, List.take_length] at hDl
        refine ⟨D, _, rfl, SqL.of hDl, .inr ⟨_, rfl, (by show 1 ≤ sizeLine; decide), fun p hp => k _ p ((s1.trans s3).trans (Same.new hp)) (Same.free (s1.trans s3) hp) (ints_new ?_)⟩⟩
        rw [List.any_map]
        rfl
theorem scToldWhy : FnScope ["sky", "number", "refusal", "order"] ["sky", "number"] (defScope sToldWhy) := ⟨rfl, rfl, rfl, by decide +kernel, rfl, by decide +kernel, by decide +kernel⟩
theorem ok_toldWhy {f : Addr} {fd : FuncData} (F : Fun K "told_why" "told_why" sToldWhy f fd) (T : Txt K mg C B) (GY : Mt P w K mg base C 1 "why_not" ["self", "number"] (spWhyNot C)) (GP : Fn P w K mg base 5 "plan_of" ["sky", "shift"] (spPlanOf C))
    (GT : Fn P w K mg base 1 "time_of" ["order", "number"] spTime) (GB : Fn P w K mg base 2 "first_behind" ["sky", "order", "number"] (spBehind C)) (GL : Fn P w K mg base 1 "listed" ["numbers"] spListed) : FnOk P w K mg base CX0 6 f fd ["sky", "number"] (spToldWhy C) := by
  refine F.ok scToldWhy (fun vs H Q E h => ?_) (fun cdv A outer s H vs Q E hr h => ?_)
  · obtain ⟨a, m, cs, n, rfl, _⟩ := h
    rfl
  · obtain ⟨a, m, cs, n, rfl, Sk, Wf, k⟩ := h
    have hr1 : Room 1 _ := hr.mono (by decide)
    have hr2 : Room 2 _ := hr.mono (by decide)
    refine ⟨_, pss_cons (ps_set (i := 2) scToldWhy.nd rfl (Or.inl rfl) (pe_mt GY hr1 (pv 0) T.cl (pa_cons (pv 1) pa_nil)))
      (pss_cons (ps_if (pt_cmpR op_lt (pv 2) pe_int (nomark _)) (pss_one (ps_ret (pe_lst (pa_cons (pv 2) pa_nil)))) pss_nil)
      (pss_cons (ps_set (i := 3) scToldWhy.nd rfl (Or.inl rfl) (pe_fn GP hr rfl (pa_cons (pv 0) (pa_cons (pe_fld (pv 0) rfl) pa_nil))))
      (pss_cons (ps_if (pt_cmpR op_isN (pv 3) pe_non (nomark _)) (pss_one (ps_ret (pe_lst (pa_cons (pe_const T.gNoPlan) pa_nil)))) pss_nil)
      (pss_one (ps_ret (pe_op op_cat (pe_lst (pa_cons (pe_fn GT hr1 rfl (pa_cons (pv 3) (pa_cons (pv 1) pa_nil))) pa_nil)) (pe_fn GL hr1 rfl (pa_cons (pe_fn GB hr2 rfl (pa_cons (pv 0) (pa_cons (pv 3) (pa_cons (pv 1) pa_nil)))) pa_nil)))))))), ?_⟩
    obtain ⟨dx, R, P', L, W, rs, ecs, S⟩ := id Sk
    unfold M.toldWhy at k
    refine ⟨_, rfl, a, dx, _, rfl, S.obj, sF_no _ _ _ _ _ (by decide +kernel), _, rfl, a, m, cs, n, rfl, Sk, _, rfl, _, _, rfl, rfl, _, rfl, ?_⟩
    by_cases c : m.whyNot n < 0
    · rw [if_pos c] at k
      rw [decide_eq_true c]
      exact iteT ⟨_, rfl, (by show 1 ≤ sizeLine; decide), fun p hp => k _ p (Same.new hp) hp (ints_new rfl)⟩
    · rw [if_neg c] at k
      rw [decide_eq_false c]
      have mn := whyNot_in c
      refine iteF ⟨_, rfl, _, rfl, a, C, dx, _, _, rfl, S.obj, T.cl, T.nS, sF_shift _ _ _ _ _, a, m, cs, m.shift, rfl, Sk, Wf, fun g H1 s1 => ?_, fun o g H1 q s1 hq => ?_⟩
      · rw [g] at k
        exact ⟨_, rfl, rfl, _, rfl, iteT ⟨(by show 1 ≤ sizeLine; decide), fun p hp => k _ p (s1.trans (Same.new hp)) (Same.free s1 hp) (ints_new rfl)⟩⟩
      · rw [g] at k
        have Qe := M.planOf_que g
        have no := Qe.all Wf.wn mn
        refine ⟨_, rfl, rfl, _, rfl, iteF ⟨_, rfl, _, rfl, q, o, n, rfl, hq, Qe.nd, no, fun H2 s2 => ⟨(by show 1 ≤ sizeLine; decide), fun l hl => ?_⟩⟩⟩
        have s3 : Same H1 _ := s2.trans (Same.new (o := .lst [V.int (timeOf o n)]) hl)
        refine ⟨_, rfl, _, rfl, _, rfl, a, q, m, cs, o, n, rfl, Sk.same (s1.trans s3), Wf, hq.same s3, by rw [Qe.len]; exact Wf.wl, Qe.nd, no, fun x hx => waits_has Wf (Qe.sub _ (List.mem_map.mpr ⟨x, hx, rfl⟩)), fun H3 p s4 hp => ?_⟩
        have lf : (m.firstBehind o n).length ≤ 1 := by
          unfold M.firstBehind
          split
          · exact Nat.zero_le _
          · rw [List.length_take]
            omega
        refine ⟨p, _, rfl, hp, by omega, fun H4 p4 s5 _ hp4 => ⟨l, p4, _, _, rfl, rfl, s5 _ _ (s4 _ _ upd_same), hp4, le_line ?_, fun r hr => k _ r ((((s1.trans s3).trans s4).trans s5).trans (Same.new hr)) (Same.free (((s1.trans s3).trans s4).trans s5) hr) (ints_new ?_)⟩⟩
        · rw [List.length_map, listed_len]
          show 1 + _ ≤ _
          omega
        · rw [List.map_cons]
          rfl
theorem scToldMany : FnScope ["sky"] ["sky"] (defScope sToldMany) := ⟨rfl, rfl, rfl, by decide +kernel, rfl, by decide +kernel, by decide +kernel⟩
theorem ok_toldMany {f : Addr} {fd : FuncData} (F : Fun K "told_many" "told_many" sToldMany f fd) (T : Txt K mg C B) (GA : Fn P w K mg base 4 "allowed" ["sky", "shift"] (spAllowed C)) : FnOk P w K mg base CX0 5 f fd ["sky"] (spToldMany C) := by
  refine F.ok scToldMany (fun vs H Q E h => ?_) (fun cdv A outer s H vs Q E hr h => ?_)
  · obtain ⟨a, m, cs, rfl, _⟩ := h
    rfl
  · obtain ⟨a, m, cs, rfl, Sk, Wf, k⟩ := h
    refine ⟨_, pss_one (ps_ret (pe_lst (pa_cons (pe_callB call_len_seq (by rfl) T.gLen PySem.boot_len (pa_cons (pe_fn GA hr rfl (pa_cons (pv 0) (pa_cons (pe_fld (pv 0) rfl) pa_nil))) pa_nil)) pa_nil))), ?_⟩
    obtain ⟨dx, R, P', L, W, rs, ecs, S⟩ := id Sk
    refine ⟨_, rfl, _, rfl, a, C, dx, _, _, rfl, S.obj, T.cl, T.nS, sF_shift _ _ _ _ _, a, m, cs, m.shift, rfl, Sk, Wf, fun H1 O s1 hO => ?_⟩
    obtain ⟨qs, h1, h2⟩ := hO
    refine ⟨O, _, rfl, .inl (SqL.of h1), (by show 1 ≤ sizeLine; decide), fun p hp => k _ p (s1.trans (Same.new hp)) (Same.free s1 hp) (ints_new ?_)⟩
    rw [List.length_map, h2.length]
    rfl
theorem scToldState : FnScope ["sky", "settings", "row", "waiting", "number"] ["sky"] (defScope sToldState) := ⟨rfl, rfl, rfl, by decide +kernel, rfl, by decide +kernel, by decide +kernel⟩
theorem ok_toldState {f : Addr} {fd : FuncData} (F : Fun K "told_state" "told_state" sToldState f fd) (T : Txt K mg C B) (GL : Fn P w K mg base 1 "listed" ["numbers"] spListed) (GP : Fn P w K mg base 2 "pairs_listed" ["pairs"] spPairsListed) :
    FnOk P w K mg base CX0 3 f fd ["sky"] (spToldState C) := by
  refine F.ok scToldState (fun vs H Q E h => ?_) (fun cdv A outer s H vs Q E hr h => ?_)
  · obtain ⟨a, m, cs, rfl, _⟩ := h
    rfl
  · obtain ⟨a, m, cs, rfl, Sk, Wf, k⟩ := h
    have hr1 : Room 1 _ := hr.mono (by decide)
    refine ⟨_, pss_cons (ps_set (i := 1) scToldState.nd rfl (Or.inl rfl) (pe_lst (pa_cons (pe_fld (pv 0) rfl) pa_nil)))
      (pss_cons (ps_for PassesOwn.never rfl (pi_list (pe_fld (pv 0) rfl)) (pg_name (i := 2) scToldState.nd rfl (Or.inl rfl))
        (pss_one (ps_expr (pe_bm PySem.F.plainAttrs_list PySem.F.slot_list_extend PySem.F.type_list_extend mt_extend (pv 1) (pa_cons (pv 2) pa_nil)))))
      (pss_cons (ps_set (i := 3) scToldState.nd rfl (Or.inl rfl) (pe_lst pa_nil))
      (pss_cons (ps_for PassesOwn.never rfl (pi_list (pe_fld (pv 0) rfl)) (pg_name (i := 4) scToldState.nd rfl (Or.inl rfl))
        (pss_one (ps_expr (pe_bm PySem.F.plainAttrs_list PySem.F.slot_list_extend PySem.F.type_list_extend mt_extend (pv 3) (pa_cons (pe_op op_cat (pe_lst (pa_cons (pv 4) pa_nil)) (pe_callTy call_list_of (by rfl) T.gList (by decide +kernel) (pa_cons (pe_ix ix_list (pe_fld (pv 0) rfl) (pv 4) (fun _ _ => rfl)) pa_nil))) pa_nil)))))
      (pss_one (ps_ret (pe_op op_cat (pe_op op_cat (pe_op op_cat (pe_lst (pa_cons (pe_callB call_len_seq (by rfl) T.gLen PySem.boot_len (pa_cons (pe_fld (pv 0) rfl) pa_nil)) pa_nil)) (pe_fn GL hr1 rfl (pa_cons (pv 1) pa_nil))) (pe_fn GP hr rfl (pa_cons (pe_fld (pv 0) rfl) pa_nil))) (pe_fn GL hr1 rfl (pa_cons (pv 3) pa_nil)))))))), ?_⟩
    obtain ⟨dx, R, P', L, W, rs, ecs, S⟩ := id Sk
    have lw := Wf.wl
    have lp := Wf.pl
    have ll := Wf.ll
    have fl : ∀ i, (m.rooms.take i).flatten.length ≤ 16 := fun i => by
      have e1 := flat_len (f := fun r : List Int => r) (k := 4) (m.rooms.take i) fun r hr => (by rw [Wf.rr r (List.mem_of_mem_take hr)]; exact Nat.le_refl _)
      rw [List.flatMap_id', List.length_take, Wf.rl] at e1
      omega
    have wl : ∀ i, ((m.waiting.take i).flatMap m.row).length ≤ 32 := fun i => by
      have e1 : ((m.waiting.take i).flatMap m.row).length ≤ 4 * (m.waiting.take i).length := flat_len _ fun _ _ => Nat.le_refl _
      rw [List.length_take] at e1
      omega
    refine ⟨_, rfl, a, C, dx, _, _, rfl, S.obj, T.cl, T.nS, sF_shift _ _ _ _ _, (by show 1 ≤ sizeLine; decide), fun G hG => ?_⟩
    have s0 : Same H (upd H G (.lst [V.int m.shift])) := Same.new hG
    refine ⟨_, rfl, a, C, dx, _, _, rfl, s0 _ _ S.obj, T.cl, T.nR, sF_rooms _ _ _ _ _, R, rfl, ⟨_, SqL.of (s0 _ _ S.rooms)⟩, for_list (K := K) (a := R) (xs := rs.map V.ref)
      (fun i σ H' => ∃ v2 : Option V, σ = [some (.ref a), some (.ref G), v2, none, none] ∧ Same H H' ∧ Ints H' G (m.shift :: (m.rooms.take i).flatten)) ⟨none, rfl, s0, ints_new rfl⟩ (fun i σ H' _ ⟨_, _, s1, _⟩ => SqL.of (s1 _ _ S.rooms)) ?_ ?_⟩
    · rintro i x σ H1 hi ⟨v2, rfl, s1, hGl⟩
      obtain ⟨r, hr', rfl⟩ := map_at hi
      obtain ⟨row, hrow, g⟩ := pair_to S.rows hr'
      refine ⟨_, rfl, .inl ⟨rfl, _, SqL.of hGl⟩, _, rfl, G, r, _, _, rfl, rfl, hGl, s1 _ _ g, le_line ?_, _, rfl, Same.put s1 hG, ?_⟩
      · have h1 := fl i
        have h2 := Wf.rr row (List.mem_of_getElem? hrow)
        rw [List.length_map, List.length_map, List.length_cons]
        omega
      · rw [take_one hrow, List.flatten_append]
        exact ints_new (by rw [List.map_cons, List.map_cons, List.map_append]; simp)
    · rintro σ H1 ⟨v2, rfl, s1, hGl⟩
      rw [List.length_map, S.rows.length, List.take_length] at hGl
      refine ⟨Nat.zero_le _, fun Z hZ => ?_⟩
      have s2 : Same H1 (upd H1 Z (.lst [])) := Same.new hZ
      have s12 := s1.trans s2
      refine ⟨_, rfl, a, C, dx, _, _, rfl, s12 _ _ S.obj, T.cl, T.nW, sF_waiting _ _ _ _ _, W, rfl, ⟨_, SqL.of (s12 _ _ S.waits)⟩, for_list (K := K) (a := W) (xs := m.waiting.map V.int)
        (fun i σ H' => ∃ v4 : Option V, σ = [some (.ref a), some (.ref G), v2, some (.ref Z), v4] ∧ Same H1 H' ∧ Ints H' Z ((m.waiting.take i).flatMap m.row)) ⟨none, rfl, s2, ints_new rfl⟩ (fun i σ H' _ ⟨_, _, s3, _⟩ => SqL.of (s3 _ _ (s1 _ _ S.waits))) ?_ ?_⟩
      · rintro i x σ H2 hi ⟨v4, rfl, s3, hZl⟩
        obtain ⟨n, hn, rfl⟩ := map_at hi
        have mn : n ∈ m.waiting := List.mem_of_getElem? hn
        have tf := take_flat (f := m.row) hn
        refine ⟨_, rfl, .inl ⟨rfl, _, SqL.of hZl⟩, _, rfl, (by show 1 ≤ sizeLine; decide), fun l hl => ?_⟩
        have s4 := s3.trans (Same.new (o := .lst [V.int n]) hl)
        obtain ⟨xs, tn, q1, q2, q3⟩ := plane_at (S.planes.same (s1.trans s4)) (waits_has Wf mn)
        refine ⟨_, rfl, a, C, dx, _, _, rfl, (s1.trans s4) _ _ S.obj, T.cl, T.nP, sF_planes _ _ _ _ _, _, rfl, P', _, _, _, rfl, rfl, SqL.of q1, q2, tn, _, rfl, .inr (SqT.of q3), fun l2 hl2 => ?_⟩
        refine ⟨l, l2, _, _, rfl, rfl, (Same.new hl2) _ _ upd_same, upd_same, (by show 1 + 3 ≤ sizeLine; decide), fun p hp => ?_⟩
        have s5 := (Same.new (o := .lst [V.int n]) hl).trans ((Same.new (o := .lst [V.int (m.plane n).1, V.int (m.plane n).2.1, V.int (m.plane n).2.2]) hl2).trans (Same.new (o := .lst ([V.int n] ++ [V.int (m.plane n).1, V.int (m.plane n).2.1, V.int (m.plane n).2.2])) hp))
        refine ⟨Z, p, _, _, rfl, rfl, s5 _ _ hZl, upd_same, le_line ?_, _, rfl, Same.put (s3.trans s5) hZ, ?_⟩
        · have h1 := wl i
          rw [List.length_map]
          show _ + 4 ≤ _
          omega
        · rw [tf]
          exact ints_new (by rw [List.map_append]; rfl)
      · rintro σ H2 ⟨v4, rfl, s3, hZl⟩
        have wl' := wl (m.waiting.map V.int).length
        have fl' := fl m.rooms.length
        rw [List.length_map, List.take_length] at hZl wl'
        rw [List.take_length] at fl'
        obtain ⟨ps, hp, pp⟩ := S.planes
        have hse : m.settings.length = m.rooms.flatten.length + 1 := rfl
        have s13 := s1.trans s3
        refine ⟨_, rfl, a, C, dx, _, _, rfl, s13 _ _ S.obj, T.cl, T.nP, sF_planes _ _ _ _ _, P', _, rfl, .inl (SqL.of (s13 _ _ hp)), (by show 1 ≤ sizeLine; decide), fun l hl => ?_⟩
        have s4 := Same.new (o := .lst [V.int ((ps.map V.ref).length : Int)]) hl
        refine ⟨_, rfl, G, m.settings, rfl, s4 _ _ (s3 _ _ hGl), (by show m.rooms.flatten.length + 1 < 16777216; omega), fun H3 p3 s5 _ h3 => ?_⟩
        refine ⟨l, p3, _, _, rfl, rfl, s5 _ _ upd_same, h3, le_line ?_, fun p4 hp4 => ?_⟩
        · simp only [List.length_append, List.length_map, List.length_cons, List.length_nil, listed_len]
          omega
        have s6 := Same.new (o := .lst ([V.int ((ps.map V.ref).length : Int)] ++ (listed m.settings).map V.int)) hp4
        have s26 := (s4.trans s5).trans s6
        have s16 := s13.trans s26
        refine ⟨_, rfl, a, C, dx, _, _, rfl, s16 _ _ S.obj, T.cl, T.nL, sF_landed _ _ _ _ _, L, m.landed, rfl, S.landed.same s16, by omega, fun H5 p5 s7 _ h5 => ?_⟩
        refine ⟨p4, p5, _, _, rfl, rfl, s7 _ _ upd_same, h5, le_line ?_, fun p6 hp6 => ?_⟩
        · have h6 := pairs_len m.landed
          simp only [List.length_append, List.length_map, List.length_cons, List.length_nil, listed_len]
          omega
        have s8 := Same.new (o := .lst (([V.int ((ps.map V.ref).length : Int)] ++ (listed m.settings).map V.int) ++ (listed (pairs m.landed)).map V.int)) hp6
        have s28 := (s26.trans s7).trans s8
        refine ⟨_, rfl, Z, _, rfl, s28 _ _ hZl, by omega, fun H7 p7 s9 _ h7 => ?_⟩
        refine ⟨p6, p7, _, _, rfl, rfl, s9 _ _ upd_same, h7, le_line ?_, fun p8 hp8 => k _ p8 (((s13.trans s28).trans s9).trans (Same.new hp8)) (Same.free ((s13.trans s28).trans s9) hp8) (ints_new ?_)⟩
        · have h6 := pairs_len m.landed
          simp only [List.length_append, List.length_map, List.length_cons, List.length_nil, listed_len]
          omega
        · unfold M.toldState
          rw [List.map_cons, List.map_append, List.map_append, List.length_map, pp.length]
          rfl
end
end Wa
/-! ## The walk: gone, asked, called, answers -/
namespace Wa
open PySem PySem.Spec PyProof.Rows L2
abbrev sGone : Stmt := top 49
abbrev sAsked : Stmt := top 50
abbrev sCalled : Stmt := top 51
abbrev sAnswers : Stmt := top 52
def spGone (C : Addr) : Sp := fun vs H Q _ => ∃ (a : Addr) (m : M) (cs : List Addr) (n : Int), vs = [.ref a, .int n] ∧ Sky C H a m cs ∧ ∀ H' p, Sky C H' a (m.gone n).1 cs → But cs H H' → H p = none → Ints H' p (m.gone n).2 → Q (.ref p) H'
def Asks (c : List Int) : Prop := c = [4] ∨ c = [5] ∨ c = [6] ∨ (∃ n t, c = [7, n, t]) ∨ (∃ n, c = [8, n]) ∨ c = [9] ∨ c = [10]
def spAsked (C : Addr) : Sp := fun vs H Q _ => ∃ (a g : Addr) (m : M) (cs : List Addr) (c : Int) (gs : List Int), vs = [.ref a, .int c, .ref g] ∧ Sky C H a m cs ∧ m.Wf ∧ Ints H g gs ∧ Asks (c :: gs) ∧
  ∀ H' p, Sky C H' a (m.asked (c :: gs)).1 cs → But cs H H' → H p = none → Ints H' p (m.asked (c :: gs)).2 → Q (.ref p) H'
def spCalled (C : Addr) : Sp := fun vs H Q _ => ∃ (a g : Addr) (m : M) (cs : List Addr) (c : Int) (gs : List Int), vs = [.ref a, .int c, .ref g] ∧ Sky C H a m cs ∧ m.Wf ∧ Ints H g gs ∧ Good (c :: gs) ∧
  ∀ (H' : Hp) (t a' p : Addr) (cs' : List Addr), H' t = some (.tup [.ref a', .ref p]) → Sky C H' a' (m.called (c :: gs)).1 cs' → Ints H' p (m.called (c :: gs)).2 → H p = none → But cs H H' → (∀ x ∈ cs', x ∈ cs ∨ H x = none) → Q (.ref t) H'
def spAnswers (K : PySem.W.Frag) : Sp := fun vs H Q _ => ∃ (a : Addr) (l : List Int) (cs : List (List Int)), vs = [.ref a] ∧ SqL K H a (l.map V.int) ∧ l = cs.flatten ∧ (∀ c ∈ cs, Good c) ∧ cs.length ≤ 80 ∧ l.length ≤ 400 ∧
  ∀ H' p, Ints H' p ((M.fresh 1).played cs) → Q (.ref p) H'
/-- the class makes an airport -/
def Makes (P : Program) (w : World) (K : PySem.W.Frag) (mg : Str → Option Value) (base : Heap) (C : Addr) : Prop :=
  ∃ f fd, Mk K C f ∧ Binds K fd ["self", "shift"] [] ∧ FnOk P w K mg base CX0 1 f fd ["self", "shift"] (spInit C)
theorem pe_mk {X : Cx} {x : Str} {p pos : Pos} {e : Expr} {es : List Expr} {t : TA} {C : Addr} (G : Makes X.prog X.w X.K X.mg X.base C) (hr : Room 2 X.A) (hg : Gl X x) (hm : X.mg x = some (.ref C)) (ha : PA X (e :: es) t) (hdb : (x == ("__debug__" : Str)) = false := by decide)
    (he : starEach (e :: es) X.env = (false, eval e X.env) :: starEach es X.env := by rfl) (hpl : (backTo pos (starEach es X.env)).any (·.1) = false := by rfl) : PE X (.Call (.Name x p) (e :: es) [] pos) (tMake C (spInit C) [] E0 t) := by
  obtain ⟨f, fd, M, hb, F⟩ := G
  exact pe_make M F hr hg hm hb .nil pass0 ha hdb he hpl
theorem pickT {a : Int} {A D : Prop} (h : A) : if decide (V.int a = V.int a) = true then A else D := by
  rw [decide_eq_true rfl]
  exact iteT h
theorem pickF {a b : Int} {A D : Prop} (n : a ≠ b) (h : D) : if decide (V.int a = V.int b) = true then A else D := by
  rw [decide_eq_false fun z => n (V.int.inj z)]
  exact iteF h
section
variable {P : Program} {w : World} {K : PySem.W.Frag} {mg : Str → Option Value} {base : Heap} {C B : Addr}
theorem scGone : FnScope ["sky", "number", "refusal"] ["sky", "number"] (defScope sGone) := ⟨rfl, rfl, rfl, by decide +kernel, rfl, by decide +kernel, by decide +kernel⟩
theorem ok_gone {f : Addr} {fd : FuncData} (F : Fun K "gone" "gone" sGone f fd) (T : Txt K mg C B) (GY : Mt P w K mg base C 1 "why_not" ["self", "number"] (spWhyNot C)) (GL : Mt P w K mg base C 1 "leave" ["self", "number"] (spLeave C)) :
    FnOk P w K mg base CX0 2 f fd ["sky", "number"] (spGone C) := by
  refine F.ok scGone (fun vs H Q E h => ?_) (fun cdv A outer s H vs Q E hr h => ?_)
  · obtain ⟨a, m, cs, n, rfl, _⟩ := h
    rfl
  · obtain ⟨a, m, cs, n, rfl, Sk, k⟩ := h
    refine ⟨_, pss_cons (ps_set (i := 2) scGone.nd rfl (Or.inl rfl) (pe_mt GY hr (pv 0) T.cl (pa_cons (pv 1) pa_nil)))
      (pss_cons (ps_if (pt_cmpR op_lt (pv 2) pe_int (nomark _)) (pss_one (ps_ret (pe_lst (pa_cons (pv 2) pa_nil)))) pss_nil)
      (pss_one (ps_ret (pe_lst (pa_cons (pe_mt GL hr (pv 0) T.cl (pa_cons (pv 1) pa_nil)) pa_nil))))), ?_⟩
    obtain ⟨dx, R, P', L, W, rs, ecs, S⟩ := id Sk
    unfold M.gone at k
    refine ⟨_, rfl, a, dx, _, rfl, S.obj, sF_no _ _ _ _ _ (by decide +kernel), _, rfl, a, m, cs, n, rfl, Sk, _, rfl, _, _, rfl, rfl, _, rfl, ?_⟩
    by_cases c : m.whyNot n < 0
    · rw [if_pos c] at k
      rw [decide_eq_true c]
      exact iteT ⟨_, rfl, (by show 1 ≤ sizeLine; decide), fun p hp => k _ p (Sk.same (Same.new hp)) (But.of (Same.new hp)) hp (ints_new rfl)⟩
    · rw [if_neg c] at k
      rw [decide_eq_false c]
      have mn := whyNot_in c
      refine iteF ⟨_, rfl, a, dx, _, rfl, S.obj, sF_no _ _ _ _ _ (by decide +kernel), _, rfl, a, m, cs, n, rfl, Sk, mn, fun H1 Sk1 b1 => ⟨(by show 1 ≤ sizeLine; decide), fun p hp => k _ p (Sk1.same (Same.new hp)) (b1.trans (But.of (Same.new hp))) (But.free b1 Sk1.lists hp) (ints_new rfl)⟩⟩
theorem scAsked : FnScope ["sky", "call", "given"] ["sky", "call", "given"] (defScope sAsked) := ⟨rfl, rfl, rfl, by decide +kernel, rfl, by decide +kernel, by decide +kernel⟩
theorem ok_asked {f : Addr} {fd : FuncData} (F : Fun K "asked" "asked" sAsked f fd) (T : Txt K mg C B) (GL : Fn P w K mg base 6 "told_landing" ["sky"] (spToldLanding C)) (GP : Fn P w K mg base 6 "told_plan" ["sky", "shift"] (spToldPlan C))
    (GM : Fn P w K mg base 5 "told_may" ["sky", "number", "time"] (spToldMay C)) (GW : Fn P w K mg base 6 "told_why" ["sky", "number"] (spToldWhy C)) (GN : Fn P w K mg base 5 "told_many" ["sky"] (spToldMany C)) (GS : Fn P w K mg base 3 "told_state" ["sky"] (spToldState C)) :
    FnOk P w K mg base CX0 7 f fd ["sky", "call", "given"] (spAsked C) := by
  refine F.ok scAsked (fun vs H Q E h => ?_) (fun cdv A outer s H vs Q E hr h => ?_)
  · obtain ⟨a, g, m, cs, c, gs, rfl, _⟩ := h
    rfl
  · obtain ⟨a, g, m, cs, c, gs, rfl, Sk, Wf, hg, as, k⟩ := h
    have hr5 : Room 5 _ := hr.mono (by decide)
    have hr3 : Room 3 _ := hr.mono (by decide)
    refine ⟨_, pss_cons (ps_if (pt_cmpR op_eq (pv 1) (pe_const T.gLands) (nomark _)) (pss_one (ps_ret (pe_fn GL hr rfl (pa_cons (pv 0) pa_nil)))) pss_nil)
      (pss_cons (ps_if (pt_cmpR op_eq (pv 1) (pe_const T.gPlan) (nomark _)) (pss_one (ps_ret (pe_fn GP hr rfl (pa_cons (pv 0) (pa_cons (pe_fld (pv 0) rfl) pa_nil))))) pss_nil)
      (pss_cons (ps_if (pt_cmpR op_eq (pv 1) (pe_const T.gCame) (nomark _)) (pss_one (ps_ret (pe_fn GP hr rfl (pa_cons (pv 0) (pa_cons pe_int pa_nil))))) pss_nil)
      (pss_cons (ps_if (pt_cmpR op_eq (pv 1) (pe_const T.gMay) (nomark _)) (pss_one (ps_ret (pe_fn GM hr5 rfl (pa_cons (pv 0) (pa_cons (pe_ix ix_list (pv 2) pe_int (fun _ _ => rfl)) (pa_cons (pe_ix ix_list (pv 2) pe_int (fun _ _ => rfl)) pa_nil)))))) pss_nil)
      (pss_cons (ps_if (pt_cmpR op_eq (pv 1) (pe_const T.gWhy) (nomark _)) (pss_one (ps_ret (pe_fn GW hr rfl (pa_cons (pv 0) (pa_cons (pe_ix ix_list (pv 2) pe_int (fun _ _ => rfl)) pa_nil))))) pss_nil)
      (pss_cons (ps_if (pt_cmpR op_eq (pv 1) (pe_const T.gMany) (nomark _)) (pss_one (ps_ret (pe_fn GN hr5 rfl (pa_cons (pv 0) pa_nil)))) pss_nil)
      (pss_one (ps_ret (pe_fn GS hr3 rfl (pa_cons (pv 0) pa_nil))))))))), ?_⟩
    obtain ⟨dx, R, P', L, W, rs, ecs, S⟩ := id Sk
    have same : ∀ (u : List Int) (_ : m.asked (c :: gs) = (m, u)) (H' : Hp) (p : Addr), Same H H' → H p = none → Ints H' p u → Q (.ref p) H' := fun u e H' p s fp i => by
      rw [e] at k
      exact k H' p (Sk.same s) (But.of s) fp i
    refine ⟨_, rfl, rfl, _, rfl, ?_⟩
    rcases as with e | e | e | ⟨n, t, e⟩ | ⟨n, e⟩ | e | e <;> (obtain ⟨rfl, rfl⟩ := List.cons.inj e)
    · exact pickT ⟨_, rfl, a, m, cs, rfl, Sk, Wf, k⟩
    · exact pickF (by decide) ⟨_, rfl, rfl, _, rfl, pickT ⟨_, rfl, _, rfl, a, C, dx, _, _, rfl, S.obj, T.cl, T.nS, sF_shift _ _ _ _ _, a, m, cs, m.shift, rfl, Sk, Wf, same _ rfl⟩⟩
    · exact pickF (by decide) ⟨_, rfl, rfl, _, rfl, pickF (by decide) ⟨_, rfl, rfl, _, rfl, pickT ⟨_, rfl, a, m, cs, 0, rfl, Sk, Wf, same _ rfl⟩⟩⟩
    · exact pickF (by decide) ⟨_, rfl, rfl, _, rfl, pickF (by decide) ⟨_, rfl, rfl, _, rfl, pickF (by decide) ⟨_, rfl, rfl, _, rfl, pickT ⟨_, rfl, _, rfl, g, _, 0, _, rfl, rfl, SqL.of hg, at_of (j := 0) rfl rfl, _, rfl, g, _, 1, _, rfl, rfl, SqL.of hg, at_of (j := 1) rfl rfl, a, m, cs, n, t, rfl, Sk, Wf, same _ rfl⟩⟩⟩⟩
    · exact pickF (by decide) ⟨_, rfl, rfl, _, rfl, pickF (by decide) ⟨_, rfl, rfl, _, rfl, pickF (by decide) ⟨_, rfl, rfl, _, rfl, pickF (by decide) ⟨_, rfl, rfl, _, rfl, pickT ⟨_, rfl, _, rfl, g, _, 0, _, rfl, rfl, SqL.of hg, at_of (j := 0) rfl rfl, a, m, cs, n, rfl, Sk, Wf, same _ rfl⟩⟩⟩⟩⟩
    · exact pickF (by decide) ⟨_, rfl, rfl, _, rfl, pickF (by decide) ⟨_, rfl, rfl, _, rfl, pickF (by decide) ⟨_, rfl, rfl, _, rfl, pickF (by decide) ⟨_, rfl, rfl, _, rfl, pickF (by decide) ⟨_, rfl, rfl, _, rfl, pickT ⟨_, rfl, a, m, cs, rfl, Sk, Wf, same _ rfl⟩⟩⟩⟩⟩⟩
    · exact pickF (by decide) ⟨_, rfl, rfl, _, rfl, pickF (by decide) ⟨_, rfl, rfl, _, rfl, pickF (by decide) ⟨_, rfl, rfl, _, rfl, pickF (by decide) ⟨_, rfl, rfl, _, rfl, pickF (by decide) ⟨_, rfl, rfl, _, rfl, pickF (by decide) ⟨_, rfl, a, m, cs, rfl, Sk, Wf, same _ rfl⟩⟩⟩⟩⟩⟩
theorem scCalled : FnScope ["sky", "call", "given"] ["sky", "call", "given"] (defScope sCalled) := ⟨rfl, rfl, rfl, by decide +kernel, rfl, by decide +kernel, by decide +kernel⟩
theorem ok_called {f : Addr} {fd : FuncData} (F : Fun K "called" "called" sCalled f fd) (T : Txt K mg C B) (MI : Makes P w K mg base C) (GR : Mt P w K mg base C 1 "set_room" ["self", "ahead", "behind", "much"] (spSetRoom C))
    (GD : Mt P w K mg base C 1 "add_plane" ["self", "kind", "first", "last"] (spAddPlane C)) (GG : Fn P w K mg base 2 "gone" ["sky", "number"] (spGone C)) (GA : Fn P w K mg base 7 "asked" ["sky", "call", "given"] (spAsked C)) :
    FnOk P w K mg base CX0 8 f fd ["sky", "call", "given"] (spCalled C) := by
  refine F.ok scCalled (fun vs H Q E h => ?_) (fun cdv A outer s H vs Q E hr h => ?_)
  · obtain ⟨a, g, m, cs, c, gs, rfl, _⟩ := h
    rfl
  · obtain ⟨a, g, m, cs, c, gs, rfl, Sk, Wf, hg, good, k⟩ := h
    have hr1 : Room 1 _ := hr.mono (by decide)
    have hr2 : Room 2 _ := hr.mono (by decide)
    refine ⟨_, pss_cons (ps_if (PW.pt (pw_and (pt_cmpR op_eq (pv 1) (pe_const T.gBegins) (nomark _)) (pw_and1 (pt_cmpR op_gt (pe_ix ix_list (pv 2) pe_int (fun _ _ => rfl)) (pe_const T.gMostShift) (nomark _)))))
        (pss_one (ps_ret (pe_tup (pa_cons (pv 0) (pa_cons (pe_lst (pa_cons (pe_const T.gNotLet) pa_nil)) pa_nil))))) pss_nil)
      (pss_cons (ps_if (pt_cmpR op_eq (pv 1) (pe_const T.gBegins) (nomark _))
        (pss_one (ps_ret (pe_tup (pa_cons (pe_mk MI hr2 rfl T.gSky (pa_cons (pe_ix ix_list (pv 2) pe_int (fun _ _ => rfl)) pa_nil)) (pa_cons (pe_lst (pa_cons pe_int pa_nil)) pa_nil))))) pss_nil)
      (pss_cons (ps_if (pt_cmpR op_eq (pv 1) (pe_const T.gRoom) (nomark _))
        (pss_one (ps_ret (pe_tup (pa_cons (pv 0) (pa_cons (pe_lst (pa_cons (pe_mt GR hr1 (pv 0) T.cl (pa_cons (pe_ix ix_list (pv 2) pe_int (fun _ _ => rfl)) (pa_cons (pe_ix ix_list (pv 2) pe_int (fun _ _ => rfl)) (pa_cons (pe_ix ix_list (pv 2) pe_int (fun _ _ => rfl)) pa_nil)))) pa_nil)) pa_nil))))) pss_nil)
      (pss_cons (ps_if (pt_cmpR op_eq (pv 1) (pe_const T.gComes) (nomark _))
        (pss_one (ps_ret (pe_tup (pa_cons (pv 0) (pa_cons (pe_lst (pa_cons (pe_mt GD hr1 (pv 0) T.cl (pa_cons (pe_ix ix_list (pv 2) pe_int (fun _ _ => rfl)) (pa_cons (pe_ix ix_list (pv 2) pe_int (fun _ _ => rfl)) (pa_cons (pe_ix ix_list (pv 2) pe_int (fun _ _ => rfl)) pa_nil)))) pa_nil)) pa_nil))))) pss_nil)
      (pss_cons (ps_if (pt_cmpR op_eq (pv 1) (pe_const T.gGoes) (nomark _))
        (pss_one (ps_ret (pe_tup (pa_cons (pv 0) (pa_cons (pe_fn GG hr2 rfl (pa_cons (pv 0) (pa_cons (pe_ix ix_list (pv 2) pe_int (fun _ _ => rfl)) pa_nil))) pa_nil))))) pss_nil)
      (pss_one (ps_ret (pe_tup (pa_cons (pv 0) (pa_cons (pe_fn GA hr rfl (pa_cons (pv 0) (pa_cons (pv 1) (pa_cons (pv 2) pa_nil)))) pa_nil))))))))), ?_⟩
    obtain ⟨dx, R, P', L, W, rs, ecs, S⟩ := id Sk
    -- what is told by one number
    have lone : ∀ (H1 : Hp) (m' : M) (u : Int), m.called (c :: gs) = (m', [u]) → Sky C H1 a m' cs → But cs H H1 → 1 ≤ sizeLine ∧ ∀ p, H1 p = none → 2 ≤ sizeLine ∧ ∀ t, upd H1 p (.lst [.int u]) t = none → Q (.ref t) (upd (upd H1 p (.lst [.int u])) t (.tup [.ref a, .ref p])) := fun H1 m' u e Sk1 b1 =>
      ⟨by decide, fun p hp => ⟨by decide, fun t ht => by
        rw [e] at k
        have s2 := (Same.new (o := .lst [.int u]) hp).trans (Same.new (o := .tup [.ref a, .ref p]) ht)
        exact k _ t a p cs upd_same (Sk1.same s2) ((Same.new ht) _ _ upd_same) (But.free b1 Sk1.lists hp) (b1.trans (But.of s2)) fun x hx => .inl hx⟩⟩
    have given : ∀ (i : Nat) (z : Int), gs[i]? = some z → atI (gs.map V.int) (i : Int) = some (.int z) := fun i z h => atI_nat (at_map h)
    refine ⟨_, rfl, rfl, _, rfl, ?_⟩
    obtain ⟨pos, gd⟩ := good
    have rest : Asks (c :: gs) → m.called (c :: gs) = m.asked (c :: gs) → spAsked C ([.ref a, .int c, .ref g] ++ []) H (fun y H1 => 2 ≤ sizeLine ∧ ∀ t, H1 t = none → Q (.ref t) (upd H1 t (.tup [.ref a, y]))) E0 := fun as e =>
      ⟨a, g, m, cs, c, gs, rfl, Sk, Wf, hg, as, fun H1 p Sk1 b1 fp hp => ⟨by decide, fun t ht => by
        rw [e] at k
        exact k _ t a p cs upd_same (Sk1.same (Same.new ht)) (hp.same (Same.new ht)) fp (b1.trans (But.of (Same.new ht))) fun x hx => .inl hx⟩⟩
    rcases gd with ⟨z, e⟩ | ⟨x, y, z, e⟩ | ⟨x, y, z, e⟩ | ⟨z, e⟩ | e | e | e | ⟨n, t, e⟩ | ⟨n, e⟩ | e | e <;> (obtain ⟨rfl, rfl⟩ := List.cons.inj e)
    · refine pickT ⟨_, rfl, g, _, 0, _, rfl, rfl, SqL.of hg, given 0 z rfl, _, _, rfl, rfl, _, rfl, ?_⟩
      have ec : m.called [0, z] = if z > 3 then (m, [-1]) else (M.fresh z, [0]) := rfl
      by_cases d : 3 < z
      · rw [decide_eq_true d]
        rw [if_pos (show z > 3 from d)] at ec
        exact iteT ⟨_, rfl, lone H m (-1) ec Sk (But.refl _ _)⟩
      · rw [decide_eq_false d]
        rw [if_neg (show ¬ z > 3 from d)] at ec
        refine iteF ⟨_, rfl, rfl, _, rfl, pickT ⟨_, rfl, g, _, 0, _, rfl, rfl, SqL.of hg, given 0 z rfl, ?_⟩⟩
        intro x dx' nx nd ne
        refine ⟨x, dx', z, rfl, upd_same, fun H1 cs1 Sk1 fr kp => ⟨rfl, (by show 1 ≤ sizeLine; decide), fun p hp => ⟨(by show 2 ≤ sizeLine; decide), fun t ht => ?_⟩⟩⟩
        rw [ec] at k
        have s1 : Same H H1 := Same.made nx nd kp
        have s2 := (Same.new (o := .lst [.int 0]) hp).trans (Same.new (o := .tup [.ref x, .ref p]) ht)
        exact k _ t x p cs1 upd_same (Sk1.same s2) ((Same.new ht) _ _ upd_same) (s1.free hp) (But.of (s1.trans s2)) fun y hy => .inr (upd_none (upd_none (fr y hy)).2).2
    · refine pickF (by decide) ⟨_, rfl, rfl, _, rfl, pickF (by decide) ⟨_, rfl, rfl, _, rfl, pickT ⟨_, rfl, _, rfl, a, dx, _, rfl, S.obj, sF_no _ _ _ _ _ (by decide +kernel), _, rfl, g, _, 0, _, rfl, rfl, SqL.of hg, given 0 x rfl, _, rfl, g, _, 1, _, rfl, rfl, SqL.of hg, given 1 y rfl, _, rfl, g, _, 2, _, rfl, rfl, SqL.of hg, given 2 z rfl,
        a, m, cs, x, y, z, rfl, Sk, Wf, pos x (by simp), pos y (by simp), fun H1 Sk1 b1 => lone H1 _ _ rfl Sk1 b1⟩⟩⟩
    · refine pickF (by decide) ⟨_, rfl, rfl, _, rfl, pickF (by decide) ⟨_, rfl, rfl, _, rfl, pickF (by decide) ⟨_, rfl, rfl, _, rfl, pickT ⟨_, rfl, _, rfl, a, dx, _, rfl, S.obj, sF_no _ _ _ _ _ (by decide +kernel), _, rfl, g, _, 0, _, rfl, rfl, SqL.of hg, given 0 x rfl, _, rfl, g, _, 1, _, rfl, rfl, SqL.of hg, given 1 y rfl, _, rfl, g, _, 2, _, rfl, rfl, SqL.of hg, given 2 z rfl,
        a, m, cs, x, y, z, rfl, Sk, Wf, fun H1 Sk1 b1 => lone H1 _ _ rfl Sk1 b1⟩⟩⟩⟩
    · refine pickF (by decide) ⟨_, rfl, rfl, _, rfl, pickF (by decide) ⟨_, rfl, rfl, _, rfl, pickF (by decide) ⟨_, rfl, rfl, _, rfl, pickF (by decide) ⟨_, rfl, rfl, _, rfl, pickT ⟨_, rfl, _, rfl, _, rfl, g, _, 0, _, rfl, rfl, SqL.of hg, given 0 z rfl, a, m, cs, z, rfl, Sk, fun H1 p Sk1 b1 fp hp => ⟨(by show 2 ≤ sizeLine; decide), fun t ht => ?_⟩⟩⟩⟩⟩⟩
      exact k _ t a p cs upd_same (Sk1.same (Same.new ht)) (hp.same (Same.new ht)) fp (b1.trans (But.of (Same.new ht))) fun x hx => .inl hx
    all_goals
      refine pickF (by decide) ⟨_, rfl, rfl, _, rfl, pickF (by decide) ⟨_, rfl, rfl, _, rfl, pickF (by decide) ⟨_, rfl, rfl, _, rfl, pickF (by decide) ⟨_, rfl, rfl, _, rfl, pickF (by decide) ⟨_, rfl, _, rfl, _, rfl, _, rfl, rest ?_ rfl⟩⟩⟩⟩⟩
    · exact .inl rfl
    · exact .inr (.inl rfl)
    · exact .inr (.inr (.inl rfl))
    · exact .inr (.inr (.inr (.inl ⟨n, t, rfl⟩)))
    · exact .inr (.inr (.inr (.inr (.inl ⟨n, rfl⟩))))
    · exact .inr (.inr (.inr (.inr (.inr (.inl rfl)))))
    · exact .inr (.inr (.inr (.inr (.inr (.inr rfl)))))
end
end Wa
/-! ## The walk: answers -/
namespace Wa
open PySem PySem.Spec PyProof.Rows L2
def behinds : List Int := [1, 3, 3, 1, 0, 0, 0, 2, 1, 0, 0]
theorem good_behind {c : Int} {gs : List Int} (G : Good (c :: gs)) : atI (behinds.map V.int) c = some (.int (gs.length : Int)) := by
  obtain ⟨_, g⟩ := G
  rcases g with ⟨z, e⟩ | ⟨x, y, z, e⟩ | ⟨x, y, z, e⟩ | ⟨z, e⟩ | e | e | e | ⟨n, t, e⟩ | ⟨n, e⟩ | e | e <;> (obtain ⟨rfl, rfl⟩ := List.cons.inj e)
  · exact at_of (j := 0) rfl rfl
  · exact at_of (j := 1) rfl rfl
  · exact at_of (j := 2) rfl rfl
  · exact at_of (j := 3) rfl rfl
  · exact at_of (j := 4) rfl rfl
  · exact at_of (j := 5) rfl rfl
  · exact at_of (j := 6) rfl rfl
  · exact at_of (j := 7) rfl rfl
  · exact at_of (j := 8) rfl rfl
  · exact at_of (j := 9) rfl rfl
  · exact at_of (j := 10) rfl rfl
theorem good_cons {c : List Int} (G : Good c) : ∃ k gs, c = k :: gs := by
  obtain ⟨_, g⟩ := G
  rcases g with ⟨z, e⟩ | ⟨x, y, z, e⟩ | ⟨x, y, z, e⟩ | ⟨z, e⟩ | e | e | e | ⟨n, t, e⟩ | ⟨n, e⟩ | e | e <;> exact ⟨_, _, e⟩
/-- the part of the calls that is one call's -/
theorem cut_mid {l pre gs post : List Int} {k : Int} (e : l = pre ++ (k :: gs) ++ post) : cutV (l.map V.int) (some ((pre.length : Int) + 1)) (some ((pre.length : Int) + 1 + (gs.length : Int))) = gs.map V.int := by
  have e1 : HT.sIx (l.map V.int).length 0 (some ((pre.length : Int) + 1)) = pre.length + 1 := by
    have h := HT.sIx_nat (l.map V.int).length 0 (pre.length + 1)
    rw [show (((pre.length + 1 : Nat)) : Int) = (pre.length : Int) + 1 by omega] at h
    rw [h, e, List.length_map, List.length_append, List.length_append, List.length_cons]
    omega
  have e2 : HT.sIx (l.map V.int).length (l.map V.int).length (some ((pre.length : Int) + 1 + (gs.length : Int))) = pre.length + 1 + gs.length := by
    have h := HT.sIx_nat (l.map V.int).length (l.map V.int).length (pre.length + 1 + gs.length)
    rw [show (((pre.length + 1 + gs.length : Nat)) : Int) = (pre.length : Int) + 1 + (gs.length : Int) by omega] at h
    rw [h, e, List.length_map, List.length_append, List.length_append, List.length_cons]
    omega
  unfold cutV
  rw [e1, e2, Nat.add_sub_cancel_left, e, ← List.map_drop]
  have e3 : (pre ++ (k :: gs) ++ post).drop (pre.length + 1) = gs ++ post := by
    rw [List.append_assoc, show pre ++ (k :: gs ++ post) = (pre ++ [k]) ++ (gs ++ post) by simp]
    exact List.drop_left' (by simp)
  rw [e3, ← List.map_take]
  exact congrArg _ List.take_left
theorem flat_at {cs : List (List Int)} {i : Nat} {c : List Int} (h : cs[i]? = some c) : cs.flatten = (cs.take i).flatten ++ c ++ (cs.drop (i + 1)).flatten := by
  have hi := (List.getElem?_eq_some_iff.mp h).1
  have e : c = cs[i] := ((List.getElem?_eq_some_iff.mp h).2).symm
  have e2 : cs = cs.take i ++ c :: cs.drop (i + 1) := by
    rw [e]
    exact (List.take_append_drop i cs).symm.trans (congrArg _ (List.drop_eq_getElem_cons hi))
  have e3 : cs.flatten = (cs.take i ++ c :: cs.drop (i + 1)).flatten := congrArg _ e2
  rw [e3, List.flatten_append, List.flatten_cons, List.append_assoc]
/-- what stood at a stands -/
def Stays (H H' : Hp) (cl : List Addr) (a : Addr) : Prop := ∀ o, H a = some o → a ∉ cl ∧ H' a = some o
theorem Stays.seq {K : PySem.W.Frag} {H H' : Hp} {cl : List Addr} {a : Addr} {xs : List V} (s : Stays H H' cl a) (h : SqL K H a xs) : SqL K H' a xs := by
  rcases h with (h | ⟨o, h⟩) | h
  · exact .inl (.inl (s _ h).2)
  · exact .inl (.inr ⟨o, (s _ h).2⟩)
  · exact .inr h
/-- a list that is none of the airport's is written -/
theorem sky_apart {C : Addr} {H : Hp} {b F : Addr} {m : M} {cl : List Addr} {xs ys : List V} (h : Sky C H b m cl) (hF : H F = some (.lst xs)) (n : F ∉ cl) : Sky C (upd H F (.lst ys)) b m cl := by
  obtain ⟨dx, R, P, L, W, rs, rfl, S⟩ := h
  have tup : ∀ (t : Addr) (zs : List V), H t = some (.tup zs) → upd H F (.lst ys) t = some (.tup zs) := fun t zs e => (upd_ne (ne_of e hF (by intro z; cases z))).trans e
  have cell : ∀ c ∈ R :: P :: L :: W :: rs, c ≠ F := fun c hc z => n (by rw [← z]; exact hc)
  obtain ⟨ps, h1, h2⟩ := S.planes
  obtain ⟨ls, l1, l2⟩ := S.landed
  refine ⟨dx, R, P, L, W, rs, rfl, ⟨(upd_ne (ne_of S.obj hF (by intro z; cases z))).trans S.obj, (upd_ne (cell R (by simp))).trans S.rooms, pair_keep S.rows fun r hr _ q => (upd_ne (cell r (by simp [hr]))).trans q, ⟨ps, (upd_ne (cell P (by simp))).trans h1, h2.mono fun _ _ q => tup _ _ q⟩,
    ⟨ls, (upd_ne (cell L (by simp))).trans l1, l2.mono fun _ _ q => tup _ _ q⟩, (upd_ne (cell W (by simp))).trans S.waits, S.apart⟩⟩
section
variable {P : Program} {w : World} {K : PySem.W.Frag} {mg : Str → Option Value} {base : Heap} {C B : Addr}
theorem scAnswers : FnScope ["calls", "sky", "found", "at", "behind", "told"] ["calls"] (defScope sAnswers) := ⟨rfl, rfl, rfl, by decide +kernel, rfl, by decide +kernel, by decide +kernel⟩
theorem ok_answers {f : Addr} {fd : FuncData} (F : Fun K "answers" "answers" sAnswers f fd) (T : Txt K mg C B) (MI : Makes P w K mg base C) (GC : Fn P w K mg base 8 "called" ["sky", "call", "given"] (spCalled C)) :
    FnOk P w K mg base CX0 9 f fd ["calls"] (spAnswers K) := by
  refine F.ok scAnswers (fun vs H Q E h => ?_) (fun cdv A outer s H vs Q E hr h => ?_)
  · obtain ⟨a, l, cs, rfl, _⟩ := h
    rfl
  · obtain ⟨a, l, cs, rfl, hS, hl, good, len, len4, k⟩ := h
    have hr2 : Room 2 _ := hr.mono (by decide)
    refine ⟨_, pss_cons (ps_set (i := 1) scAnswers.nd rfl (Or.inl rfl) (pe_mk MI hr2 rfl T.gSky (pa_cons (pe_const T.gFirst) pa_nil)))
      (pss_cons (ps_set (i := 2) scAnswers.nd rfl (Or.inl rfl) (pe_lst pa_nil))
      (pss_cons (ps_set (i := 3) scAnswers.nd rfl (Or.inl rfl) pe_int)
      (pss_cons (ps_while PassesOwn.never (pt_cmpR op_lt (pv 3) (pe_callB call_len_seq (by rfl) T.gLen PySem.boot_len (pa_cons (pv 0) pa_nil)) (nomark _))
        (pss_cons (ps_set (i := 4) scAnswers.nd rfl (Or.inl rfl) (pe_op op_add (pe_op op_add (pv 3) pe_int) (pe_ix ix_tup (pe_glob (v := .ref B) rfl T.gBehind rfl) (pe_ix ix_list (pv 0) (pv 3) (fun _ _ => rfl)) (fun _ _ => rfl))))
        (pss_cons (ps_asg (pe_fn GC hr rfl (pa_cons (pv 1) (pa_cons (pe_ix ix_list (pv 0) (pv 3) (fun _ _ => rfl)) (pa_cons (pe_slice sl_list (pv 0) (po_some (pe_op op_add (pv 3) pe_int)) (po_some (pv 4))) pa_nil))))
          (pg_tup rfl (pgs_cons (pg_name (i := 1) scAnswers.nd rfl (Or.inl rfl)) (pgs_cons (pg_name (i := 5) scAnswers.nd rfl (Or.inl rfl)) pgs_nil))))
        (pss_cons (ps_expr (pe_bm PySem.F.plainAttrs_list PySem.F.slot_list_append PySem.F.type_list_append mt_append (pv 2) (pa_cons (pe_callB call_len_seq (by rfl) T.gLen PySem.boot_len (pa_cons (pv 5) pa_nil)) pa_nil)))
        (pss_cons (ps_expr (pe_bm PySem.F.plainAttrs_list PySem.F.slot_list_extend PySem.F.type_list_extend mt_extend (pv 2) (pa_cons (pv 5) pa_nil)))
        (pss_one (ps_set (i := 3) scAnswers.nd rfl (Or.inl rfl) (pv 4))))))))
      (pss_one (ps_ret (pv 2)))))), ?_⟩
    -- sky = Sky(1)
    intro x dx nx nd ne
    refine ⟨x, dx, 1, rfl, upd_same, fun H1 cl1 Sk1 fr kp => ⟨rfl, ?_⟩⟩
    have s1 : Same H H1 := Same.made nx nd kp
    have fr1 : ∀ c ∈ cl1, H c = none := fun c hc => (upd_none (upd_none (fr c hc)).2).2
    refine ⟨Nat.zero_le _, fun Fd hF => ?_⟩
    have s2 : Same H1 (upd H1 Fd (.lst [])) := Same.new hF
    have hF0 : H Fd = none := s1.free hF
    have fF : Fd ∉ cl1 := fun z => by
      obtain ⟨xs, e⟩ := Sk1.lists Fd z
      rw [hF] at e
      cases e
    have lm : (l.map V.int).length = l.length := List.length_map ..
    -- the loop
    refine ⟨fun n σ H' => ∃ (i : Nat) (b : Addr) (m : M) (cl : List Addr) (v4 v5 : Option V) (out : List Int), n = cs.length - i ∧ i ≤ cs.length ∧ σ = [some (.ref a), some (.ref b), some (.ref Fd), some (.int ((cs.take i).flatten.length : Int)), v4, v5] ∧ Sky C H' b m cl ∧ m.Wf ∧ Ints H' Fd out ∧ Fd ∉ cl ∧
        out ++ m.played (cs.drop i) = (M.fresh 1).played cs ∧ out.length ≤ 201 * i ∧ Stays H H' cl a,
      ⟨cs.length, 0, x, M.fresh 1, cl1, none, none, [], rfl, Nat.zero_le _, rfl, Sk1.same s2, M.wf_fresh 1, upd_same, fF, rfl, Nat.zero_le _, fun o ho => ⟨fun z => (by rw [fr1 a z] at ho; cases ho), s2 _ _ (s1 _ _ ho)⟩⟩, ?_⟩
    rintro n σ H2 ⟨i, b, m, cl, v4, v5, out, rfl, hi, rfl, Sk, Wf, hO, nF, pd, lo, st⟩
    have hS2 := st.seq hS
    refine ⟨_, rfl, _, rfl, a, _, rfl, .inl hS2, _, _, rfl, rfl, _, rfl, ?_⟩
    rw [lm]
    by_cases c : i < cs.length
    · obtain ⟨ci, hci⟩ : ∃ ci, cs[i]? = some ci := ⟨_, List.getElem?_eq_getElem c⟩
      have G := good ci (List.mem_of_getElem? hci)
      obtain ⟨q, gs, rfl⟩ := good_cons G
      have ef := flat_at hci
      have el : l = (cs.take i).flatten ++ (q :: gs) ++ (cs.drop (i + 1)).flatten := hl.trans ef
      have lt : (cs.take i).flatten.length < l.length := by
        rw [el, List.length_append, List.length_append, List.length_cons]
        omega
      have next : (cs.take (i + 1)).flatten.length = (cs.take i).flatten.length + 1 + gs.length := by
        rw [take_one hci, List.flatten_append, List.flatten_cons, List.flatten_nil, List.append_nil, List.length_append, List.length_cons]
        omega
      have dr : cs.drop i = (q :: gs) :: cs.drop (i + 1) := by
        rw [List.drop_eq_getElem_cons c]
        exact congrArg (fun z => z :: _) (Option.some.inj ((List.getElem?_eq_getElem c).symm.trans hci))
      have here : atI (l.map V.int) ((cs.take i).flatten.length : Int) = some (.int q) := by
        refine at_of (j := (cs.take i).flatten.length) rfl (at_map ?_)
        rw [el, List.append_assoc, List.getElem?_append_right (Nat.le_refl _), Nat.sub_self]
        rfl
      rw [decide_eq_true (show ((cs.take i).flatten.length : Int) < (l.length : Int) by omega)]
      refine iteT ⟨fun σ' H' => ∃ (b' : Addr) (m' : M) (cl' : List Addr) (v4 v5 : Option V) (out' : List Int), σ' = [some (.ref a), some (.ref b'), some (.ref Fd), some (.int ((cs.take (i + 1)).flatten.length : Int)), v4, v5] ∧ Sky C H' b' m' cl' ∧ m'.Wf ∧ Ints H' Fd out' ∧ Fd ∉ cl' ∧
          out' ++ m'.played (cs.drop (i + 1)) = (M.fresh 1).played cs ∧ out'.length ≤ 201 * (i + 1) ∧ Stays H H' cl' a,
        fun σ' H' ⟨b', m', cl', v4, v5, out', z⟩ => ⟨cs.length - (i + 1), by omega, i + 1, b', m', cl', v4, v5, out', rfl, c, z⟩, ?_⟩
      -- behind = at + 1 + BEHIND[calls[at]]
      refine ⟨_, rfl, _, _, rfl, rfl, _, rfl, _, rfl, a, _, _, _, rfl, rfl, hS2, here, B, _, _, _, rfl, rfl, T.tB _, good_behind G, _, _, rfl, rfl, ?_⟩
      -- sky, told = called(sky, calls[at], calls[at + 1:behind])
      refine ⟨_, rfl, _, rfl, _, rfl, a, _, _, _, rfl, rfl, hS2, here, _, rfl, _, rfl, _, _, rfl, rfl, _, rfl, _, rfl, _, rfl, a, _, rfl, hS2, fun g hg => ?_⟩
      have s3 : Same H2 _ := Same.new (o := .lst (cutV (l.map V.int) (some (((cs.take i).flatten.length : Int) + 1)) (some (((cs.take i).flatten.length : Int) + 1 + (gs.length : Int))))) hg
      refine ⟨b, g, m, cl, q, gs, rfl, Sk.same s3, Wf, ?_, G, fun H3 t b' p cl' ht Sk3 hp fp bt cls => ?_⟩
      · show _ = some (HO.lst _)
        rw [upd_same, cut_mid el]
      have b23 : But cl H2 H3 := (But.of s3).trans bt
      have hF3 : H3 Fd = some (.lst (out.map V.int)) := b23 _ _ hO nF
      have Wf' := M.wf_called Wf G
      have lc := M.called_len Wf G
      have nF' : Fd ∉ cl' := fun z => by
        rcases cls Fd z with z | z
        · exact nF z
        · rw [s3 _ _ hO] at z
          cases z
      have st3 : Stays H H3 cl' a := fun o ho => by
        obtain ⟨h1, h2⟩ := st o ho
        refine ⟨fun z => ?_, b23 _ _ h2 h1⟩
        rcases cls a z with z | z
        · exact h1 z
        · rw [s3 _ _ h2] at z
          cases z
      refine ⟨t, _, rfl, SqT.of ht, rfl, _, _, rfl, _, _, rfl, rfl, ?_⟩
      have lp : ((m.called (q :: gs)).2.map V.int).length = (m.called (q :: gs)).2.length := List.length_map ..
      -- found.append(len(told))
      refine ⟨_, rfl, .inl ⟨rfl, _, SqL.of hF3⟩, _, rfl, p, _, rfl, .inl (SqL.of hp), Fd, _, _, rfl, rfl, hF3, lt_line ?_, ?_⟩
      · rw [List.length_map]
        omega
      rw [lp]
      have aF : ∀ o, H a = some o → a ≠ Fd := fun o ho => ne_of_none ho hF0
      have pF : p ≠ Fd := (ne_of_none (s3 _ _ hO) fp).symm
      · have hp4 : upd H3 Fd (.lst (out.map V.int ++ [.int ((m.called (q :: gs)).2.length : Int)])) p = some (.lst ((m.called (q :: gs)).2.map V.int)) := (upd_ne pF).trans hp
        -- found.extend(told)
        refine ⟨_, rfl, .inl ⟨rfl, _, SqL.of upd_same⟩, _, rfl, Fd, p, _, _, rfl, rfl, upd_same, hp4, le_line ?_, ?_⟩
        · rw [List.length_append, List.length_map, lp]
          show out.length + 1 + _ ≤ _
          omega
        rw [upd_upd]
        refine ⟨_, rfl, b', (m.called (q :: gs)).1, cl', some (.int (((cs.take i).flatten.length : Int) + 1 + (gs.length : Int))), some (.ref p), out ++ ((m.called (q :: gs)).2.length : Int) :: (m.called (q :: gs)).2, ?_, sky_apart Sk3 hF3 nF', Wf', ints_new ?_, nF', ?_, ?_, fun o ho => ?_⟩
        · rw [next]
          have e : (((cs.take i).flatten.length + 1 + gs.length : Nat) : Int) = ((cs.take i).flatten.length : Int) + 1 + (gs.length : Int) := by omega
          rw [e]
          rfl
        · rw [List.map_append, List.map_cons, List.append_assoc]
          rfl
        · rw [← pd, dr, List.append_assoc]
          rfl
        · rw [List.length_append, List.length_cons]
          omega
        · obtain ⟨h1, h2⟩ := st3 o ho
          exact ⟨h1, (upd_ne (aF o ho)).trans h2⟩
    · have ei : i = cs.length := by omega
      subst ei
      rw [List.take_length, ← hl, decide_eq_false (show ¬ (l.length : Int) < (l.length : Int) by omega)]
      rw [List.drop_length] at pd
      refine iteF ⟨_, rfl, k _ _ ?_⟩
      rw [← pd]
      show Ints H2 Fd (out ++ [])
      rw [List.append_nil]
      exact hO
end
end Wa
/-! ## What the top has written, and the last theorem (printed by gen_end.py) -/
namespace Wa
open PySem PySem.Spec PyProof.Rows L2
theorem all_mk {P : Program} {w : World} {K : PySem.W.Frag} {h : Heap} {mg : Str → Option Value} {fa C : Addr} (X : K.In h) (G : h.Ns mainGlobals mg) (hfa : mg "answers" = some (.ref fa))
    {m0 : Addr} {odm0 anm0 : Option Addr} {slm0 : Array (Option Value)} {ocm0 kVm0 dcm0 pmm0 cdm0 ctm0 : Value}
    {m1 : Addr} {odm1 anm1 : Option Addr} {slm1 : Array (Option Value)} {ocm1 kVm1 dcm1 pmm1 cdm1 ctm1 : Value}
    {m2 : Addr} {odm2 anm2 : Option Addr} {slm2 : Array (Option Value)} {ocm2 kVm2 dcm2 pmm2 cdm2 ctm2 : Value}
    {m3 : Addr} {odm3 anm3 : Option Addr} {slm3 : Array (Option Value)} {ocm3 kVm3 dcm3 pmm3 cdm3 ctm3 : Value}
    {m4 : Addr} {odm4 anm4 : Option Addr} {slm4 : Array (Option Value)} {ocm4 kVm4 dcm4 pmm4 cdm4 ctm4 : Value}
    {m5 : Addr} {odm5 anm5 : Option Addr} {slm5 : Array (Option Value)} {ocm5 kVm5 dcm5 pmm5 cdm5 ctm5 : Value}
    {m6 : Addr} {odm6 anm6 : Option Addr} {slm6 : Array (Option Value)} {ocm6 kVm6 dcm6 pmm6 cdm6 ctm6 : Value}
    {m7 : Addr} {odm7 anm7 : Option Addr} {slm7 : Array (Option Value)} {ocm7 kVm7 dcm7 pmm7 cdm7 ctm7 : Value}
    {f0 : Addr} {odf0 anf0 : Option Addr} {slf0 : Array (Option Value)} {ocf0 kVf0 dcf0 pmf0 cdf0 ctf0 : Value}
    {f1 : Addr} {odf1 anf1 : Option Addr} {slf1 : Array (Option Value)} {ocf1 kVf1 dcf1 pmf1 cdf1 ctf1 : Value}
    {f2 : Addr} {odf2 anf2 : Option Addr} {slf2 : Array (Option Value)} {ocf2 kVf2 dcf2 pmf2 cdf2 ctf2 : Value}
    {f3 : Addr} {odf3 anf3 : Option Addr} {slf3 : Array (Option Value)} {ocf3 kVf3 dcf3 pmf3 cdf3 ctf3 : Value}
    {f4 : Addr} {odf4 anf4 : Option Addr} {slf4 : Array (Option Value)} {ocf4 kVf4 dcf4 pmf4 cdf4 ctf4 : Value}
    {f5 : Addr} {odf5 anf5 : Option Addr} {slf5 : Array (Option Value)} {ocf5 kVf5 dcf5 pmf5 cdf5 ctf5 : Value}
    {f6 : Addr} {odf6 anf6 : Option Addr} {slf6 : Array (Option Value)} {ocf6 kVf6 dcf6 pmf6 cdf6 ctf6 : Value}
    {f7 : Addr} {odf7 anf7 : Option Addr} {slf7 : Array (Option Value)} {ocf7 kVf7 dcf7 pmf7 cdf7 ctf7 : Value}
    {f8 : Addr} {odf8 anf8 : Option Addr} {slf8 : Array (Option Value)} {ocf8 kVf8 dcf8 pmf8 cdf8 ctf8 : Value}
    {f9 : Addr} {odf9 anf9 : Option Addr} {slf9 : Array (Option Value)} {ocf9 kVf9 dcf9 pmf9 cdf9 ctf9 : Value}
    {f10 : Addr} {odf10 anf10 : Option Addr} {slf10 : Array (Option Value)} {ocf10 kVf10 dcf10 pmf10 cdf10 ctf10 : Value}
    {f11 : Addr} {odf11 anf11 : Option Addr} {slf11 : Array (Option Value)} {ocf11 kVf11 dcf11 pmf11 cdf11 ctf11 : Value}
    {f12 : Addr} {odf12 anf12 : Option Addr} {slf12 : Array (Option Value)} {ocf12 kVf12 dcf12 pmf12 cdf12 ctf12 : Value}
    {f13 : Addr} {odf13 anf13 : Option Addr} {slf13 : Array (Option Value)} {ocf13 kVf13 dcf13 pmf13 cdf13 ctf13 : Value}
    {f14 : Addr} {odf14 anf14 : Option Addr} {slf14 : Array (Option Value)} {ocf14 kVf14 dcf14 pmf14 cdf14 ctf14 : Value}
    {f15 : Addr} {odf15 anf15 : Option Addr} {slf15 : Array (Option Value)} {ocf15 kVf15 dcf15 pmf15 cdf15 ctf15 : Value}
    {f16 : Addr} {odf16 anf16 : Option Addr} {slf16 : Array (Option Value)} {ocf16 kVf16 dcf16 pmf16 cdf16 ctf16 : Value}
    {f17 : Addr} {odf17 anf17 : Option Addr} {slf17 : Array (Option Value)} {ocf17 kVf17 dcf17 pmf17 cdf17 ctf17 : Value}
    {f18 : Addr} {odf18 anf18 : Option Addr} {slf18 : Array (Option Value)} {ocf18 kVf18 dcf18 pmf18 cdf18 ctf18 : Value}
    {f19 : Addr} {odf19 anf19 : Option Addr} {slf19 : Array (Option Value)} {ocf19 kVf19 dcf19 pmf19 cdf19 ctf19 : Value}
    {f20 : Addr} {odf20 anf20 : Option Addr} {slf20 : Array (Option Value)} {ocf20 kVf20 dcf20 pmf20 cdf20 ctf20 : Value}
    {f21 : Addr} {odf21 anf21 : Option Addr} {slf21 : Array (Option Value)} {ocf21 kVf21 dcf21 pmf21 cdf21 ctf21 : Value}
    {f22 : Addr} {odf22 anf22 : Option Addr} {slf22 : Array (Option Value)} {ocf22 kVf22 dcf22 pmf22 cdf22 ctf22 : Value}
    {t_NO_ONE_WAITS t_NO_PLAN t_CLASSES t_MOST_SHIFT t_MOST_ROOM t_LATEST t_MOST_WAITING t_MOST_THAT_CAME t_NOT_LET t_NO_SUCH t_NOT_NOW t_FULL t_BEGINS t_ROOM t_COMES t_GOES t_LANDS t_PLAN t_CAME t_MAY t_WHY t_MANY t_SHIFT_AT_FIRST : Tok}
    {B : Addr} {odB : Option Addr} {slB : Array (Option Value)} {nB : Nat} {b0 b1 b2 b3 b4 b5 b6 b7 b8 b9 b10 : Tok}
    (aC : PySem.W.nsIn K mainGlobals "Sky" = some (some (.ref C)))
    (ma0 : PySem.W.findIn K (.ref C) "__init__" = some (some (.ref m0)))
    (mi0 : PySem.W.isFn K (.ref m0) = true)
    (ml0 : K.lookup m0 = some ⟨ocm0, odm0, .func (PySem.W.fnOf "__init__" "Sky.__init__" (defArgs sInit) (defBody sInit) (defScope sInit) .none kVm0 dcm0 pmm0 anm0 cdm0 ctm0), slm0⟩)
    (mc0 : PySem.W.codeIn K cdm0 "Sky.__init__" = true)
    (mk0 : PySem.W.keepIn K (.ref m0) = true)
    (ma1 : PySem.W.findIn K (.ref C) "set_room" = some (some (.ref m1)))
    (mi1 : PySem.W.isFn K (.ref m1) = true)
    (ml1 : K.lookup m1 = some ⟨ocm1, odm1, .func (PySem.W.fnOf "set_room" "Sky.set_room" (defArgs sSetRoom) (defBody sSetRoom) (defScope sSetRoom) .none kVm1 dcm1 pmm1 anm1 cdm1 ctm1), slm1⟩)
    (mc1 : PySem.W.codeIn K cdm1 "Sky.set_room" = true)
    (mk1 : PySem.W.keepIn K (.ref m1) = true)
    (ma2 : PySem.W.findIn K (.ref C) "add_plane" = some (some (.ref m2)))
    (mi2 : PySem.W.isFn K (.ref m2) = true)
    (ml2 : K.lookup m2 = some ⟨ocm2, odm2, .func (PySem.W.fnOf "add_plane" "Sky.add_plane" (defArgs sAddPlane) (defBody sAddPlane) (defScope sAddPlane) .none kVm2 dcm2 pmm2 anm2 cdm2 ctm2), slm2⟩)
    (mc2 : PySem.W.codeIn K cdm2 "Sky.add_plane" = true)
    (mk2 : PySem.W.keepIn K (.ref m2) = true)
    (ma3 : PySem.W.findIn K (.ref C) "why_not" = some (some (.ref m3)))
    (mi3 : PySem.W.isFn K (.ref m3) = true)
    (ml3 : K.lookup m3 = some ⟨ocm3, odm3, .func (PySem.W.fnOf "why_not" "Sky.why_not" (defArgs sWhyNot) (defBody sWhyNot) (defScope sWhyNot) .none kVm3 dcm3 pmm3 anm3 cdm3 ctm3), slm3⟩)
    (mc3 : PySem.W.codeIn K cdm3 "Sky.why_not" = true)
    (mk3 : PySem.W.keepIn K (.ref m3) = true)
    (ma4 : PySem.W.findIn K (.ref C) "leave" = some (some (.ref m4)))
    (mi4 : PySem.W.isFn K (.ref m4) = true)
    (ml4 : K.lookup m4 = some ⟨ocm4, odm4, .func (PySem.W.fnOf "leave" "Sky.leave" (defArgs sLeave) (defBody sLeave) (defScope sLeave) .none kVm4 dcm4 pmm4 anm4 cdm4 ctm4), slm4⟩)
    (mc4 : PySem.W.codeIn K cdm4 "Sky.leave" = true)
    (mk4 : PySem.W.keepIn K (.ref m4) = true)
    (ma5 : PySem.W.findIn K (.ref C) "land" = some (some (.ref m5)))
    (mi5 : PySem.W.isFn K (.ref m5) = true)
    (ml5 : K.lookup m5 = some ⟨ocm5, odm5, .func (PySem.W.fnOf "land" "Sky.land" (defArgs sLand) (defBody sLand) (defScope sLand) .none kVm5 dcm5 pmm5 anm5 cdm5 ctm5), slm5⟩)
    (mc5 : PySem.W.codeIn K cdm5 "Sky.land" = true)
    (mk5 : PySem.W.keepIn K (.ref m5) = true)
    (ma6 : PySem.W.findIn K (.ref C) "clear_from" = some (some (.ref m6)))
    (mi6 : PySem.W.isFn K (.ref m6) = true)
    (ml6 : K.lookup m6 = some ⟨ocm6, odm6, .func (PySem.W.fnOf "clear_from" "Sky.clear_from" (defArgs sClear) (defBody sClear) (defScope sClear) .none kVm6 dcm6 pmm6 anm6 cdm6 ctm6), slm6⟩)
    (mc6 : PySem.W.codeIn K cdm6 "Sky.clear_from" = true)
    (mk6 : PySem.W.keepIn K (.ref m6) = true)
    (ma7 : PySem.W.findIn K (.ref C) "rank_of" = some (some (.ref m7)))
    (mi7 : PySem.W.isFn K (.ref m7) = true)
    (ml7 : K.lookup m7 = some ⟨ocm7, odm7, .func (PySem.W.fnOf "rank_of" "Sky.rank_of" (defArgs sRank) (defBody sRank) (defScope sRank) .none kVm7 dcm7 pmm7 anm7 cdm7 ctm7), slm7⟩)
    (mc7 : PySem.W.codeIn K cdm7 "Sky.rank_of" = true)
    (mk7 : PySem.W.keepIn K (.ref m7) = true)
    (fa0 : PySem.W.nsIn K mainGlobals "places_known" = some (some (.ref f0)))
    (fl0 : K.lookup f0 = some ⟨ocf0, odf0, .func (PySem.W.fnOf "places_known" "places_known" (defArgs sKnown) (defBody sKnown) (defScope sKnown) .none kVf0 dcf0 pmf0 anf0 cdf0 ctf0), slf0⟩)
    (fc0 : PySem.W.codeIn K cdf0 "places_known" = true)
    (fk0 : PySem.W.keepIn K (.ref f0) = true)
    (fa1 : PySem.W.nsIn K mainGlobals "soonest" = some (some (.ref f1)))
    (fl1 : K.lookup f1 = some ⟨ocf1, odf1, .func (PySem.W.fnOf "soonest" "soonest" (defArgs sSoonest) (defBody sSoonest) (defScope sSoonest) .none kVf1 dcf1 pmf1 anf1 cdf1 ctf1), slf1⟩)
    (fc1 : PySem.W.codeIn K cdf1 "soonest" = true)
    (fk1 : PySem.W.keepIn K (.ref f1) = true)
    (fa2 : PySem.W.nsIn K mainGlobals "is_near" = some (some (.ref f2)))
    (fl2 : K.lookup f2 = some ⟨ocf2, odf2, .func (PySem.W.fnOf "is_near" "is_near" (defArgs sNear) (defBody sNear) (defScope sNear) .none kVf2 dcf2 pmf2 anf2 cdf2 ctf2), slf2⟩)
    (fc2 : PySem.W.codeIn K cdf2 "is_near" = true)
    (fk2 : PySem.W.keepIn K (.ref f2) = true)
    (fa3 : PySem.W.nsIn K mainGlobals "numbers_of" = some (some (.ref f3)))
    (fl3 : K.lookup f3 = some ⟨ocf3, odf3, .func (PySem.W.fnOf "numbers_of" "numbers_of" (defArgs sNumbers) (defBody sNumbers) (defScope sNumbers) .none kVf3 dcf3 pmf3 anf3 cdf3 ctf3), slf3⟩)
    (fc3 : PySem.W.codeIn K cdf3 "numbers_of" = true)
    (fk3 : PySem.W.keepIn K (.ref f3) = true)
    (fa4 : PySem.W.nsIn K mainGlobals "with_one_more" = some (some (.ref f4)))
    (fl4 : K.lookup f4 = some ⟨ocf4, odf4, .func (PySem.W.fnOf "with_one_more" "with_one_more" (defArgs sMore) (defBody sMore) (defScope sMore) .none kVf4 dcf4 pmf4 anf4 cdf4 ctf4), slf4⟩)
    (fc4 : PySem.W.codeIn K cdf4 "with_one_more" = true)
    (fk4 : PySem.W.keepIn K (.ref f4) = true)
    (fa5 : PySem.W.nsIn K mainGlobals "allowed" = some (some (.ref f5)))
    (fl5 : K.lookup f5 = some ⟨ocf5, odf5, .func (PySem.W.fnOf "allowed" "allowed" (defArgs sAllowed) (defBody sAllowed) (defScope sAllowed) .none kVf5 dcf5 pmf5 anf5 cdf5 ctf5), slf5⟩)
    (fc5 : PySem.W.codeIn K cdf5 "allowed" = true)
    (fk5 : PySem.W.keepIn K (.ref f5) = true)
    (fa6 : PySem.W.nsIn K mainGlobals "end_of" = some (some (.ref f6)))
    (fl6 : K.lookup f6 = some ⟨ocf6, odf6, .func (PySem.W.fnOf "end_of" "end_of" (defArgs sEnd) (defBody sEnd) (defScope sEnd) .none kVf6 dcf6 pmf6 anf6 cdf6 ctf6), slf6⟩)
    (fc6 : PySem.W.codeIn K cdf6 "end_of" = true)
    (fk6 : PySem.W.keepIn K (.ref f6) = true)
    (fa7 : PySem.W.nsIn K mainGlobals "waiting_of" = some (some (.ref f7)))
    (fl7 : K.lookup f7 = some ⟨ocf7, odf7, .func (PySem.W.fnOf "waiting_of" "waiting_of" (defArgs sWaitingOf) (defBody sWaitingOf) (defScope sWaitingOf) .none kVf7 dcf7 pmf7 anf7 cdf7 ctf7), slf7⟩)
    (fc7 : PySem.W.codeIn K cdf7 "waiting_of" = true)
    (fk7 : PySem.W.keepIn K (.ref f7) = true)
    (fa8 : PySem.W.nsIn K mainGlobals "plan_of" = some (some (.ref f8)))
    (fl8 : K.lookup f8 = some ⟨ocf8, odf8, .func (PySem.W.fnOf "plan_of" "plan_of" (defArgs sPlanOf) (defBody sPlanOf) (defScope sPlanOf) .none kVf8 dcf8 pmf8 anf8 cdf8 ctf8), slf8⟩)
    (fc8 : PySem.W.codeIn K cdf8 "plan_of" = true)
    (fk8 : PySem.W.keepIn K (.ref f8) = true)
    (fa9 : PySem.W.nsIn K mainGlobals "time_of" = some (some (.ref f9)))
    (fl9 : K.lookup f9 = some ⟨ocf9, odf9, .func (PySem.W.fnOf "time_of" "time_of" (defArgs sTime) (defBody sTime) (defScope sTime) .none kVf9 dcf9 pmf9 anf9 cdf9 ctf9), slf9⟩)
    (fc9 : PySem.W.codeIn K cdf9 "time_of" = true)
    (fk9 : PySem.W.keepIn K (.ref f9) = true)
    (fa10 : PySem.W.nsIn K mainGlobals "first_behind" = some (some (.ref f10)))
    (fl10 : K.lookup f10 = some ⟨ocf10, odf10, .func (PySem.W.fnOf "first_behind" "first_behind" (defArgs sBehind) (defBody sBehind) (defScope sBehind) .none kVf10 dcf10 pmf10 anf10 cdf10 ctf10), slf10⟩)
    (fc10 : PySem.W.codeIn K cdf10 "first_behind" = true)
    (fk10 : PySem.W.keepIn K (.ref f10) = true)
    (fa11 : PySem.W.nsIn K mainGlobals "listed" = some (some (.ref f11)))
    (fl11 : K.lookup f11 = some ⟨ocf11, odf11, .func (PySem.W.fnOf "listed" "listed" (defArgs sListed) (defBody sListed) (defScope sListed) .none kVf11 dcf11 pmf11 anf11 cdf11 ctf11), slf11⟩)
    (fc11 : PySem.W.codeIn K cdf11 "listed" = true)
    (fk11 : PySem.W.keepIn K (.ref f11) = true)
    (fa12 : PySem.W.nsIn K mainGlobals "pairs_listed" = some (some (.ref f12)))
    (fl12 : K.lookup f12 = some ⟨ocf12, odf12, .func (PySem.W.fnOf "pairs_listed" "pairs_listed" (defArgs sPairsListed) (defBody sPairsListed) (defScope sPairsListed) .none kVf12 dcf12 pmf12 anf12 cdf12 ctf12), slf12⟩)
    (fc12 : PySem.W.codeIn K cdf12 "pairs_listed" = true)
    (fk12 : PySem.W.keepIn K (.ref f12) = true)
    (fa13 : PySem.W.nsIn K mainGlobals "told_plan" = some (some (.ref f13)))
    (fl13 : K.lookup f13 = some ⟨ocf13, odf13, .func (PySem.W.fnOf "told_plan" "told_plan" (defArgs sToldPlan) (defBody sToldPlan) (defScope sToldPlan) .none kVf13 dcf13 pmf13 anf13 cdf13 ctf13), slf13⟩)
    (fc13 : PySem.W.codeIn K cdf13 "told_plan" = true)
    (fk13 : PySem.W.keepIn K (.ref f13) = true)
    (fa14 : PySem.W.nsIn K mainGlobals "told_landing" = some (some (.ref f14)))
    (fl14 : K.lookup f14 = some ⟨ocf14, odf14, .func (PySem.W.fnOf "told_landing" "told_landing" (defArgs sToldLanding) (defBody sToldLanding) (defScope sToldLanding) .none kVf14 dcf14 pmf14 anf14 cdf14 ctf14), slf14⟩)
    (fc14 : PySem.W.codeIn K cdf14 "told_landing" = true)
    (fk14 : PySem.W.keepIn K (.ref f14) = true)
    (fa15 : PySem.W.nsIn K mainGlobals "told_may" = some (some (.ref f15)))
    (fl15 : K.lookup f15 = some ⟨ocf15, odf15, .func (PySem.W.fnOf "told_may" "told_may" (defArgs sToldMay) (defBody sToldMay) (defScope sToldMay) .none kVf15 dcf15 pmf15 anf15 cdf15 ctf15), slf15⟩)
    (fc15 : PySem.W.codeIn K cdf15 "told_may" = true)
    (fk15 : PySem.W.keepIn K (.ref f15) = true)
    (fa16 : PySem.W.nsIn K mainGlobals "told_why" = some (some (.ref f16)))
    (fl16 : K.lookup f16 = some ⟨ocf16, odf16, .func (PySem.W.fnOf "told_why" "told_why" (defArgs sToldWhy) (defBody sToldWhy) (defScope sToldWhy) .none kVf16 dcf16 pmf16 anf16 cdf16 ctf16), slf16⟩)
    (fc16 : PySem.W.codeIn K cdf16 "told_why" = true)
    (fk16 : PySem.W.keepIn K (.ref f16) = true)
    (fa17 : PySem.W.nsIn K mainGlobals "told_many" = some (some (.ref f17)))
    (fl17 : K.lookup f17 = some ⟨ocf17, odf17, .func (PySem.W.fnOf "told_many" "told_many" (defArgs sToldMany) (defBody sToldMany) (defScope sToldMany) .none kVf17 dcf17 pmf17 anf17 cdf17 ctf17), slf17⟩)
    (fc17 : PySem.W.codeIn K cdf17 "told_many" = true)
    (fk17 : PySem.W.keepIn K (.ref f17) = true)
    (fa18 : PySem.W.nsIn K mainGlobals "told_state" = some (some (.ref f18)))
    (fl18 : K.lookup f18 = some ⟨ocf18, odf18, .func (PySem.W.fnOf "told_state" "told_state" (defArgs sToldState) (defBody sToldState) (defScope sToldState) .none kVf18 dcf18 pmf18 anf18 cdf18 ctf18), slf18⟩)
    (fc18 : PySem.W.codeIn K cdf18 "told_state" = true)
    (fk18 : PySem.W.keepIn K (.ref f18) = true)
    (fa19 : PySem.W.nsIn K mainGlobals "gone" = some (some (.ref f19)))
    (fl19 : K.lookup f19 = some ⟨ocf19, odf19, .func (PySem.W.fnOf "gone" "gone" (defArgs sGone) (defBody sGone) (defScope sGone) .none kVf19 dcf19 pmf19 anf19 cdf19 ctf19), slf19⟩)
    (fc19 : PySem.W.codeIn K cdf19 "gone" = true)
    (fk19 : PySem.W.keepIn K (.ref f19) = true)
    (fa20 : PySem.W.nsIn K mainGlobals "asked" = some (some (.ref f20)))
    (fl20 : K.lookup f20 = some ⟨ocf20, odf20, .func (PySem.W.fnOf "asked" "asked" (defArgs sAsked) (defBody sAsked) (defScope sAsked) .none kVf20 dcf20 pmf20 anf20 cdf20 ctf20), slf20⟩)
    (fc20 : PySem.W.codeIn K cdf20 "asked" = true)
    (fk20 : PySem.W.keepIn K (.ref f20) = true)
    (fa21 : PySem.W.nsIn K mainGlobals "called" = some (some (.ref f21)))
    (fl21 : K.lookup f21 = some ⟨ocf21, odf21, .func (PySem.W.fnOf "called" "called" (defArgs sCalled) (defBody sCalled) (defScope sCalled) .none kVf21 dcf21 pmf21 anf21 cdf21 ctf21), slf21⟩)
    (fc21 : PySem.W.codeIn K cdf21 "called" = true)
    (fk21 : PySem.W.keepIn K (.ref f21) = true)
    (fa22 : PySem.W.nsIn K mainGlobals "answers" = some (some (.ref f22)))
    (fl22 : K.lookup f22 = some ⟨ocf22, odf22, .func (PySem.W.fnOf "answers" "answers" (defArgs sAnswers) (defBody sAnswers) (defScope sAnswers) .none kVf22 dcf22 pmf22 anf22 cdf22 ctf22), slf22⟩)
    (fc22 : PySem.W.codeIn K cdf22 "answers" = true)
    (fk22 : PySem.W.keepIn K (.ref f22) = true)
    (pg : PySem.W.plainGet K C Str.empty = true)
    (hd : PySem.W.hasDictIn K C = true)
    (po : PySem.W.plainOver K C = true)
    (sa : PySem.W.findIn K (.ref C) "__setattr__" = some (some (.builtin "object.__setattr__")))
    (mkc : PySem.W.makesIn K C = true)
    (kc : PySem.W.keepIn K (.ref C) = true)
    (n_shift : PySem.W.findIn K (.ref C) "shift" = some none)
    (n_rooms : PySem.W.findIn K (.ref C) "rooms" = some none)
    (n_planes : PySem.W.findIn K (.ref C) "planes" = some none)
    (n_landed : PySem.W.findIn K (.ref C) "landed" = some none)
    (n_waiting : PySem.W.findIn K (.ref C) "waiting" = some none)
    (z_len : PySem.W.nsIn K mainGlobals "len" = some none)
    (z_max : PySem.W.nsIn K mainGlobals "max" = some none)
    (z_min : PySem.W.nsIn K mainGlobals "min" = some none)
    (z_abs : PySem.W.nsIn K mainGlobals "abs" = some none)
    (z_sum : PySem.W.nsIn K mainGlobals "sum" = some none)
    (z_any : PySem.W.nsIn K mainGlobals "any" = some none)
    (z_int : PySem.W.nsIn K mainGlobals "int" = some none)
    (z_dict : PySem.W.nsIn K mainGlobals "dict" = some none)
    (z_list : PySem.W.nsIn K mainGlobals "list" = some none)
    (z_range : PySem.W.nsIn K mainGlobals "range" = some none)
    (c_NO_ONE_WAITS : PySem.W.nsIn K mainGlobals "NO_ONE_WAITS" = some (some (.int (-4) t_NO_ONE_WAITS)))
    (c_NO_PLAN : PySem.W.nsIn K mainGlobals "NO_PLAN" = some (some (.int (-6) t_NO_PLAN)))
    (c_CLASSES : PySem.W.nsIn K mainGlobals "CLASSES" = some (some (.int (4) t_CLASSES)))
    (c_MOST_SHIFT : PySem.W.nsIn K mainGlobals "MOST_SHIFT" = some (some (.int (3) t_MOST_SHIFT)))
    (c_MOST_ROOM : PySem.W.nsIn K mainGlobals "MOST_ROOM" = some (some (.int (9) t_MOST_ROOM)))
    (c_LATEST : PySem.W.nsIn K mainGlobals "LATEST" = some (some (.int (1000) t_LATEST)))
    (c_MOST_WAITING : PySem.W.nsIn K mainGlobals "MOST_WAITING" = some (some (.int (8) t_MOST_WAITING)))
    (c_MOST_THAT_CAME : PySem.W.nsIn K mainGlobals "MOST_THAT_CAME" = some (some (.int (60) t_MOST_THAT_CAME)))
    (c_NOT_LET : PySem.W.nsIn K mainGlobals "NOT_LET" = some (some (.int (-1) t_NOT_LET)))
    (c_NO_SUCH : PySem.W.nsIn K mainGlobals "NO_SUCH" = some (some (.int (-2) t_NO_SUCH)))
    (c_NOT_NOW : PySem.W.nsIn K mainGlobals "NOT_NOW" = some (some (.int (-4) t_NOT_NOW)))
    (c_FULL : PySem.W.nsIn K mainGlobals "FULL" = some (some (.int (-5) t_FULL)))
    (c_BEGINS : PySem.W.nsIn K mainGlobals "BEGINS" = some (some (.int (0) t_BEGINS)))
    (c_ROOM : PySem.W.nsIn K mainGlobals "ROOM" = some (some (.int (1) t_ROOM)))
    (c_COMES : PySem.W.nsIn K mainGlobals "COMES" = some (some (.int (2) t_COMES)))
    (c_GOES : PySem.W.nsIn K mainGlobals "GOES" = some (some (.int (3) t_GOES)))
    (c_LANDS : PySem.W.nsIn K mainGlobals "LANDS" = some (some (.int (4) t_LANDS)))
    (c_PLAN : PySem.W.nsIn K mainGlobals "PLAN" = some (some (.int (5) t_PLAN)))
    (c_CAME : PySem.W.nsIn K mainGlobals "CAME" = some (some (.int (6) t_CAME)))
    (c_MAY : PySem.W.nsIn K mainGlobals "MAY" = some (some (.int (7) t_MAY)))
    (c_WHY : PySem.W.nsIn K mainGlobals "WHY" = some (some (.int (8) t_WHY)))
    (c_MANY : PySem.W.nsIn K mainGlobals "MANY" = some (some (.int (9) t_MANY)))
    (c_SHIFT_AT_FIRST : PySem.W.nsIn K mainGlobals "SHIFT_AT_FIRST" = some (some (.int (1) t_SHIFT_AT_FIRST)))
    (aB : PySem.W.nsIn K mainGlobals "BEHIND" = some (some (.ref B)))
    (lB : K.lookup B = some ⟨.type "tuple", odB, .seq #[.int 1 b0, .int 3 b1, .int 3 b2, .int 1 b3, .int 0 b4, .int 0 b5, .int 0 b6, .int 2 b7, .int 1 b8, .int 0 b9, .int 0 b10] nB, slB⟩)
    : ∃ fd : FuncData, (∀ (s : Shared) (us : List Value), us.length = (["calls"] : List Str).length → BindsTo s fd ⟨us, []⟩ ((["calls"] : List Str).zip us)) ∧ ∀ base : Heap, K.In base → base.Ns mainGlobals mg → FnOk P w K mg base CX0 9 fa fd ["calls"] (spAnswers K) := by
  have e := hfa.symm.trans (PySem.W.mg_of X G fa22)
  cases e
  have tB : ∀ H : Hp, SqT K H B ([1, 3, 3, 1, 0, 0, 0, 2, 1, 0, 0].map V.int) := fun H => .inr ⟨_, _, _, lB, rfl, rfl, (by show 11 ≤ sizeLine; decide), .cons ⟨_, rfl⟩ (.cons ⟨_, rfl⟩ (.cons ⟨_, rfl⟩ (.cons ⟨_, rfl⟩ (.cons ⟨_, rfl⟩ (.cons ⟨_, rfl⟩ (.cons ⟨_, rfl⟩ (.cons ⟨_, rfl⟩ (.cons ⟨_, rfl⟩ (.cons ⟨_, rfl⟩ (.cons ⟨_, rfl⟩ (.nil)))))))))))⟩
  have T : Txt K mg C B := {
    cl := ⟨pg, hd, po, sa⟩, nS := n_shift, nR := n_rooms, nP := n_planes, nL := n_landed, nW := n_waiting, gSky := PySem.W.mg_of X G aC,
    gLen := PySem.W.mg_none_of X G z_len, gMax := PySem.W.mg_none_of X G z_max, gMin := PySem.W.mg_none_of X G z_min, gAbs := PySem.W.mg_none_of X G z_abs, gSum := PySem.W.mg_none_of X G z_sum, gAny := PySem.W.mg_none_of X G z_any, gInt := PySem.W.mg_none_of X G z_int, gDict := PySem.W.mg_none_of X G z_dict, gList := PySem.W.mg_none_of X G z_list, gRange := PySem.W.mg_none_of X G z_range,
    gNoOne := ⟨_, PySem.W.mg_of X G c_NO_ONE_WAITS⟩, gNoPlan := ⟨_, PySem.W.mg_of X G c_NO_PLAN⟩, gClasses := ⟨_, PySem.W.mg_of X G c_CLASSES⟩, gMostShift := ⟨_, PySem.W.mg_of X G c_MOST_SHIFT⟩, gMostRoom := ⟨_, PySem.W.mg_of X G c_MOST_ROOM⟩, gLatest := ⟨_, PySem.W.mg_of X G c_LATEST⟩, gMostWaiting := ⟨_, PySem.W.mg_of X G c_MOST_WAITING⟩, gMostCame := ⟨_, PySem.W.mg_of X G c_MOST_THAT_CAME⟩, gNotLet := ⟨_, PySem.W.mg_of X G c_NOT_LET⟩, gNoSuch := ⟨_, PySem.W.mg_of X G c_NO_SUCH⟩, gNotNow := ⟨_, PySem.W.mg_of X G c_NOT_NOW⟩, gFull := ⟨_, PySem.W.mg_of X G c_FULL⟩, gBegins := ⟨_, PySem.W.mg_of X G c_BEGINS⟩, gRoom := ⟨_, PySem.W.mg_of X G c_ROOM⟩, gComes := ⟨_, PySem.W.mg_of X G c_COMES⟩, gGoes := ⟨_, PySem.W.mg_of X G c_GOES⟩, gLands := ⟨_, PySem.W.mg_of X G c_LANDS⟩, gPlan := ⟨_, PySem.W.mg_of X G c_PLAN⟩, gCame := ⟨_, PySem.W.mg_of X G c_CAME⟩, gMay := ⟨_, PySem.W.mg_of X G c_MAY⟩, gWhy := ⟨_, PySem.W.mg_of X G c_WHY⟩, gMany := ⟨_, PySem.W.mg_of X G c_MANY⟩, gFirst := ⟨_, PySem.W.mg_of X G c_SHIFT_AT_FIRST⟩,
    gBehind := PySem.W.mg_of X G aB, tB := tB }
  have M0 := fun_mk (st := sInit) ml0 mc0 mk0
  have bM0 := M0.binds (ps := ["self", "shift"]) fun _ _ _ _ _ _ us hl => match us, hl with | [_, _], _ => rfl
  have M1 := fun_mk (st := sSetRoom) ml1 mc1 mk1
  have bM1 := M1.binds (ps := ["self", "ahead", "behind", "much"]) fun _ _ _ _ _ _ us hl => match us, hl with | [_, _, _, _], _ => rfl
  have M2 := fun_mk (st := sAddPlane) ml2 mc2 mk2
  have bM2 := M2.binds (ps := ["self", "kind", "first", "last"]) fun _ _ _ _ _ _ us hl => match us, hl with | [_, _, _, _], _ => rfl
  have M3 := fun_mk (st := sWhyNot) ml3 mc3 mk3
  have bM3 := M3.binds (ps := ["self", "number"]) fun _ _ _ _ _ _ us hl => match us, hl with | [_, _], _ => rfl
  have M4 := fun_mk (st := sLeave) ml4 mc4 mk4
  have bM4 := M4.binds (ps := ["self", "number"]) fun _ _ _ _ _ _ us hl => match us, hl with | [_, _], _ => rfl
  have M5 := fun_mk (st := sLand) ml5 mc5 mk5
  have bM5 := M5.binds (ps := ["self", "number", "time"]) fun _ _ _ _ _ _ us hl => match us, hl with | [_, _, _], _ => rfl
  have M6 := fun_mk (st := sClear) ml6 mc6 mk6
  have bM6 := M6.binds (ps := ["self", "ahead", "time", "number"]) fun _ _ _ _ _ _ us hl => match us, hl with | [_, _, _, _], _ => rfl
  have M7 := fun_mk (st := sRank) ml7 mc7 mk7
  have bM7 := M7.binds (ps := ["self", "number"]) fun _ _ _ _ _ _ us hl => match us, hl with | [_, _], _ => rfl
  have F0 := fun_mk (st := sKnown) fl0 fc0 fk0
  have bF0 := F0.binds (ps := ["sky"]) fun _ _ _ _ _ _ us hl => match us, hl with | [_], _ => rfl
  have F1 := fun_mk (st := sSoonest) fl1 fc1 fk1
  have bF1 := F1.binds (ps := ["sky", "known", "queue", "number"]) fun _ _ _ _ _ _ us hl => match us, hl with | [_, _, _, _], _ => rfl
  have F2 := fun_mk (st := sNear) fl2 fc2 fk2
  have bF2 := F2.binds (ps := ["sky", "known", "shift", "queue", "number"]) fun _ _ _ _ _ _ us hl => match us, hl with | [_, _, _, _, _], _ => rfl
  have F3 := fun_mk (st := sNumbers) fl3 fc3 fk3
  have bF3 := F3.binds (ps := ["queue"]) fun _ _ _ _ _ _ us hl => match us, hl with | [_], _ => rfl
  have F4 := fun_mk (st := sMore) fl4 fc4 fk4
  have bF4 := F4.binds (ps := ["sky", "known", "shift", "queue"]) fun _ _ _ _ _ _ us hl => match us, hl with | [_, _, _, _], _ => rfl
  have F5 := fun_mk (st := sAllowed) fl5 fc5 fk5
  have bF5 := F5.binds (ps := ["sky", "shift"]) fun _ _ _ _ _ _ us hl => match us, hl with | [_, _], _ => rfl
  have F6 := fun_mk (st := sEnd) fl6 fc6 fk6
  have bF6 := F6.binds (ps := ["order"]) fun _ _ _ _ _ _ us hl => match us, hl with | [_], _ => rfl
  have F7 := fun_mk (st := sWaitingOf) fl7 fc7 fk7
  have bF7 := F7.binds (ps := ["sky", "order"]) fun _ _ _ _ _ _ us hl => match us, hl with | [_, _], _ => rfl
  have F8 := fun_mk (st := sPlanOf) fl8 fc8 fk8
  have bF8 := F8.binds (ps := ["sky", "shift"]) fun _ _ _ _ _ _ us hl => match us, hl with | [_, _], _ => rfl
  have F9 := fun_mk (st := sTime) fl9 fc9 fk9
  have bF9 := F9.binds (ps := ["order", "number"]) fun _ _ _ _ _ _ us hl => match us, hl with | [_, _], _ => rfl
  have F10 := fun_mk (st := sBehind) fl10 fc10 fk10
  have bF10 := F10.binds (ps := ["sky", "order", "number"]) fun _ _ _ _ _ _ us hl => match us, hl with | [_, _, _], _ => rfl
  have F11 := fun_mk (st := sListed) fl11 fc11 fk11
  have bF11 := F11.binds (ps := ["numbers"]) fun _ _ _ _ _ _ us hl => match us, hl with | [_], _ => rfl
  have F12 := fun_mk (st := sPairsListed) fl12 fc12 fk12
  have bF12 := F12.binds (ps := ["pairs"]) fun _ _ _ _ _ _ us hl => match us, hl with | [_], _ => rfl
  have F13 := fun_mk (st := sToldPlan) fl13 fc13 fk13
  have bF13 := F13.binds (ps := ["sky", "shift"]) fun _ _ _ _ _ _ us hl => match us, hl with | [_, _], _ => rfl
  have F14 := fun_mk (st := sToldLanding) fl14 fc14 fk14
  have bF14 := F14.binds (ps := ["sky"]) fun _ _ _ _ _ _ us hl => match us, hl with | [_], _ => rfl
  have F15 := fun_mk (st := sToldMay) fl15 fc15 fk15
  have bF15 := F15.binds (ps := ["sky", "number", "time"]) fun _ _ _ _ _ _ us hl => match us, hl with | [_, _, _], _ => rfl
  have F16 := fun_mk (st := sToldWhy) fl16 fc16 fk16
  have bF16 := F16.binds (ps := ["sky", "number"]) fun _ _ _ _ _ _ us hl => match us, hl with | [_, _], _ => rfl
  have F17 := fun_mk (st := sToldMany) fl17 fc17 fk17
  have bF17 := F17.binds (ps := ["sky"]) fun _ _ _ _ _ _ us hl => match us, hl with | [_], _ => rfl
  have F18 := fun_mk (st := sToldState) fl18 fc18 fk18
  have bF18 := F18.binds (ps := ["sky"]) fun _ _ _ _ _ _ us hl => match us, hl with | [_], _ => rfl
  have F19 := fun_mk (st := sGone) fl19 fc19 fk19
  have bF19 := F19.binds (ps := ["sky", "number"]) fun _ _ _ _ _ _ us hl => match us, hl with | [_, _], _ => rfl
  have F20 := fun_mk (st := sAsked) fl20 fc20 fk20
  have bF20 := F20.binds (ps := ["sky", "call", "given"]) fun _ _ _ _ _ _ us hl => match us, hl with | [_, _, _], _ => rfl
  have F21 := fun_mk (st := sCalled) fl21 fc21 fk21
  have bF21 := F21.binds (ps := ["sky", "call", "given"]) fun _ _ _ _ _ _ us hl => match us, hl with | [_, _, _], _ => rfl
  have F22 := fun_mk (st := sAnswers) fl22 fc22 fk22
  refine ⟨PySem.W.fnOf "answers" "answers" (defArgs sAnswers) (defBody sAnswers) (defScope sAnswers) .none kVf22 dcf22 pmf22 anf22 cdf22 ctf22, fun s us hu => match us, hu with | [_], _ => .of_eq rfl, fun base _ _ => ?_⟩
  have MI : Makes P w K mg base C := ⟨_, _, ⟨mkc, ma0, mi0, kc⟩, bM0, ok_init M0 T⟩
  have GRoom : Mt P w K mg base C 1 "set_room" ["self", "ahead", "behind", "much"] (spSetRoom C) := ⟨_, _, ⟨ma1, mi1, mk1⟩, bM1, ok_setRoom M1 T⟩
  have GAdd : Mt P w K mg base C 1 "add_plane" ["self", "kind", "first", "last"] (spAddPlane C) := ⟨_, _, ⟨ma2, mi2, mk2⟩, bM2, ok_addPlane M2 T⟩
  have GWhyNot : Mt P w K mg base C 1 "why_not" ["self", "number"] (spWhyNot C) := ⟨_, _, ⟨ma3, mi3, mk3⟩, bM3, ok_whyNot M3 T⟩
  have GLeave : Mt P w K mg base C 1 "leave" ["self", "number"] (spLeave C) := ⟨_, _, ⟨ma4, mi4, mk4⟩, bM4, ok_leave M4 T⟩
  have GLand : Mt P w K mg base C 1 "land" ["self", "number", "time"] (spLand C) := ⟨_, _, ⟨ma5, mi5, mk5⟩, bM5, ok_land M5 T⟩
  have GClear : Mt P w K mg base C 1 "clear_from" ["self", "ahead", "time", "number"] (spClear C) := ⟨_, _, ⟨ma6, mi6, mk6⟩, bM6, ok_clear M6 T⟩
  have GRank : Mt P w K mg base C 1 "rank_of" ["self", "number"] (spRank C) := ⟨_, _, ⟨ma7, mi7, mk7⟩, bM7, ok_rank M7 T⟩
  have G_places_known : Fn P w K mg base 2 "places_known" ["sky"] (spKnown C) := ⟨_, _, PySem.W.mg_of X G fa0, fk0, bF0, ok_known F0 T GClear GRank⟩
  have G_soonest : Fn P w K mg base 2 "soonest" ["sky", "known", "queue", "number"] (spSoonest C) := ⟨_, _, PySem.W.mg_of X G fa1, fk1, bF1, ok_soonest F1 T GClear⟩
  have G_is_near : Fn P w K mg base 1 "is_near" ["sky", "known", "shift", "queue", "number"] (spNear C) := ⟨_, _, PySem.W.mg_of X G fa2, fk2, bF2, ok_near F2 T⟩
  have G_numbers_of : Fn P w K mg base 1 "numbers_of" ["queue"] (spNumbers) := ⟨_, _, PySem.W.mg_of X G fa3, fk3, bF3, ok_numbers F3⟩
  have G_with_one_more : Fn P w K mg base 3 "with_one_more" ["sky", "known", "shift", "queue"] (spMore C) := ⟨_, _, PySem.W.mg_of X G fa4, fk4, bF4, ok_more F4 T G_numbers_of G_is_near G_soonest⟩
  have G_allowed : Fn P w K mg base 4 "allowed" ["sky", "shift"] (spAllowed C) := ⟨_, _, PySem.W.mg_of X G fa5, fk5, bF5, ok_allowed F5 T G_places_known G_with_one_more⟩
  have G_end_of : Fn P w K mg base 1 "end_of" ["order"] (spEnd) := ⟨_, _, PySem.W.mg_of X G fa6, fk6, bF6, ok_end F6⟩
  have G_waiting_of : Fn P w K mg base 1 "waiting_of" ["sky", "order"] (spWaitingOf C) := ⟨_, _, PySem.W.mg_of X G fa7, fk7, bF7, ok_waitingOf F7 T⟩
  have G_plan_of : Fn P w K mg base 5 "plan_of" ["sky", "shift"] (spPlanOf C) := ⟨_, _, PySem.W.mg_of X G fa8, fk8, bF8, ok_planOf F8 T G_allowed G_end_of G_waiting_of⟩
  have G_time_of : Fn P w K mg base 1 "time_of" ["order", "number"] (spTime) := ⟨_, _, PySem.W.mg_of X G fa9, fk9, bF9, ok_time F9 T⟩
  have G_first_behind : Fn P w K mg base 2 "first_behind" ["sky", "order", "number"] (spBehind C) := ⟨_, _, PySem.W.mg_of X G fa10, fk10, bF10, ok_behind F10 T G_time_of GClear⟩
  have G_listed : Fn P w K mg base 1 "listed" ["numbers"] (spListed) := ⟨_, _, PySem.W.mg_of X G fa11, fk11, bF11, ok_listed F11 T⟩
  have G_pairs_listed : Fn P w K mg base 2 "pairs_listed" ["pairs"] (spPairsListed) := ⟨_, _, PySem.W.mg_of X G fa12, fk12, bF12, ok_pairsListed F12 G_listed⟩
  have G_told_plan : Fn P w K mg base 6 "told_plan" ["sky", "shift"] (spToldPlan C) := ⟨_, _, PySem.W.mg_of X G fa13, fk13, bF13, ok_toldPlan F13 T G_plan_of G_end_of G_pairs_listed⟩
  have G_told_landing : Fn P w K mg base 6 "told_landing" ["sky"] (spToldLanding C) := ⟨_, _, PySem.W.mg_of X G fa14, fk14, bF14, ok_toldLanding F14 T G_plan_of GLand G_listed⟩
  have G_told_may : Fn P w K mg base 5 "told_may" ["sky", "number", "time"] (spToldMay C) := ⟨_, _, PySem.W.mg_of X G fa15, fk15, bF15, ok_toldMay F15 T GWhyNot G_allowed G_time_of⟩
  have G_told_why : Fn P w K mg base 6 "told_why" ["sky", "number"] (spToldWhy C) := ⟨_, _, PySem.W.mg_of X G fa16, fk16, bF16, ok_toldWhy F16 T GWhyNot G_plan_of G_time_of G_first_behind G_listed⟩
  have G_told_many : Fn P w K mg base 5 "told_many" ["sky"] (spToldMany C) := ⟨_, _, PySem.W.mg_of X G fa17, fk17, bF17, ok_toldMany F17 T G_allowed⟩
  have G_told_state : Fn P w K mg base 3 "told_state" ["sky"] (spToldState C) := ⟨_, _, PySem.W.mg_of X G fa18, fk18, bF18, ok_toldState F18 T G_listed G_pairs_listed⟩
  have G_gone : Fn P w K mg base 2 "gone" ["sky", "number"] (spGone C) := ⟨_, _, PySem.W.mg_of X G fa19, fk19, bF19, ok_gone F19 T GWhyNot GLeave⟩
  have G_asked : Fn P w K mg base 7 "asked" ["sky", "call", "given"] (spAsked C) := ⟨_, _, PySem.W.mg_of X G fa20, fk20, bF20, ok_asked F20 T G_told_landing G_told_plan G_told_may G_told_why G_told_many G_told_state⟩
  have G_called : Fn P w K mg base 8 "called" ["sky", "call", "given"] (spCalled C) := ⟨_, _, PySem.W.mg_of X G fa21, fk21, bF21, ok_called F21 T MI GRoom GAdd G_gone G_asked⟩
  exact ok_answers F22 T MI G_called
end Wa
open PySem PySem.W PyProof.Rows
set_option maxRecDepth 100000 in
set_option maxHeartbeats 0 in
theorem PySem.Challenge.cw_whirlingair_s01_answers_holds : PySem.Challenge.rw_whirlingair_s01_answers.Holds := by
  w_on; k_headS; (case hw => exact ⟨[.list [.int 10]], by decide +kernel, by decide +kernel⟩)
  k_fillS
  refine L2.walk_specK (r := PySem.Challenge.rw_whirlingair_s01_answers) (k := 9) (CX := L2.CX0) (ps := ["calls"]) (sp := Wa.spAnswers) (by decide +kernel) rfl rfl ⟨rfl, by decide, by decide⟩ (fun w h Y => PySem.W.kIn_of Y) ?F ?S (fun _ _ _ _ z => z)
  case F =>
    intro w mg fa h Y KX G hmg
    refine' Wa.all_mk KX G hmg ?aC ?ma0 ?mi0 ?ml0 ?mc0 ?mk0 ?ma1 ?mi1 ?ml1 ?mc1 ?mk1 ?ma2 ?mi2 ?ml2 ?mc2 ?mk2 ?ma3 ?mi3 ?ml3 ?mc3 ?mk3 ?ma4 ?mi4 ?ml4 ?mc4 ?mk4 ?ma5 ?mi5 ?ml5 ?mc5 ?mk5 ?ma6 ?mi6 ?ml6 ?mc6 ?mk6 ?ma7 ?mi7 ?ml7 ?mc7 ?mk7 ?fa0 ?fl0 ?fc0 ?fk0 ?fa1 ?fl1 ?fc1 ?fk1 ?fa2 ?fl2 ?fc2 ?fk2 ?fa3 ?fl3 ?fc3 ?fk3 ?fa4 ?fl4 ?fc4 ?fk4 ?fa5 ?fl5 ?fc5 ?fk5 ?fa6 ?fl6 ?fc6 ?fk6 ?fa7 ?fl7 ?fc7 ?fk7 ?fa8 ?fl8 ?fc8 ?fk8 ?fa9 ?fl9 ?fc9 ?fk9 ?fa10 ?fl10 ?fc10 ?fk10 ?fa11 ?fl11 ?fc11 ?fk11 ?fa12 ?fl12 ?fc12 ?fk12 ?fa13 ?fl13 ?fc13 ?fk13 ?fa14 ?fl14 ?fc14 ?fk14 ?fa15 ?fl15 ?fc15 ?fk15 ?fa16 ?fl16 ?fc16 ?fk16 ?fa17 ?fl17 ?fc17 ?fk17 ?fa18 ?fl18 ?fc18 ?fk18 ?fa19 ?fl19 ?fc19 ?fk19 ?fa20 ?fl20 ?fc20 ?fk20 ?fa21 ?fl21 ?fc21 ?fk21 ?fa22 ?fl22 ?fc22 ?fk22 ?pg ?hd ?po ?sa ?mkc ?kc ?n_shift ?n_rooms ?n_planes ?n_landed ?n_waiting ?z_len ?z_max ?z_min ?z_abs ?z_sum ?z_any ?z_int ?z_dict ?z_list ?z_range ?c_NO_ONE_WAITS ?c_NO_PLAN ?c_CLASSES ?c_MOST_SHIFT ?c_MOST_ROOM ?c_LATEST ?c_MOST_WAITING ?c_MOST_THAT_CAME ?c_NOT_LET ?c_NO_SUCH ?c_NOT_NOW ?c_FULL ?c_BEGINS ?c_ROOM ?c_COMES ?c_GOES ?c_LANDS ?c_PLAN ?c_CAME ?c_MAY ?c_WHY ?c_MANY ?c_SHIFT_AT_FIRST ?aB ?lB
    (case aC => k_is); (case ma0 => k_is); (case mi0 => k_is); (case ml0 => k_is); (case mc0 => k_is)
    (case mk0 => k_is); (case ma1 => k_is); (case mi1 => k_is); (case ml1 => k_is); (case mc1 => k_is)
    (case mk1 => k_is); (case ma2 => k_is); (case mi2 => k_is); (case ml2 => k_is); (case mc2 => k_is)
    (case mk2 => k_is); (case ma3 => k_is); (case mi3 => k_is); (case ml3 => k_is); (case mc3 => k_is)
    (case mk3 => k_is); (case ma4 => k_is); (case mi4 => k_is); (case ml4 => k_is); (case mc4 => k_is)
    (case mk4 => k_is); (case ma5 => k_is); (case mi5 => k_is); (case ml5 => k_is); (case mc5 => k_is)
    (case mk5 => k_is); (case ma6 => k_is); (case mi6 => k_is); (case ml6 => k_is); (case mc6 => k_is)
    (case mk6 => k_is); (case ma7 => k_is); (case mi7 => k_is); (case ml7 => k_is); (case mc7 => k_is)
    (case mk7 => k_is); (case fa0 => k_is); (case fl0 => k_is); (case fc0 => k_is); (case fk0 => k_is)
    (case fa1 => k_is); (case fl1 => k_is); (case fc1 => k_is); (case fk1 => k_is); (case fa2 => k_is)
    (case fl2 => k_is); (case fc2 => k_is); (case fk2 => k_is); (case fa3 => k_is); (case fl3 => k_is)
    (case fc3 => k_is); (case fk3 => k_is); (case fa4 => k_is); (case fl4 => k_is); (case fc4 => k_is)
    (case fk4 => k_is); (case fa5 => k_is); (case fl5 => k_is); (case fc5 => k_is); (case fk5 => k_is)
    (case fa6 => k_is); (case fl6 => k_is); (case fc6 => k_is); (case fk6 => k_is); (case fa7 => k_is)
    (case fl7 => k_is); (case fc7 => k_is); (case fk7 => k_is); (case fa8 => k_is); (case fl8 => k_is)
    (case fc8 => k_is); (case fk8 => k_is); (case fa9 => k_is); (case fl9 => k_is); (case fc9 => k_is)
    (case fk9 => k_is); (case fa10 => k_is); (case fl10 => k_is); (case fc10 => k_is); (case fk10 => k_is)
    (case fa11 => k_is); (case fl11 => k_is); (case fc11 => k_is); (case fk11 => k_is); (case fa12 => k_is)
    (case fl12 => k_is); (case fc12 => k_is); (case fk12 => k_is); (case fa13 => k_is); (case fl13 => k_is)
    (case fc13 => k_is); (case fk13 => k_is); (case fa14 => k_is); (case fl14 => k_is); (case fc14 => k_is)
    (case fk14 => k_is); (case fa15 => k_is); (case fl15 => k_is); (case fc15 => k_is); (case fk15 => k_is)
    (case fa16 => k_is); (case fl16 => k_is); (case fc16 => k_is); (case fk16 => k_is); (case fa17 => k_is)
    (case fl17 => k_is); (case fc17 => k_is); (case fk17 => k_is); (case fa18 => k_is); (case fl18 => k_is)
    (case fc18 => k_is); (case fk18 => k_is); (case fa19 => k_is); (case fl19 => k_is); (case fc19 => k_is)
    (case fk19 => k_is); (case fa20 => k_is); (case fl20 => k_is); (case fc20 => k_is); (case fk20 => k_is)
    (case fa21 => k_is); (case fl21 => k_is); (case fc21 => k_is); (case fk21 => k_is); (case fa22 => k_is)
    (case fl22 => k_is); (case fc22 => k_is); (case fk22 => k_is); (case pg => k_is); (case hd => k_is)
    (case po => k_is); (case sa => k_is); (case mkc => k_is); (case kc => k_is); (case n_shift => k_is)
    (case n_rooms => k_is); (case n_planes => k_is); (case n_landed => k_is); (case n_waiting => k_is); (case z_len => k_is)
    (case z_max => k_is); (case z_min => k_is); (case z_abs => k_is); (case z_sum => k_is); (case z_any => k_is)
    (case z_int => k_is); (case z_dict => k_is); (case z_list => k_is); (case z_range => k_is); (case c_NO_ONE_WAITS => k_is)
    (case c_NO_PLAN => k_is); (case c_CLASSES => k_is); (case c_MOST_SHIFT => k_is); (case c_MOST_ROOM => k_is); (case c_LATEST => k_is)
    (case c_MOST_WAITING => k_is); (case c_MOST_THAT_CAME => k_is); (case c_NOT_LET => k_is); (case c_NO_SUCH => k_is); (case c_NOT_NOW => k_is)
    (case c_FULL => k_is); (case c_BEGINS => k_is); (case c_ROOM => k_is); (case c_COMES => k_is); (case c_GOES => k_is)
    (case c_LANDS => k_is); (case c_PLAN => k_is); (case c_CAME => k_is); (case c_MAY => k_is); (case c_WHY => k_is)
    (case c_MANY => k_is); (case c_SHIFT_AT_FIRST => k_is); (case aB => k_is); (case lB => k_is)
  case S =>
    intro K H xs a hO hwi hask hx
    cases hx with
    | cons h1 h2 =>
      cases h2
      cases h1 with
      | lst hs ha =>
        have e := L2.ints_dw a.1 _ ha
        subst e
        have q : ((Codec.inLen 0 400 a.1 && a.1.all (Codec.inInt 0 4294967295)) && true) = true := hwi
        rw [Bool.and_eq_true, Bool.and_eq_true] at q
        have bd : ∀ z ∈ a.1, 0 ≤ z ∧ z ≤ 4294967295 := fun z hz => Codec.inInt_iff.mp (List.all_eq_true.mp q.1.2 z hz)
        obtain ⟨cs, c1, c2, c3, c4⟩ := Wa.law bd (show PySy52.answers_asked a.1 = true from hask)
        refine ⟨_, a.1, cs, rfl, hs, c1, c2, c3, (Codec.inNat_iff.mp q.1.1).2, fun H' p hp => ?_⟩
        rw [← c4] at hp
        exact .lst (L2.SqL.of hp) (L2.dw_ints _)
#print axioms PySem.Challenge.cw_whirlingair_s01_answers_holds
