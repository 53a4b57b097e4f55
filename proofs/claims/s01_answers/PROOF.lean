import PyProof.Rows.All
import Wide.All
import OpenK.AllK
import Wide.FinOn
import Open.SpecLaws
import KE.OsHead
import KE.OsGo
import HandS.ForSpec
import HandS.Comp
import HandS.Walk
import PySem.Challenge.RW_cambox_s01_answers
set_option Elab.async false
/-! The plain law: what the program's functions compute, in plain lists of natural numbers, is what the specification says. -/
namespace Cam
open Uw42 (Box Best)

theorem take_snoc {α : Type} {l : List α} {i : Nat} {x : α} (h : l[i]? = some x) : l.take (i + 1) = l.take i ++ [x] := by
  rw [List.take_add_one, h]
  rfl

/-! ### plans and their motions -/
abbrev PM := List Nat × List Nat
def part (cam : List Nat) (k : Nat) : List Nat := if k < cam.length then Uw42.turned k cam else List.replicate cam.length 0
def addAll (m : List Nat) (z : List (List Nat × Nat)) : List Nat := z.foldl (fun m x => Uw42.add m (part x.1 x.2)) m
def motionOf (cams : List (List Nat)) (places : Nat) (plan : List Nat) : List Nat := addAll (List.replicate places 0) (cams.zip plan)
def goneOne (b : PM) (cam : List Nat) : List PM := (List.range (cam.length + 1)).map fun k => (b.1 ++ [k], Uw42.add b.2 (part cam k))
def goneOn (begun : List PM) (cam : List Nat) : List PM := begun.flatMap fun b => goneOne b cam
def allPlans (cams : List (List Nat)) (places : Nat) : List PM := cams.foldl goneOn [([], List.replicate places 0)]
def camsOn (plan : List Nat) (places : Nat) : Nat := (plan.filter fun n => decide (n < places)).length

theorem part_length (cam : List Nat) (k : Nat) : (part cam k).length = cam.length := by
  unfold part
  split
  · unfold Uw42.turned
    rw [List.length_append, List.length_drop, List.length_take]
    omega
  · rw [List.length_replicate]
theorem add_length {a c : List Nat} {n : Nat} (ha : a.length = n) (hc : c.length = n) : (Uw42.add a c).length = n := by
  unfold Uw42.add
  rw [List.length_zipWith, ha, hc, Nat.min_self]
theorem goneOn_all (places : Nat) : ∀ (cams : List (List Nat)) (begun : List PM), (∀ c ∈ cams, c.length = places) →
    cams.foldl goneOn begun = begun.flatMap fun b => (Uw42.rows places cams.length).map fun l => (b.1 ++ l, addAll b.2 (cams.zip l))
  | [], begun, _ => by
    show begun = begun.flatMap fun b => [(b.1 ++ [], addAll b.2 [])]
    have e : (fun b : PM => [(b.1 ++ [], addAll b.2 [])]) = fun b => [b] := by
      funext b
      rw [List.append_nil]
      rfl
    rw [e, List.flatMap_singleton']
  | cam :: cs, begun, h => by
    have hc : cam.length = places := h cam List.mem_cons_self
    rw [List.foldl_cons, goneOn_all places cs (goneOn begun cam) fun c m => h c (List.mem_cons_of_mem _ m)]
    unfold goneOn
    rw [List.flatMap_assoc]
    congr 1
    funext b
    unfold goneOne
    show _ = ((List.range (places + 1)).flatMap fun a => (Uw42.rows places cs.length).map fun l => a :: l).map fun l => (b.1 ++ l, addAll b.2 ((cam :: cs).zip l))
    rw [hc, List.flatMap_map, List.map_flatMap]
    congr 1
    funext k
    rw [List.map_map]
    congr 1
    funext l
    show (b.1 ++ [k] ++ l, addAll (Uw42.add b.2 (part cam k)) (cs.zip l)) = (b.1 ++ k :: l, addAll b.2 ((cam, k) :: cs.zip l))
    rw [List.append_assoc]
    rfl
theorem allPlans_eq {cams : List (List Nat)} {places : Nat} (h : ∀ c ∈ cams, c.length = places) :
    allPlans cams places = (Uw42.rows places cams.length).map fun l => (l, motionOf cams places l) := by
  unfold allPlans
  rw [goneOn_all places cams _ h, List.flatMap_singleton]
  rfl
theorem rows_mem {k : Nat} : ∀ {n : Nat} {p : List Nat}, p ∈ Uw42.rows k n → p.length = n ∧ ∀ x ∈ p, x ≤ k
  | 0, p, h => by
    have e : p = [] := by simpa [Uw42.rows] using h
    subst e
    exact ⟨rfl, fun x m => nomatch m⟩
  | n + 1, p, h => by
    unfold Uw42.rows at h
    obtain ⟨a, ha, h⟩ := List.mem_flatMap.mp h
    obtain ⟨l, hl, rfl⟩ := List.mem_map.mp h
    obtain ⟨h1, h2⟩ := rows_mem hl
    have ha' : a < k + 1 := List.mem_range.mp ha
    refine ⟨by rw [List.length_cons, h1], fun x m => ?_⟩
    rcases List.mem_cons.mp m with e | m
    · omega
    · exact h2 x m
theorem rows_length (k : Nat) : ∀ n : Nat, (Uw42.rows k n).length = (k + 1) ^ n
  | 0 => rfl
  | n + 1 => by
    unfold Uw42.rows
    rw [List.length_flatMap]
    simp only [List.length_map, rows_length k n, List.map_const', List.length_range, List.sum_replicate_nat]
    rw [Nat.pow_succ, Nat.mul_comm]
theorem goneOne_length (b : PM) (cam : List Nat) : (goneOne b cam).length = cam.length + 1 := by
  unfold goneOne
  rw [List.length_map, List.length_range]
theorem goneOn_length (begun : List PM) (cam : List Nat) : (goneOn begun cam).length = begun.length * (cam.length + 1) := by
  unfold goneOn
  rw [List.length_flatMap]
  simp only [goneOne_length, List.map_const', List.sum_replicate_nat]
theorem foldl_goneOn_length {places : Nat} : ∀ (cams : List (List Nat)) (begun : List PM), (∀ c ∈ cams, c.length = places) → (cams.foldl goneOn begun).length = begun.length * (places + 1) ^ cams.length
  | [], begun, _ => by simp
  | cam :: cs, begun, h => by
    rw [List.foldl_cons, foldl_goneOn_length cs _ fun c m => h c (List.mem_cons_of_mem _ m), goneOn_length, h cam List.mem_cons_self, List.length_cons, Nat.pow_succ, Nat.mul_assoc, Nat.mul_comm (places + 1)]
theorem pow_bound {p n : Nat} (hp : p ≤ 8) (hn : n ≤ 4) : (p + 1) ^ n ≤ 6561 := by
  have h1 : (p + 1) ^ n ≤ (p + 1) ^ 4 := Nat.pow_le_pow_right (Nat.succ_pos p) hn
  have h2 : (p + 1) ^ 4 ≤ 9 ^ 4 := Nat.pow_le_pow_left (by omega) 4
  exact Nat.le_trans h1 h2
/-- every motion of all plans has as many heights as there are places -/
theorem foldl_goneOn_good {places : Nat} : ∀ (cams : List (List Nat)) (begun : List PM), (∀ c ∈ cams, c.length = places) → (∀ b ∈ begun, b.2.length = places) → ∀ b ∈ cams.foldl goneOn begun, b.2.length = places
  | [], begun, _, hb => hb
  | cam :: cs, begun, h, hb => by
    rw [List.foldl_cons]
    refine foldl_goneOn_good cs _ (fun c m => h c (List.mem_cons_of_mem _ m)) fun b m => ?_
    unfold goneOn at m
    obtain ⟨a, ha, m⟩ := List.mem_flatMap.mp m
    unfold goneOne at m
    obtain ⟨k, _, rfl⟩ := List.mem_map.mp m
    exact add_length (hb a ha) ((part_length cam k).trans (h cam List.mem_cons_self))
theorem allPlans_good {cams : List (List Nat)} {places : Nat} (h : ∀ c ∈ cams, c.length = places) : ∀ b ∈ allPlans cams places, b.2.length = places := by
  refine foldl_goneOn_good cams _ h fun b m => ?_
  rw [List.mem_singleton.mp m, List.length_replicate]

theorem add_zero {a : List Nat} {n : Nat} (h : a.length = n) : Uw42.add a (List.replicate n 0) = a := by
  subst h
  unfold Uw42.add
  refine List.ext_getElem ?_ fun i h1 h2 => ?_
  · rw [List.length_zipWith, List.length_replicate, Nat.min_self]
  · rw [List.getElem_zipWith, List.getElem_replicate, Nat.add_zero]
theorem sumF {places : Nat} : ∀ (z : List (List Nat × Nat)) (a : List Nat), (∀ x ∈ z, x.1.length = places ∧ x.2 ≤ places) → a.length = places →
    z.foldl (fun a x => if x.2 = places then a else Uw42.add a (Uw42.turned x.2 x.1)) a = addAll a z
  | [], _, _, _ => rfl
  | x :: r, a, h, ha => by
    obtain ⟨h1, h2⟩ := h x List.mem_cons_self
    have e : (if x.2 = places then a else Uw42.add a (Uw42.turned x.2 x.1)) = Uw42.add a (part x.1 x.2) := by
      unfold part
      by_cases c : x.2 = places
      · rw [if_pos c, if_neg (by omega), h1, add_zero ha]
      · rw [if_neg c, if_pos (by omega)]
    rw [List.foldl_cons, e, sumF r _ (fun y m => h y (List.mem_cons_of_mem _ m)) (add_length ha ((part_length _ _).trans h1))]
    rfl
/-- the box is as the calls leave it -/
structure Ok (b : Box) : Prop where
  lo : 2 ≤ b.places
  hi : b.places ≤ 8
  many : b.cams.length ≤ 4
  cam : ∀ c ∈ b.cams, c.length = b.places
  wish : b.wish.length = b.places
theorem sum_eq {b : Box} (o : Ok b) {p : List Nat} (hp : ∀ k ∈ p, k ≤ b.places) : b.sum p = motionOf b.cams b.places p := by
  unfold Uw42.Box.sum motionOf
  refine sumF _ _ (fun x m => ?_) (List.length_replicate ..)
  obtain ⟨m1, m2⟩ := List.of_mem_zip (show (x.1, x.2) ∈ b.cams.zip p from m)
  exact ⟨o.cam _ m1, hp _ m2⟩
theorem motion_length {cams : List (List Nat)} {places : Nat} (h : ∀ c ∈ cams, c.length = places) (p : List Nat) : (motionOf cams places p).length = places := by
  unfold motionOf
  have key : ∀ (z : List (List Nat × Nat)) (a : List Nat), (∀ x ∈ z, x.1.length = places) → a.length = places → (addAll a z).length = places := by
    intro z
    induction z with
    | nil => exact fun a _ ha => ha
    | cons x r ih => exact fun a hz ha => ih _ (fun y m => hz y (List.mem_cons_of_mem _ m)) (add_length ha ((part_length _ _).trans (hz x List.mem_cons_self)))
  refine key _ _ (fun x m => ?_) (List.length_replicate ..)
  exact h _ (List.of_mem_zip (show (x.1, x.2) ∈ cams.zip p from m)).1
theorem used_eq (b : Box) {p : List Nat} (hp : ∀ k ∈ p, k ≤ b.places) : Uw42.used b p = camsOn p b.places := by
  unfold Uw42.used camsOn
  congr 1
  refine List.filter_congr fun x m => ?_
  have h := hp x m
  by_cases c : x = b.places
  · subst c
    simp
  · have h2 : x < b.places := by omega
    simp [c, h2]

/-! ### the best plans -/
abbrev Rated := Nat × Nat × List Nat
def rate (f : List Nat → Nat) (cams : List (List Nat)) (places : Nat) : List Rated := (allPlans cams places).map fun p => (f p.2, camsOn p.1 places, p.1)
def bstep (m : Option Best) (y : Rated) : Option Best := match m with
  | none => some ⟨y.1, y.2.1, 1, y.2.2⟩
  | some x => if y.1 < x.first ∨ (y.1 = x.first ∧ y.2.1 < x.second) then some ⟨y.1, y.2.1, 1, y.2.2⟩ else if y.1 = x.first ∧ y.2.1 = x.second then some { x with many := x.many + 1 } else some x
theorem bestBy_eq {b : Box} (o : Ok b) (f : List Nat → Nat) : b.bestBy f = (rate f b.cams b.places).foldl bstep none := by
  unfold Uw42.Box.bestBy rate Uw42.Box.plans
  rw [allPlans_eq o.cam, List.map_map, List.foldl_map]
  have key : ∀ (ps : List (List Nat)) (m : Option Best), (∀ p ∈ ps, ∀ k ∈ p, k ≤ b.places) →
      ps.foldl (fun (m : Option Best) p => let n := f (b.sum p)
        let u := Uw42.used b p
        match m with
        | none => some ⟨n, u, 1, p⟩
        | some x => if n < x.first ∨ (n = x.first ∧ u < x.second) then some ⟨n, u, 1, p⟩ else if n = x.first ∧ u = x.second then some { x with many := x.many + 1 } else some x) m =
      ps.foldl (fun m p => bstep m (((fun p : PM => ((f p.2, camsOn p.1 b.places, p.1) : Rated)) ∘ fun l => (l, motionOf b.cams b.places l)) p)) m := by
    intro ps
    induction ps with
    | nil => exact fun _ _ => rfl
    | cons p r ih =>
      intro m h
      have h1 := sum_eq o (h p List.mem_cons_self)
      have h2 := used_eq b (h p List.mem_cons_self)
      rw [List.foldl_cons, List.foldl_cons, ih _ fun q hq => h q (List.mem_cons_of_mem _ hq)]
      congr 1
      show _ = bstep m (f (motionOf b.cams b.places p), camsOn p b.places, p)
      simp only [h1, h2]
      cases m <;> rfl
  exact key _ _ fun p hp => (rows_mem hp).2
/-- what the fold has behind a part of the list -/
structure Told (pre : List Rated) (x : Best) : Prop where
  at_ : ∃ p, (x.first, x.second, p) ∈ pre
  le : ∀ y ∈ pre, x.first < y.1 ∨ (x.first = y.1 ∧ x.second ≤ y.2.1)
  many : (pre.filter fun y => decide (y.1 = x.first) && decide (y.2.1 = x.second)).length = x.many
  plan : ((pre.filter fun y => decide (y.1 = x.first) && decide (y.2.1 = x.second)).map (·.2.2)).head? = some x.plan
theorem told_one (y : Rated) : Told [y] ⟨y.1, y.2.1, 1, y.2.2⟩ := by
  refine ⟨⟨y.2.2, List.mem_singleton.mpr rfl⟩, fun z m => ?_, ?_, ?_⟩
  · rw [List.mem_singleton.mp m]
    exact .inr ⟨rfl, Nat.le_refl _⟩
  · simp
  · simp
theorem told_step {pre : List Rated} {x : Best} (h : Told pre x) (y : Rated) : ∃ z, bstep (some x) y = some z ∧ Told (pre ++ [y]) z := by
  obtain ⟨⟨p, hp⟩, hle, hm, hpl⟩ := h
  unfold bstep
  by_cases c : y.1 < x.first ∨ (y.1 = x.first ∧ y.2.1 < x.second)
  · refine ⟨_, if_pos c, ⟨y.2.2, List.mem_append_right _ (List.mem_singleton.mpr rfl)⟩, fun z m => ?_, ?_, ?_⟩
    · rcases List.mem_append.mp m with m | m
      · have := hle z m
        show y.1 < z.1 ∨ (y.1 = z.1 ∧ y.2.1 ≤ z.2.1)
        omega
      · rw [List.mem_singleton.mp m]
        exact .inr ⟨rfl, Nat.le_refl _⟩
    all_goals
      have e : pre.filter (fun z => decide (z.1 = y.1) && decide (z.2.1 = y.2.1)) = [] := by
        rw [List.filter_eq_nil_iff]
        intro z m
        have := hle z m
        simp only [Bool.and_eq_true, decide_eq_true_eq]
        omega
      show _ = _
      rw [List.filter_append, e]
      simp
  · by_cases c2 : y.1 = x.first ∧ y.2.1 = x.second
    · refine ⟨{ x with many := x.many + 1 }, by dsimp only; rw [if_neg c, if_pos c2], ⟨p, List.mem_append_left _ hp⟩, fun z m => ?_, ?_, ?_⟩
      · rcases List.mem_append.mp m with m | m
        · exact hle z m
        · rw [List.mem_singleton.mp m]
          exact .inr ⟨c2.1.symm, Nat.le_of_eq c2.2.symm⟩
      · show (List.filter (fun y => decide (y.1 = x.first) && decide (y.2.1 = x.second)) (pre ++ [y])).length = x.many + 1
        rw [List.filter_append, List.length_append, hm]
        simp [c2.1, c2.2]
      · show (List.map (·.2.2) (List.filter (fun y => decide (y.1 = x.first) && decide (y.2.1 = x.second)) (pre ++ [y]))).head? = some x.plan
        rw [List.filter_append, List.map_append, List.head?_append, hpl]
        rfl
    · refine ⟨x, by dsimp only; rw [if_neg c, if_neg c2], ⟨p, List.mem_append_left _ hp⟩, fun z m => ?_, ?_, ?_⟩
      · rcases List.mem_append.mp m with m | m
        · exact hle z m
        · rw [List.mem_singleton.mp m]
          omega
      all_goals
        have e : List.filter (fun y => decide (y.1 = x.first) && decide (y.2.1 = x.second)) [y] = [] := by
          rw [List.filter_eq_nil_iff]
          intro z m
          rw [List.mem_singleton.mp m]
          simp only [Bool.and_eq_true, decide_eq_true_eq]
          exact c2
        rw [List.filter_append, e, List.append_nil]
        assumption
theorem told_fold : ∀ (r pre : List Rated) (x : Best), Told pre x → ∃ z, r.foldl bstep (some x) = some z ∧ Told (pre ++ r) z
  | [], pre, x, h => ⟨x, rfl, by rw [List.append_nil]; exact h⟩
  | y :: r, pre, x, h => by
    obtain ⟨z, e, hz⟩ := told_step h y
    obtain ⟨z', e', hz'⟩ := told_fold r _ z hz
    refine ⟨z', by rw [List.foldl_cons, e, e'], ?_⟩
    rw [List.append_assoc] at hz'
    exact hz'
theorem told_all {r : List Rated} (hr : r ≠ []) : ∃ z, r.foldl bstep none = some z ∧ Told r z := by
  cases r with
  | nil => exact absurd rfl hr
  | cons y r => exact told_fold r [y] _ (told_one y)
/-- the plans that are as good -/
def good (r : List Rated) (least fewest : Nat) : List (List Nat) := (r.filter fun y => decide (y.1 = least) && decide (y.2.1 = fewest)).map (·.2.2)
/-- **the program's way of choosing is the specification's** -/
theorem best_told {r : List Rated} {least fewest : Nat} (h1 : least ∈ r.map (·.1)) (h2 : ∀ y ∈ r.map (·.1), least ≤ y) (h3 : fewest ∈ (r.filter fun y => decide (y.1 = least)).map (·.2.1))
    (h4 : ∀ y ∈ (r.filter fun y => decide (y.1 = least)).map (·.2.1), fewest ≤ y) :
    ∃ plan, (good r least fewest)[0]? = some plan ∧ Uw42.toldBest (r.foldl bstep none) = ⟨(least : Nat), fewest :: (good r least fewest).length :: plan⟩ := by
  obtain ⟨z, e, ⟨p, hp⟩, hle, hm, hpl⟩ := told_all (r := r) (by rintro rfl; simp at h1)
  have e1 : z.first = least := by
    have a := h2 z.first (List.mem_map.mpr ⟨_, hp, rfl⟩)
    obtain ⟨y, hy, ey⟩ := List.mem_map.mp h1
    have b := hle y hy
    omega
  have e2 : z.second = fewest := by
    have a := h4 z.second (List.mem_map.mpr ⟨_, List.mem_filter.mpr ⟨hp, by simp [e1]⟩, rfl⟩)
    obtain ⟨y, hy, ey⟩ := List.mem_map.mp h3
    obtain ⟨hy, ey2⟩ := List.mem_filter.mp hy
    have ey2 : y.1 = least := by simpa using ey2
    have b := hle y hy
    omega
  rw [e1, e2] at hm hpl
  refine ⟨z.plan, ?_, ?_⟩
  · unfold good
    rw [← List.head?_eq_getElem?]
    exact hpl
  · rw [e]
    unfold good
    rw [List.length_map, hm]
    show (⟨(z.first : Nat), z.second :: z.many :: z.plan⟩ : Uw42.Ans) = _
    rw [e1, e2]
end Cam
set_option Elab.async false
/-! The plain law of the reading and of the answers' row. -/
namespace Cam
open Uw42 (Box)
/-- a call as the document has it: its place, its numbers -/
def wrd (c : List (List Int)) : List Int := (PyUw42.whole c).headD []
theorem call_some {p : Int} {r : List Int} {n k : Nat} (h : PyUw42.shape p = some (n, k)) :
    PyFlat.call PyUw42.shape (p :: r) = if r.length < n then none else match PyFlat.rows k (r.drop n) with
      | none => none
      | some (xs, t) => some ((p :: r.take n) :: xs, t) := by
  show (match PyUw42.shape p with
    | none => none
    | some (n, k) => if r.length < n then none else match PyFlat.rows k (r.drop n) with
      | none => none
      | some (xs, t) => some ((p :: r.take n) :: xs, t)) = _
  rw [h]
theorem call_cases {p : Int} {r : List Int} {c : List (List Int)} {t : List Int} (h : PyFlat.call PyUw42.shape (p :: r) = some (c, t)) :
    (p = 0 ∧ ∃ x, r = x :: t ∧ wrd c = [0, x]) ∨
    ((p = 1 ∨ p = 2 ∨ p = 3) ∧ ∃ (n : Nat) (s : List Int), r = (n : Int) :: s ∧ n ≤ s.length ∧ wrd c = p :: s.take n ∧ t = s.drop n) ∨
    ((p = 4 ∨ p = 5) ∧ wrd c = [p] ∧ t = r) := by
  have row : ∀ {q : Int}, (q = 1 ∨ q = 2 ∨ q = 3) → PyUw42.shape q = some (0, 1) → PyFlat.call PyUw42.shape (q :: r) = some (c, t) →
      ∃ (n : Nat) (s : List Int), r = (n : Int) :: s ∧ n ≤ s.length ∧ wrd c = q :: s.take n ∧ t = s.drop n := by
    intro q hq hs h
    rw [call_some hs] at h
    rw [if_neg (Nat.not_lt_zero _), List.drop_zero, List.take_zero] at h
    cases r with
    | nil => cases h
    | cons m s =>
      have e1 : PyFlat.rows 1 (m :: s) = match (if 0 ≤ m ∧ m.toNat ≤ s.length then some (s.take m.toNat, s.drop m.toNat) else none) with
        | none => none
        | some (x, s) => match PyFlat.rows 0 s with
          | none => none
          | some (xs, t) => some (x :: xs, t) := rfl
      rw [e1] at h
      by_cases c1 : 0 ≤ m ∧ m.toNat ≤ s.length
      · rw [if_pos c1] at h
        have h : some (([q] : List Int) :: [s.take m.toNat], s.drop m.toNat) = some (c, t) := h
        injection h with h
        injection h with e1 e2
        refine ⟨m.toNat, s, by rw [Int.toNat_of_nonneg c1.1], c1.2, ?_, e2.symm⟩
        rw [← e1]
        rcases hq with rfl | rfl | rfl <;> rfl
      · rw [if_neg c1] at h
        cases h
  have one : ∀ {q : Int}, (q = 4 ∨ q = 5) → PyUw42.shape q = some (0, 0) → PyFlat.call PyUw42.shape (q :: r) = some (c, t) → wrd c = [q] ∧ t = r := by
    intro q hq hs h
    rw [call_some hs] at h
    rw [if_neg (Nat.not_lt_zero _), List.drop_zero, List.take_zero] at h
    have h : some ([([q] : List Int)], r) = some (c, t) := h
    injection h with h
    injection h with e1 e2
    refine ⟨?_, e2.symm⟩
    rw [← e1]
    rcases hq with rfl | rfl <;> rfl
  by_cases c0 : p = 0
  · subst c0
    refine .inl ⟨rfl, ?_⟩
    rw [call_some (show PyUw42.shape 0 = some (1, 0) from rfl)] at h
    cases r with
    | nil =>
      rw [if_pos (show ([] : List Int).length < 1 from Nat.zero_lt_one)] at h
      cases h
    | cons x s =>
      rw [if_neg (show ¬ (x :: s).length < 1 by rw [List.length_cons]; omega)] at h
      have h : some ([([0, x] : List Int)], s) = some (c, t) := h
      injection h with h
      injection h with e1 e2
      refine ⟨x, by rw [e2], ?_⟩
      rw [← e1]
      rfl
  · by_cases c1 : p = 1
    · subst c1
      exact .inr (.inl ⟨.inl rfl, row (.inl rfl) rfl h⟩)
    · by_cases c2 : p = 2
      · subst c2
        exact .inr (.inl ⟨.inr (.inl rfl), row (.inr (.inl rfl)) rfl h⟩)
      · by_cases c3 : p = 3
        · subst c3
          exact .inr (.inl ⟨.inr (.inr rfl), row (.inr (.inr rfl)) rfl h⟩)
        · by_cases c4 : p = 4
          · subst c4
            exact .inr (.inr ⟨.inl rfl, one (.inl rfl) rfl h⟩)
          · by_cases c5 : p = 5
            · subst c5
              exact .inr (.inr ⟨.inr rfl, one (.inr rfl) rfl h⟩)
            · have e : PyUw42.shape p = none := by
                unfold PyUw42.shape
                rw [if_neg c0, if_neg c1, if_neg c2, if_neg c3, if_neg c4, if_neg c5]
              have e2 : PyFlat.call PyUw42.shape (p :: r) = none := by
                show (match PyUw42.shape p with
                  | none => none
                  | some (n, k) => if r.length < n then none else match PyFlat.rows k (r.drop n) with
                    | none => none
                    | some (xs, t) => some ((p :: r.take n) :: xs, t)) = none
                rw [e]
              rw [e2] at h
              cases h
theorem calls_cons {f : Nat} {p : Int} {r : List Int} {cs : List (List (List Int))} (h : PyFlat.calls PyUw42.shape f (p :: r) = some cs) :
    ∃ f' c t cs', PyFlat.call PyUw42.shape (p :: r) = some (c, t) ∧ PyFlat.calls PyUw42.shape f' t = some cs' ∧ cs = c :: cs' := by
  cases f with
  | zero => cases h
  | succ f =>
    unfold PyFlat.calls at h
    split at h
    · cases h
    · rename_i c t e
      split at h
      · cases h
      · rename_i cs' e'
        exact ⟨f, c, t, cs', e, e', (Option.some.inj h).symm⟩
theorem calls_nil {f : Nat} {cs : List (List (List Int))} (h : PyFlat.calls PyUw42.shape f [] = some cs) : cs = [] := by
  unfold PyFlat.calls at h
  exact (Option.some.inj h).symm

/-! ### the answers' row -/
def turn (s : Box × List Int) (wd : List Int) : Box × List Int := ((Uw42Neutral.step s.1 wd).1, s.2 ++ (((Uw42Neutral.step s.1 wd).2.length : Nat) : Int) :: (Uw42Neutral.step s.1 wd).2)
def run (ws : List (List Int)) : Box × List Int := ws.foldl turn (Uw42Neutral.start, [])
theorem run_next {ws : List (List Int)} {i : Nat} {wd : List Int} (h : ws[i]? = some wd) : run (ws.take (i + 1)) = turn (run (ws.take i)) wd := by
  unfold run
  rw [take_snoc h, List.foldl_append]
  rfl
theorem run_played : ∀ (raw : List (List (List Int))) (s : Box) (acc : List Int),
    ((raw.map wrd).foldl turn (s, acc)).2 = acc ++ PyFlat.told (PyFlat.played (fun s c => Uw42Neutral.step s (c.headD [])) s (raw.map PyUw42.whole))
  | [], s, acc => by
    show acc = acc ++ []
    rw [List.append_nil]
  | c :: r, s, acc => by
    rw [List.map_cons, List.foldl_cons, List.map_cons]
    have ih := run_played r (turn (s, acc) (wrd c)).1 (turn (s, acc) (wrd c)).2
    rw [show (turn (s, acc) (wrd c)) = ((turn (s, acc) (wrd c)).1, (turn (s, acc) (wrd c)).2) from rfl, ih]
    show (acc ++ (((Uw42Neutral.step s (wrd c)).2.length : Nat) : Int) :: (Uw42Neutral.step s (wrd c)).2) ++ _ = acc ++ ((((Uw42Neutral.step s (wrd c)).2.length : Nat) : Int) :: (Uw42Neutral.step s (wrd c)).2 ++ _)
    rw [List.append_assoc]
    rfl
theorem answers_run {ns : List Int} {raw : List (List (List Int))} (h : PyFlat.calls PyUw42.shape ns.length ns = some raw) : PyUw42.answers ns = (run (raw.map wrd)).2 := by
  unfold PyUw42.answers PyUw42.calls
  rw [h]
  unfold run
  rw [run_played, List.nil_append]
theorem asked_raw {ns : List Int} (h : PyUw42.answers_asked ns = true) : ∃ raw, PyFlat.calls PyUw42.shape ns.length ns = some raw ∧ Uw42Neutral.asked (raw.map wrd) = true := by
  unfold PyUw42.answers_asked at h
  split at h
  · cases h
  · rename_i raw e
    refine ⟨raw, e, ?_⟩
    rw [Bool.and_eq_true] at h
    have h2 := h.2
    rw [List.map_map] at h2
    exact h2
theorem asked_each {ws : List (List Int)} (h : Uw42Neutral.asked ws = true) : (∀ wd ∈ ws, (Uw42Neutral.callOf wd).isSome = true) ∧ Uw42Neutral.many Uw42Neutral.start ws ≤ 1000000 ∧ ws.length ≤ 60 := by
  unfold Uw42Neutral.asked at h
  simp only [Bool.and_eq_true, decide_eq_true_eq, List.all_eq_true] at h
  exact ⟨h.1, h.2.2.2, h.2.2.1⟩
/-- a call's numbers are none of them below 0 -/
theorem callOf_nat {p : Int} {nums : List Int} (h : (Uw42Neutral.callOf (p :: nums)).isSome = true) :
    ∃ (q : Nat) (ms : List Nat) (x : Uw42.Call), p = (q : Int) ∧ nums = ms.map (fun n : Nat => (n : Int)) ∧ Uw42Neutral.callIn (q :: ms) = some x ∧ Uw42Neutral.callOf (p :: nums) = some x := by
  cases e : Uw42Neutral.callOf (p :: nums) with
  | none =>
    rw [e] at h
    cases h
  | some x =>
    unfold Uw42Neutral.callOf at e
    by_cases c : (p :: nums).all Uw42Neutral.nat = false
    · rw [if_pos c] at e
      cases e
    · rw [if_neg c] at e
      have c : ∀ z ∈ p :: nums, 0 ≤ z := by
        have c' : (p :: nums).all Uw42Neutral.nat = true := by
          cases q : (p :: nums).all Uw42Neutral.nat with
          | false => exact absurd q c
          | true => rfl
        rw [List.all_eq_true] at c'
        intro z m
        have := c' z m
        unfold Uw42Neutral.nat at this
        rw [Bool.and_eq_true] at this
        exact of_decide_eq_true this.1
      refine ⟨p.toNat, nums.map Int.toNat, x, (Int.toNat_of_nonneg (c p List.mem_cons_self)).symm, ?_, e, rfl⟩
      rw [List.map_map]
      have : ∀ l : List Int, (∀ z ∈ l, 0 ≤ z) → l = l.map ((fun n : Nat => (n : Int)) ∘ Int.toNat) := by
        intro l
        induction l with
        | nil => exact fun _ => rfl
        | cons a r ih =>
          intro h
          rw [List.map_cons, ← ih fun z m => h z (List.mem_cons_of_mem _ m)]
          show a :: r = ((a.toNat : Nat) : Int) :: r
          rw [Int.toNat_of_nonneg (h a List.mem_cons_self)]
      exact this nums fun z m => c z (List.mem_cons_of_mem _ m)
theorem step_of {s : Box} {wd : List Int} {x : Uw42.Call} (h : Uw42Neutral.callOf wd = some x) : Uw42Neutral.step s wd = ((Uw42.step s x).1, Uw42Neutral.out (Uw42.step s x).2) := by
  unfold Uw42Neutral.step
  rw [h]
theorem ok_start : Ok Uw42Neutral.start := ⟨Nat.le_refl _, (by show 2 ≤ 8; decide), Nat.zero_le _, (fun c m => nomatch m), rfl⟩
theorem step_ok {b : Box} (o : Ok b) (x : Uw42.Call) : Ok (Uw42.step b x).1 := by
  cases x with
  | begins n =>
    show Ok (if n < 2 ∨ 8 < n then (b, Uw42.ok (-1)) else (⟨n, [], List.replicate n 0⟩, Uw42.ok 0)).1
    by_cases c : n < 2 ∨ 8 < n
    · rw [if_pos c]
      exact o
    · rw [if_neg c]
      exact ⟨(by show 2 ≤ n; omega), (by show n ≤ 8; omega), Nat.zero_le _, (fun c m => nomatch m), List.length_replicate ..⟩
  | cam l =>
    show Ok (if Uw42.fine b Uw42.HIGH l = false then (b, Uw42.ok (-1)) else if Uw42.CAMS ≤ b.cams.length then (b, Uw42.ok (-5)) else ({ b with cams := b.cams ++ [l] }, Uw42.ok (b.cams.length : Nat))).1
    by_cases c : Uw42.fine b Uw42.HIGH l = false
    · rw [if_pos c]
      exact o
    · rw [if_neg c]
      by_cases c2 : Uw42.CAMS ≤ b.cams.length
      · rw [if_pos c2]
        exact o
      · rw [if_neg c2]
        have c2 : ¬ 4 ≤ b.cams.length := c2
        have hl : l.length = b.places := by
          cases q : Uw42.fine b Uw42.HIGH l with
          | false => exact absurd q c
          | true =>
            unfold Uw42.fine at q
            rw [Bool.and_eq_true, beq_iff_eq] at q
            exact q.1
        refine ⟨o.lo, o.hi, ?_, fun c m => ?_, o.wish⟩
        · show (b.cams ++ [l]).length ≤ 4
          rw [List.length_append, List.length_singleton]
          omega
        · rcases List.mem_append.mp m with m | m
          · exact o.cam c m
          · rw [List.mem_singleton.mp m]
            exact hl
  | wish l =>
    show Ok (if Uw42.fine b (Uw42.CAMS * Uw42.HIGH) l = false then (b, Uw42.ok (-1)) else ({ b with wish := l }, Uw42.ok 0)).1
    by_cases c : Uw42.fine b (Uw42.CAMS * Uw42.HIGH) l = false
    · rw [if_pos c]
      exact o
    · rw [if_neg c]
      have hl : l.length = b.places := by
        cases q : Uw42.fine b (Uw42.CAMS * Uw42.HIGH) l with
        | false => exact absurd q c
        | true =>
          unfold Uw42.fine at q
          rw [Bool.and_eq_true, beq_iff_eq] at q
          exact q.1
      exact ⟨o.lo, o.hi, o.many, o.cam, hl⟩
  | sum p =>
    show Ok (if b.told p = false then (b, Uw42.ok (-1)) else (b, _)).1
    split <;> exact o
  | nearest => exact o
  | evenest => exact o
/-- what is still to come, and what stands already -/
theorem many_next {s : Box} {wd : List Int} {ws : List (List Int)} : Uw42Neutral.many s (wd :: ws) = (Uw42Neutral.step s wd).2.length + Uw42Neutral.many (Uw42Neutral.step s wd).1 ws := rfl
theorem drop_at {α : Type} {l : List α} {i : Nat} {x : α} (h : l[i]? = some x) : l.drop i = x :: l.drop (i + 1) := by
  obtain ⟨h1, h2⟩ := List.getElem?_eq_some_iff.mp h
  rw [List.drop_eq_getElem_cons h1, h2]
end Cam
set_option Elab.async false
set_option linter.all false
set_option maxRecDepth 100000
set_option maxHeartbeats 2000000
/-! Heaps: what stands apart from one list that is being filled; lists of things described item by item; the invariant of a comprehension or a loop that fills a list. -/
namespace Cam
open PySem PySem.Spec PyProof.Rows L2

/-! ### heaps without one address; what is new -/
def hid (H : Hp) (D : Addr) : Hp := fun b => if b = D then none else H b
theorem hid_at {H : Hp} {D : Addr} : hid H D D = none := if_pos rfl
theorem hid_ne {H : Hp} {D b : Addr} (h : b ≠ D) : hid H D b = H b := if_neg h
theorem hid_get {H : Hp} {D b : Addr} {o : HO} (h : hid H D b = some o) : H b = some o ∧ b ≠ D := by
  by_cases e : b = D
  · subst e
    rw [hid_at] at h
    cases h
  · rw [hid_ne e] at h
    exact ⟨h, e⟩
theorem hid_upd {H : Hp} {D : Addr} {o : HO} : hid (upd H D o) D = hid H D := by
  funext b
  by_cases e : b = D
  · subst e
    rw [hid_at, hid_at]
  · rw [hid_ne e, hid_ne e, upd_ne e]
theorem hid_free {H : Hp} {D : Addr} (h : H D = none) : hid H D = H := by
  funext b
  by_cases e : b = D
  · subst e
    rw [hid_at, h]
  · rw [hid_ne e]
theorem same_hid {H : Hp} {D : Addr} : Same (hid H D) H := fun _ _ h => (hid_get h).1
theorem hid_same {H H' : Hp} (s : Same H H') (D : Addr) : Same (hid H D) (hid H' D) := fun b o h => by
  obtain ⟨h1, h2⟩ := hid_get h
  rw [hid_ne h2]
  exact s b o h1
theorem same_upd {H : Hp} {p : Addr} {o : HO} (h : H p = none) : Same H (upd H p o) := fun b x e => by
  rw [upd_ne (ne_of_none e h)]
  exact e
theorem ne_free {H : Hp} {a b : Addr} {o : HO} (ha : H a = none) (hb : H b = some o) : a ≠ b := fun e => by
  rw [e, hb] at ha
  cases ha
/-- what stands in H' and did not stand in H -/
def fresh (H H' : Hp) : Hp := fun b => match H b with
  | none => H' b
  | some _ => none
theorem fresh_of {H H' : Hp} {b : Addr} (h : H b = none) : fresh H H' b = H' b := by
  unfold fresh
  rw [h]
theorem fresh_get {H H' : Hp} {b : Addr} {o : HO} (h : fresh H H' b = some o) : H b = none ∧ H' b = some o := by
  unfold fresh at h
  cases e : H b with
  | none =>
    rw [e] at h
    exact ⟨rfl, h⟩
  | some u =>
    rw [e] at h
    cases h
theorem same_fresh {H H' : Hp} : Same (fresh H H') H' := fun _ _ h => (fresh_get h).2
theorem fresh_same {H H1 H2 : Hp} (s : Same H1 H2) : Same (fresh H H1) (fresh H H2) := fun b o h => by
  obtain ⟨h1, h2⟩ := fresh_get h
  rw [fresh_of h1]
  exact s b o h2
/-- what is new does not lie at an address that was taken -/
theorem fresh_hid {H H' : Hp} {D : Addr} {o : HO} (h : H D = some o) : Same (fresh H H') (hid H' D) := fun b u e => by
  obtain ⟨h1, h2⟩ := fresh_get e
  rw [hid_ne (ne_free h1 h)]
  exact h2

/-! ### numbers in a list; lists described item by item -/
def iv (ns : List Nat) : List V := ns.map fun n : Nat => V.int (n : Int)
theorem iv_ints (ns : List Nat) : iv ns = (ns.map fun n : Nat => (n : Int)).map V.int := by
  unfold iv
  rw [List.map_map]
  rfl
theorem iv_get {ns : List Nat} {i : Nat} {x : V} (h : (iv ns)[i]? = some x) : ∃ n : Nat, ns[i]? = some n ∧ x = V.int (n : Int) := by
  unfold iv at h
  rw [List.getElem?_map] at h
  cases e : ns[i]? with
  | none =>
    rw [e] at h
    cases h
  | some n =>
    rw [e] at h
    exact ⟨n, rfl, (Option.some.inj h).symm⟩
theorem iv_at {ns : List Nat} {i n : Nat} (h : ns[i]? = some n) : (iv ns)[i]? = some (V.int (n : Int)) := by
  unfold iv
  rw [List.getElem?_map, h]
  rfl
theorem iv_len (ns : List Nat) : (iv ns).length = ns.length := List.length_map ..
theorem iv_append (a b : List Nat) : iv (a ++ b) = iv a ++ iv b := List.map_append ..
theorem iv_nil : iv [] = [] := rfl
theorem iv_next {ns : List Nat} {i n : Nat} (h : ns[i]? = some n) : iv (ns.take (i + 1)) = iv (ns.take i) ++ [V.int (n : Int)] := by
  rw [take_snoc h, iv_append]
  rfl

structure Each {α : Type} (F : V → α → Prop) (xs : List V) (ds : List α) : Prop where
  len : xs.length = ds.length
  at_ : ∀ (i : Nat) (x : V) (d : α), xs[i]? = some x → ds[i]? = some d → F x d
theorem Each.nil {α : Type} {F : V → α → Prop} : Each F [] ([] : List α) := ⟨rfl, fun i x d h => by simp at h⟩
theorem Each.get {α : Type} {F : V → α → Prop} {xs : List V} {ds : List α} (E : Each F xs ds) {i : Nat} {x : V} (h : xs[i]? = some x) : ∃ d, ds[i]? = some d ∧ F x d := by
  have hi : i < ds.length := by
    rw [← E.len]
    exact (List.getElem?_eq_some_iff.mp h).1
  exact ⟨ds[i], List.getElem?_eq_getElem hi, E.at_ i x _ h (List.getElem?_eq_getElem hi)⟩
theorem Each.mono {α : Type} {F G : V → α → Prop} {xs : List V} {ds : List α} (E : Each F xs ds) (h : ∀ x d, F x d → G x d) : Each G xs ds := ⟨E.len, fun i x d hx hd => h x d (E.at_ i x d hx hd)⟩
theorem Each.snoc {α : Type} {F : V → α → Prop} {xs : List V} {ds : List α} {x : V} {d : α} (E : Each F xs ds) (h : F x d) : Each F (xs ++ [x]) (ds ++ [d]) := by
  refine ⟨by rw [List.length_append, List.length_append, E.len]; rfl, fun i y e hy he => ?_⟩
  by_cases hi : i < xs.length
  · rw [List.getElem?_append_left hi] at hy
    rw [List.getElem?_append_left (by rw [← E.len]; exact hi)] at he
    exact E.at_ i y e hy he
  · have h1 : xs.length ≤ i := Nat.le_of_not_lt hi
    rw [List.getElem?_append_right h1] at hy
    rw [List.getElem?_append_right (by rw [← E.len]; exact h1), ← E.len] at he
    cases hj : i - xs.length with
    | zero =>
      rw [hj] at hy he
      have e1 : x = y := Option.some.inj hy
      have e2 : d = e := Option.some.inj he
      subst e1 e2
      exact h
    | succ j =>
      rw [hj] at hy
      simp at hy
theorem Each.iv (ns : List Nat) : Each (fun x (n : Nat) => x = V.int (n : Int)) (iv ns) ns := by
  refine ⟨iv_len ns, fun i x d hx hd => ?_⟩
  obtain ⟨n, hn, rfl⟩ := iv_get hx
  rw [hn] at hd
  cases hd
  rfl
theorem Each.to_iv {xs : List V} {ns : List Nat} (E : Each (fun x (n : Nat) => x = V.int (n : Int)) xs ns) : xs = Cam.iv ns := by
  refine List.ext_getElem? fun i => ?_
  cases e : xs[i]? with
  | none =>
    have h : ns.length ≤ i := by
      rw [← E.len]
      exact List.getElem?_eq_none_iff.mp e
    rw [List.getElem?_eq_none (by rw [iv_len]; exact h)]
  | some x =>
    obtain ⟨n, hn, rfl⟩ := E.get e
    rw [iv_at hn]

/-! ### a list that is being filled -/
/-- behind i turns: all of H1 stands, D holds a list of which R speaks, in the heap without D -/
structure Acc (H1 : Hp) (D : Addr) (R : Nat → Hp → List V → Prop) (i : Nat) (H : Hp) : Prop where
  same : Same H1 (hid H D)
  acc : ∃ acc, H D = some (.lst acc) ∧ acc.length ≤ i ∧ R i (hid H D) acc
section
variable {H1 H H' : Hp} {D : Addr} {R : Nat → Hp → List V → Prop} {i : Nat}
theorem Acc.start (hD : H1 D = none) (h : R 0 H1 []) : Acc H1 D R 0 (upd H1 D (.lst [])) := by
  have e : hid (upd H1 D (.lst [])) D = H1 := by rw [hid_upd, hid_free hD]
  exact ⟨by rw [e]; exact Same.refl _, [], upd_same, Nat.le_refl _, by rw [e]; exact h⟩
theorem Acc.all (A : Acc H1 D R i H) : Same H1 H := A.same.trans same_hid
theorem Acc.next {y : V} (A : Acc H1 D R i H) (s : Same H H') (hi : i < sizeLine) (h : ∀ acc, R i (hid H D) acc → R (i + 1) (hid H' D) (acc ++ [y])) :
    ∃ acc, H' D = some (.lst acc) ∧ acc.length < sizeLine ∧ Acc H1 D R (i + 1) (upd H' D (.lst (acc ++ [y]))) := by
  obtain ⟨s1, acc, hD, hl, r⟩ := A
  refine ⟨acc, s _ _ hD, Nat.lt_of_le_of_lt hl hi, ?_, _, upd_same, ?_, ?_⟩
  · rw [hid_upd]
    exact s1.trans (hid_same s D)
  · rw [List.length_append]
    exact Nat.succ_le_succ hl
  · rw [hid_upd]
    exact h acc r
theorem Acc.skip (A : Acc H1 D R i H) (s : Same H H') (h : ∀ acc, R i (hid H D) acc → R (i + 1) (hid H' D) acc) : Acc H1 D R (i + 1) H' := by
  obtain ⟨s1, acc, hD, hl, r⟩ := A
  exact ⟨s1.trans (hid_same s D), acc, s _ _ hD, Nat.le_succ_of_le hl, h acc r⟩
end
theorem size_small {n : Nat} (h : n ≤ 1000000) : n < sizeLine := Nat.lt_of_le_of_lt h (by decide)
end Cam
set_option Elab.async false
set_option linter.all false
set_option maxRecDepth 100000
set_option maxHeartbeats 2000000
/-! The defs that make lists of numbers: off, motion. -/
namespace Cam
open PySem PySem.Spec PyProof.Rows L2

def top (i : Nat) : Stmt := PySem.Challenge.pw_cambox_s01_answers.main.body.getD i (.Pass ⟨0, 0, 0, 0⟩)
abbrev sOffBy : Stmt := top 1
abbrev sOffAll : Stmt := top 2
abbrev sOffWorst : Stmt := top 3
abbrev sTurned : Stmt := top 5
abbrev sTogether : Stmt := top 6
abbrev sStill : Stmt := top 7
abbrev sPartOf : Stmt := top 8
abbrev sMotion : Stmt := top 9

/-- the built-in names that the program's top leaves alone -/
structure Nm (mg : Str → Option Value) : Prop where
  zip : mg "zip" = none
  abs : mg "abs" = none
  sum : mg "sum" = none
  max : mg "max" = none
  min : mg "min" = none
  len : mg "len" = none
  range : mg "range" = none
  enum : mg "enumerate" = none
  all : mg "all" = none
  list : mg "list" = none

/-! ### readings by name: a comprehension's element is given its reading -/
def rAddI : R2 := rI0 fun i j => .int (i + j)
def rMod : R2 := rI (fun _ j => 0 < j) fun i j => .int (i % j)
def rLenS (K : PySem.W.Frag) : List V → Hp → VK → Prop := fun xs H Q => ∃ p ys, xs = [.ref p] ∧ (SqL K H p ys ∨ SqT K H p ys) ∧ Q (.int ys.length) H

/-! ### the mathematics of single items -/
theorem abs_apart (h w : Nat) : (if (h : Int) - (w : Int) < 0 then -((h : Int) - (w : Int)) else (h : Int) - (w : Int)) = ((Uw42.apart w h : Nat) : Int) := by
  unfold Uw42.apart
  split <;> omega
theorem zipWith_at {f : Nat → Nat → Nat} {a b : List Nat} {i x y : Nat} (h1 : a[i]? = some x) (h2 : b[i]? = some y) : (List.zipWith f a b)[i]? = some (f x y) := by
  rw [List.getElem?_zipWith, h1, h2]
theorem total_sum (l : List Nat) : ((Uw42.total l : Nat) : Int) = (l.map fun n : Nat => (n : Int)).sum := by
  have key : ∀ (l : List Nat) (a : Nat), ((l.foldl (fun a c => a + c) a : Nat) : Int) = (a : Int) + (l.map fun n : Nat => (n : Int)).sum := by
    intro l
    induction l with
    | nil => exact fun a => (Int.add_zero _).symm
    | cons x r ih =>
      intro a
      rw [List.foldl_cons, ih, List.map_cons, List.sum_cons]
      omega
  unfold Uw42.total
  rw [key, show ((0 : Nat) : Int) = 0 from rfl, Int.zero_add]
theorem max_fold {l : List Nat} {m : Int} (h1 : m ∈ l.map fun n : Nat => (n : Int)) (h2 : ∀ y ∈ l.map fun n : Nat => (n : Int), y ≤ m) : m = ((l.foldl max 0 : Nat) : Int) := by
  have key : ∀ (l : List Nat) (a : Nat), (∀ x ∈ l, x ≤ l.foldl max a) ∧ a ≤ l.foldl max a ∧ (l.foldl max a = a ∨ l.foldl max a ∈ l) := by
    intro l
    induction l with
    | nil => exact fun a => ⟨fun x m => (nomatch m), Nat.le_refl _, .inl rfl⟩
    | cons x r ih =>
      intro a
      obtain ⟨i1, i2, i3⟩ := ih (max a x)
      rw [List.foldl_cons]
      refine ⟨fun y m => ?_, by omega, ?_⟩
      · rcases List.mem_cons.mp m with e | m
        · subst e
          omega
        · exact i1 y m
      · rcases i3 with e | e
        · by_cases c : a ≤ x
          · refine .inr (List.mem_cons.mpr (.inl ?_))
            rw [e]
            omega
          · refine .inl ?_
            rw [e]
            omega
        · exact .inr (List.mem_cons_of_mem _ e)
  obtain ⟨n, hn, rfl⟩ := List.mem_map.mp h1
  obtain ⟨k1, k2, k3⟩ := key l 0
  have a1 := k1 n hn
  rcases k3 with e | e
  · have : n = 0 := by omega
    subst this
    rw [e]
  · have b := h2 _ (List.mem_map.mpr ⟨_, e, rfl⟩)
    have b' : ((l.foldl max 0 : Nat) : Int) ≤ (n : Int) := b
    omega

section
variable {P : Program} {w : World} {K : PySem.W.Frag} {mg : Str → Option Value} {base : Heap}
/-! ### off_by_place -/
def spOffBy : Sp := fun vs H Q _ => ∃ (a b : Addr) (m w : List Nat), vs = [.ref a, .ref b] ∧ H a = some (.lst (iv m)) ∧ H b = some (.lst (iv w)) ∧ m.length = w.length ∧ m.length ≤ 1000 ∧
  ∀ (H' : Hp) (p : Addr), Same H H' → H p = none → H' p = some (.lst (iv (List.zipWith Uw42.apart w m))) → Q (.ref p) H'
theorem scOffBy : FnScope ["motion", "wished", "height", "wish"] ["motion", "wished"] (defScope sOffBy) := ⟨rfl, rfl, rfl, by decide +kernel, rfl, by decide +kernel, by decide +kernel⟩
theorem ok_offby {f : Addr} {fd : FuncData} (F : Fun K "off_by_place" "off_by_place" sOffBy f fd) (N : Nm mg) : FnOk P w K mg base CX0 1 f fd ["motion", "wished"] spOffBy := by
  refine F.ok scOffBy (fun vs H Q E h => ?_) (fun cdv A outer s H vs Q E hr h => ?_)
  · obtain ⟨a, b, m, w, rfl, _⟩ := h
    rfl
  · obtain ⟨a, b, m, w, rfl, ha, hb, hl, hsz, k⟩ := h
    refine ⟨_, pss_one (ps_ret (pe_lc (own := [("height", 2), ("wish", 3)]) (g := gTup K 2 (gCons (gName 2) (gCons (gName 3) gNil))) rfl scOffBy.nd (pi_zip (by rfl) N.zip (pa_cons (pv 0) (pa_cons (pv 1) pa_nil)))
      (blkOk_by (own := [("height", 2), ("wish", 3)]) (N := ["motion", "wished", "height", "wish"]) (sc := defScope sOffBy) (by decide +kernel))
      (fun _ _ _ _ _ => pg_tup rfl (pgs_cons (pg_name (i := 2) scOffBy.nd rfl (Or.inl rfl)) (pgs_cons (pg_name (i := 3) scOffBy.nd rfl (Or.inl rfl)) pgs_nil)))
      (fun _ _ _ _ _ => pts_nil)
      (fun _ _ _ _ _ => pe_callB call_abs (by rfl) N.abs boot_abs (pa_cons (pe_op op_sub (pv 2) (pv 3)) pa_nil)))), ?_⟩
    have hz : ∀ i, i < m.length → i < sizeLine := fun i h => size_small (by omega)
    refine ⟨_, rfl, _, rfl, a, b, _, _, rfl, SqL.of ha, SqL.of hb, fun D hD => lc_it (walk_zip (n := m.length) (by rw [iv_len, iv_len]; omega))
      (Acc H D fun i _ acc => acc = iv ((List.zipWith Uw42.apart w m).take i)) (Acc.start hD rfl) (fun i H' _ A => ⟨SqL.of (A.all _ _ ha), SqL.of (A.all _ _ hb)⟩) (fun i x H1 H2 hi A y => ?_) (fun H1 A => ?_)⟩
    · obtain ⟨T, x1, x2, rfl, hT, rfl, g1, g2⟩ := y
      obtain ⟨n1, e1, rfl⟩ := iv_get g1
      obtain ⟨n2, e2, rfl⟩ := iv_get g2
      refine ⟨T, _, rfl, SqT.of upd_same, rfl, _, _, rfl, _, _, rfl, rfl, rfl, ?_⟩
      refine ⟨_, rfl, _, rfl, _, _, rfl, rfl, _, rfl, A.next (same_upd hT) (hz i hi) fun acc e => ?_⟩
      rw [abs_apart, e, iv_next (zipWith_at e2 e1)]
    · obtain ⟨s1, acc, hA, _, e⟩ := A
      rw [List.take_of_length_le (by rw [List.length_zipWith]; omega)] at e
      subst e
      exact k H1 D (s1.trans same_hid) hD hA

/-! ### off_in_all, off_at_worst -/
def spOffAll : Sp := fun vs H Q _ => ∃ (a b : Addr) (m w : List Nat), vs = [.ref a, .ref b] ∧ H a = some (.lst (iv m)) ∧ H b = some (.lst (iv w)) ∧ m.length = w.length ∧ m.length ≤ 1000 ∧
  ∀ H' : Hp, Same H H' → Q (.int (Uw42.off w m : Nat)) H'
theorem scOffAll : FnScope ["motion", "wished"] ["motion", "wished"] (defScope sOffAll) := ⟨rfl, rfl, rfl, by decide +kernel, rfl, by decide +kernel, by decide +kernel⟩
theorem ok_offall {f f1 : Addr} {fd fd1 : FuncData} (F : Fun K "off_in_all" "off_in_all" sOffAll f fd) (N : Nm mg) (F1 : Fun K "off_by_place" "off_by_place" sOffBy f1 fd1) (m1 : mg "off_by_place" = some (.ref f1)) (b1 : Binds K fd1 ["motion", "wished"] []) :
    FnOk P w K mg base CX0 2 f fd ["motion", "wished"] spOffAll := by
  have G1 : FnOk P w K mg base CX0 1 f1 fd1 ["motion", "wished"] spOffBy := ok_offby F1 N
  refine F.ok scOffAll (fun vs H Q E h => ?_) (fun cdv A outer s H vs Q E hr h => ?_)
  · obtain ⟨a, b, m, w, rfl, _⟩ := h
    rfl
  · obtain ⟨a, b, m, w, rfl, ha, hb, hl, hsz, k⟩ := h
    refine ⟨_, pss_one (ps_ret (pe_callB (cr_sum rfl) (by rfl) N.sum boot_sum (pa_cons (pe_call G1 hr (by rfl) m1 F1.kp b1 .nil pass0 (pa_cons (pv 0) (pa_cons (pv 1) pa_nil))) pa_nil))), ?_⟩
    refine ⟨_, rfl, _, rfl, a, b, m, w, rfl, ha, hb, hl, hsz, fun H' p sm hp hl' => ?_⟩
    refine ⟨p, _, rfl, SqL.of (by rw [← iv_ints]; exact hl'), ?_⟩
    rw [← total_sum]
    exact k H' sm
def spOffWorst : Sp := fun vs H Q _ => ∃ (a b : Addr) (m w : List Nat), vs = [.ref a, .ref b] ∧ H a = some (.lst (iv m)) ∧ H b = some (.lst (iv w)) ∧ m.length = w.length ∧ m.length ≤ 1000 ∧ 0 < m.length ∧
  ∀ H' : Hp, Same H H' → Q (.int (Uw42.worst w m : Nat)) H'
theorem scOffWorst : FnScope ["motion", "wished"] ["motion", "wished"] (defScope sOffWorst) := ⟨rfl, rfl, rfl, by decide +kernel, rfl, by decide +kernel, by decide +kernel⟩
theorem ok_offworst {f f1 : Addr} {fd fd1 : FuncData} (F : Fun K "off_at_worst" "off_at_worst" sOffWorst f fd) (N : Nm mg) (F1 : Fun K "off_by_place" "off_by_place" sOffBy f1 fd1) (m1 : mg "off_by_place" = some (.ref f1)) (b1 : Binds K fd1 ["motion", "wished"] []) :
    FnOk P w K mg base CX0 2 f fd ["motion", "wished"] spOffWorst := by
  have G1 : FnOk P w K mg base CX0 1 f1 fd1 ["motion", "wished"] spOffBy := ok_offby F1 N
  refine F.ok scOffWorst (fun vs H Q E h => ?_) (fun cdv A outer s H vs Q E hr h => ?_)
  · obtain ⟨a, b, m, w, rfl, _⟩ := h
    rfl
  · obtain ⟨a, b, m, w, rfl, ha, hb, hl, hsz, h0, k⟩ := h
    refine ⟨_, pss_one (ps_ret (pe_callB (cr_max rfl) (by rfl) N.max boot_max (pa_cons (pe_call G1 hr (by rfl) m1 F1.kp b1 .nil pass0 (pa_cons (pv 0) (pa_cons (pv 1) pa_nil))) pa_nil))), ?_⟩
    refine ⟨_, rfl, _, rfl, a, b, m, w, rfl, ha, hb, hl, hsz, fun H' p sm hp hl' => ?_⟩
    refine ⟨p, _, rfl, SqL.of (by rw [← iv_ints]; exact hl'), by rw [List.length_map, List.length_zipWith]; omega, fun x hx hle => ?_⟩
    rw [max_fold hx hle]
    exact k H' sm

/-! ### turned -/
theorem turned_at {cam : List Nat} {k i : Nat} (hk : k < cam.length) (hi : i < cam.length) : ∃ n, cam[(i + k) % cam.length]? = some n ∧ (Uw42.turned k cam)[i]? = some n := by
  have hm : (i + k) % cam.length < cam.length := Nat.mod_lt _ (by omega)
  refine ⟨cam[(i + k) % cam.length], List.getElem?_eq_getElem hm, ?_⟩
  unfold Uw42.turned
  by_cases c : i < cam.length - k
  · rw [List.getElem?_append_left (by rw [List.length_drop]; exact c), List.getElem?_drop]
    have e : (i + k) % cam.length = k + i := by rw [Nat.mod_eq_of_lt (by omega), Nat.add_comm]
    simp only [e]
    exact List.getElem?_eq_getElem (by omega)
  · rw [List.getElem?_append_right (by rw [List.length_drop]; omega), List.length_drop]
    have e : (i + k) % cam.length = i - (cam.length - k) := by
      rw [Nat.mod_eq_sub_mod (by omega), Nat.mod_eq_of_lt (by omega)]
      omega
    simp only [e]
    rw [List.getElem?_take, if_pos (by omega)]
    exact List.getElem?_eq_getElem (by omega)
def spTurned : Sp := fun vs H Q _ => ∃ (a : Addr) (cam : List Nat) (k : Nat), vs = [.ref a, .int (k : Int)] ∧ H a = some (.lst (iv cam)) ∧ k < cam.length ∧ cam.length ≤ 1000 ∧
  ∀ (H' : Hp) (p : Addr), Same H H' → H p = none → H' p = some (.lst (iv (Uw42.turned k cam))) → Q (.ref p) H'
theorem scTurned : FnScope ["cam", "k", "place"] ["cam", "k"] (defScope sTurned) := ⟨rfl, rfl, rfl, by decide +kernel, rfl, by decide +kernel, by decide +kernel⟩
theorem ok_turned {f : Addr} {fd : FuncData} (F : Fun K "turned" "turned" sTurned f fd) (N : Nm mg) : FnOk P w K mg base CX0 1 f fd ["cam", "k"] spTurned := by
  refine F.ok scTurned (fun vs H Q E h => ?_) (fun cdv A outer s H vs Q E hr h => ?_)
  · obtain ⟨a, cam, k, rfl, _⟩ := h
    rfl
  · obtain ⟨a, cam, k, rfl, ha, hk, hsz, q⟩ := h
    refine ⟨_, pss_one (ps_ret (pe_lc (own := [("place", 2)]) (g := gName 2) (te := tOp (rIxL K) (tVar 0) (tOp rMod (tOp rAddI (tVar 2) (tVar 1)) (tCB (rLenS K) (tCons (tVar 0) tNil)))) rfl scTurned.nd (pi_range1 (by rfl) N.range (pa_cons (pe_callB call_len_seq (by rfl) N.len PySem.boot_len (pa_cons (pv 0) pa_nil)) pa_nil))
      (blkOk_by (own := [("place", 2)]) (N := ["cam", "k", "place"]) (sc := defScope sTurned) (by decide +kernel))
      (fun _ _ _ _ _ => pg_name (i := 2) scTurned.nd rfl (Or.inl rfl))
      (fun _ _ _ _ _ => pts_nil)
      (fun _ _ _ _ _ => pe_ix ix_list (pv 0) (pe_op op_mod (pe_op op_add (pv 2) (pv 1)) (pe_callB call_len_seq (by rfl) N.len PySem.boot_len (pa_cons (pv 0) pa_nil))) (fun _ _ => rfl)))), ?_⟩
    refine ⟨_, rfl, a, _, rfl, .inl (SqL.of ha), _, rfl, by rw [iv_len]; omega, by rw [iv_len]; omega, fun D hD => lc_range (lo := 0)
      (Acc H D fun i _ acc => acc = iv ((Uw42.turned k cam).take i)) (Acc.start hD rfl) (fun i H1 hi A => ?_) (fun H1 A => ?_)⟩
    · have hi : i < cam.length := by
        rw [iv_len] at hi
        omega
      obtain ⟨n, e1, e2⟩ := turned_at hk hi
      refine ⟨rfl, ?_⟩
      refine ⟨_, rfl, _, rfl, _, rfl, _, _, rfl, rfl, _, rfl, a, _, rfl, .inl (SqL.of (A.all _ _ ha)), _, _, rfl, rfl, by rw [iv_len]; omega, a, _, _, _, rfl, rfl, SqL.of (A.all _ _ ha), at_of (j := (i + k) % cam.length) ?_ (iv_at e1), ?_⟩
      · rw [iv_len, Int.zero_add]
        norm_cast
      · refine A.next (Same.refl _) (size_small (by omega)) fun acc e => ?_
        rw [e, iv_next e2]
    · obtain ⟨s1, acc, hA, _, e⟩ := A
      rw [List.take_of_length_le (by rw [iv_len]; unfold Uw42.turned; rw [List.length_append, List.length_drop, List.length_take]; omega)] at e
      subst e
      exact q H1 D (s1.trans same_hid) hD hA
end
end Cam
set_option Elab.async false
set_option linter.all false
set_option maxRecDepth 100000
set_option maxHeartbeats 2000000
/-! together, stillness, part_of, motion_of. -/
namespace Cam
open PySem PySem.Spec PyProof.Rows L2
/-- a list of numbers stands at x -/
def CamAt (H : Hp) (x : V) (cam : List Nat) : Prop := ∃ c, x = .ref c ∧ H c = some (.lst (iv cam))
theorem CamAt.mono {H H' : Hp} {x : V} {cam : List Nat} (s : Same H H') (h : CamAt H x cam) : CamAt H' x cam := by
  obtain ⟨c, e, h⟩ := h
  exact ⟨c, e, s _ _ h⟩
theorem zip_at {α β : Type} {a : List α} {b : List β} {i : Nat} {x : α} {y : β} (h1 : a[i]? = some x) (h2 : b[i]? = some y) : (a.zip b)[i]? = some (x, y) := by
  rw [List.getElem?_zip_eq_some]
  exact ⟨h1, h2⟩
theorem iv_still (n : Nat) : (List.replicate ((n : Int)).toNat [V.int 0]).flatten = iv (List.replicate n 0) := by
  rw [Int.toNat_natCast, List.flatten_replicate_singleton]
  unfold iv
  rw [List.map_replicate]
  rfl
theorem addAll_next {m : List Nat} {z : List (List Nat × Nat)} {i : Nat} {x : List Nat × Nat} (h : z[i]? = some x) : addAll m (z.take (i + 1)) = Uw42.add (addAll m (z.take i)) (part x.1 x.2) := by
  unfold addAll
  rw [take_snoc h, List.foldl_append]
  rfl
section
variable {P : Program} {w : World} {K : PySem.W.Frag} {mg : Str → Option Value} {base : Heap}
/-! ### together -/
def spTogether : Sp := fun vs H Q _ => ∃ (a b : Addr) (m n : List Nat), vs = [.ref a, .ref b] ∧ H a = some (.lst (iv m)) ∧ H b = some (.lst (iv n)) ∧ m.length ≤ 1000 ∧
  ∀ (H' : Hp) (p : Addr), Same H H' → H p = none → H' p = some (.lst (iv (Uw42.add m n))) → Q (.ref p) H'
theorem scTogether : FnScope ["one", "other", "height", "more"] ["one", "other"] (defScope sTogether) := ⟨rfl, rfl, rfl, by decide +kernel, rfl, by decide +kernel, by decide +kernel⟩
theorem ok_together {f : Addr} {fd : FuncData} (F : Fun K "together" "together" sTogether f fd) (N : Nm mg) : FnOk P w K mg base CX0 1 f fd ["one", "other"] spTogether := by
  refine F.ok scTogether (fun vs H Q E h => ?_) (fun cdv A outer s H vs Q E hr h => ?_)
  · obtain ⟨a, b, m, n, rfl, _⟩ := h
    rfl
  · obtain ⟨a, b, m, n, rfl, ha, hb, hsz, k⟩ := h
    refine ⟨_, pss_one (ps_ret (pe_lc (own := [("height", 2), ("more", 3)]) (g := gTup K 2 (gCons (gName 2) (gCons (gName 3) gNil))) rfl scTogether.nd (pi_zip (by rfl) N.zip (pa_cons (pv 0) (pa_cons (pv 1) pa_nil)))
      (blkOk_by (own := [("height", 2), ("more", 3)]) (N := ["one", "other", "height", "more"]) (sc := defScope sTogether) (by decide +kernel))
      (fun _ _ _ _ _ => pg_tup rfl (pgs_cons (pg_name (i := 2) scTogether.nd rfl (Or.inl rfl)) (pgs_cons (pg_name (i := 3) scTogether.nd rfl (Or.inl rfl)) pgs_nil)))
      (fun _ _ _ _ _ => pts_nil)
      (fun _ _ _ _ _ => pe_op op_add (pv 2) (pv 3)))), ?_⟩
    refine ⟨_, rfl, _, rfl, a, b, _, _, rfl, SqL.of ha, SqL.of hb, fun D hD => lc_it (walk_zip (n := min m.length n.length) (by rw [iv_len, iv_len]))
      (Acc H D fun i _ acc => acc = iv ((Uw42.add m n).take i)) (Acc.start hD rfl) (fun i H' _ A => ⟨SqL.of (A.all _ _ ha), SqL.of (A.all _ _ hb)⟩) (fun i x H1 H2 hi A y => ?_) (fun H1 A => ?_)⟩
    · obtain ⟨T, x1, x2, rfl, hT, rfl, g1, g2⟩ := y
      obtain ⟨n1, e1, rfl⟩ := iv_get g1
      obtain ⟨n2, e2, rfl⟩ := iv_get g2
      refine ⟨T, _, rfl, SqT.of upd_same, rfl, _, _, rfl, _, _, rfl, rfl, rfl, ?_⟩
      refine ⟨_, rfl, _, rfl, _, _, rfl, rfl, A.next (same_upd hT) (size_small (by omega)) fun acc e => ?_⟩
      rw [e, show iv ((Uw42.add m n).take (i + 1)) = _ from iv_next (zipWith_at (f := fun x y => x + y) e1 e2)]
      rfl
    · obtain ⟨s1, acc, hA, _, e⟩ := A
      rw [List.take_of_length_le (by unfold Uw42.add; rw [List.length_zipWith]; exact Nat.le_refl _)] at e
      subst e
      exact k H1 D (s1.trans same_hid) hD hA

/-! ### stillness -/
def spStill : Sp := fun vs H Q _ => ∃ (n : Nat), vs = [.int (n : Int)] ∧ n ≤ 1000 ∧
  ∀ (H' : Hp) (p : Addr), Same H H' → H p = none → H' p = some (.lst (iv (List.replicate n 0))) → Q (.ref p) H'
theorem scStill : FnScope ["places"] ["places"] (defScope sStill) := ⟨rfl, rfl, rfl, by decide +kernel, rfl, by decide +kernel, by decide +kernel⟩
theorem ok_still {f : Addr} {fd : FuncData} (F : Fun K "stillness" "stillness" sStill f fd) : FnOk P w K mg base CX0 1 f fd ["places"] spStill := by
  refine F.ok scStill (fun vs H Q E h => ?_) (fun cdv A outer s H vs Q E hr h => ?_)
  · obtain ⟨n, rfl, _⟩ := h
    rfl
  · obtain ⟨n, rfl, hn, k⟩ := h
    refine ⟨_, pss_one (ps_ret (pe_op op_rep (pe_lst (pa_cons pe_int pa_nil)) (pv 0))), ?_⟩
    refine ⟨(by show 1 ≤ sizeLine; decide), fun l hl => ?_⟩
    refine ⟨_, rfl, l, _, _, rfl, rfl, upd_same, by omega, by omega, ?_, fun p hp => ?_⟩
    · show 1 * _ ≤ _
      rw [Int.toNat_natCast]
      exact Nat.le_of_lt (size_small (by omega))
    · rw [iv_still]
      exact k _ p ((same_upd hl).trans (same_upd hp)) ((same_upd hl).free hp) upd_same

/-! ### part_of -/
def spPart : Sp := fun vs H Q _ => ∃ (a : Addr) (cam : List Nat) (k : Nat), vs = [.ref a, .int (k : Int)] ∧ H a = some (.lst (iv cam)) ∧ cam.length ≤ 1000 ∧
  ∀ (H' : Hp) (p : Addr), Same H H' → H p = none → H' p = some (.lst (iv (part cam k))) → Q (.ref p) H'
theorem scPart : FnScope ["cam", "number"] ["cam", "number"] (defScope sPartOf) := ⟨rfl, rfl, rfl, by decide +kernel, rfl, by decide +kernel, by decide +kernel⟩
theorem ok_part {f f1 f2 : Addr} {fd fd1 fd2 : FuncData} (F : Fun K "part_of" "part_of" sPartOf f fd) (N : Nm mg) (F1 : Fun K "turned" "turned" sTurned f1 fd1) (m1 : mg "turned" = some (.ref f1)) (b1 : Binds K fd1 ["cam", "k"] [])
    (F2 : Fun K "stillness" "stillness" sStill f2 fd2) (m2 : mg "stillness" = some (.ref f2)) (b2 : Binds K fd2 ["places"] []) : FnOk P w K mg base CX0 2 f fd ["cam", "number"] spPart := by
  have G1 : FnOk P w K mg base CX0 1 f1 fd1 ["cam", "k"] spTurned := ok_turned F1 N
  have G2 : FnOk P w K mg base CX0 1 f2 fd2 ["places"] spStill := ok_still F2
  refine F.ok scPart (fun vs H Q E h => ?_) (fun cdv A outer s H vs Q E hr h => ?_)
  · obtain ⟨a, cam, k, rfl, _⟩ := h
    rfl
  · obtain ⟨a, cam, k, rfl, ha, hsz, q⟩ := h
    refine ⟨_, pss_cons (ps_if (pt_cmpR op_lt (pv 1) (pe_callB call_len_seq (by rfl) N.len PySem.boot_len (pa_cons (pv 0) pa_nil)) (nomark _))
        (pss_one (ps_ret (pe_call G1 hr (by rfl) m1 F1.kp b1 .nil pass0 (pa_cons (pv 0) (pa_cons (pv 1) pa_nil))))) pss_nil)
      (pss_one (ps_ret (pe_call G2 hr (by rfl) m2 F2.kp b2 .nil pass0 (pa_cons (pe_callB call_len_seq (by rfl) N.len PySem.boot_len (pa_cons (pv 0) pa_nil)) pa_nil)))), ?_⟩
    refine ⟨_, rfl, _, rfl, a, _, rfl, .inl (SqL.of ha), _, _, rfl, rfl, _, rfl, ite2 (fun c => ?_) (fun c => ?_)⟩
    · have c : k < cam.length := by
        have c := of_decide_eq_true c
        rw [iv_len] at c
        omega
      refine ⟨_, rfl, _, rfl, a, cam, k, rfl, ha, c, hsz, fun H' p sm hp hl => q H' p sm hp ?_⟩
      unfold part
      rw [if_pos c]
      exact hl
    · have c : ¬ k < cam.length := fun z => c (decide_eq_true (by rw [iv_len]; omega))
      refine ⟨_, rfl, a, _, rfl, .inl (SqL.of ha), cam.length, by rw [iv_len]; rfl, hsz, fun H' p sm hp hl => q H' p sm hp ?_⟩
      unfold part
      rw [if_neg c]
      exact hl

/-! ### motion_of -/
def spMotion : Sp := fun vs H Q _ => ∃ (l b : Addr) (xs : List V) (cams : List (List Nat)) (places : Nat) (plan : List Nat), vs = [.ref l, .int (places : Int), .ref b] ∧ H l = some (.lst xs) ∧ Each (CamAt H) xs cams ∧ H b = some (.lst (iv plan)) ∧
  places ≤ 1000 ∧ (∀ c ∈ cams, c.length = places) ∧
  ∀ (H' : Hp) (p : Addr), Same H H' → H p = none → H' p = some (.lst (iv (motionOf cams places plan))) → Q (.ref p) H'
theorem scMotion : FnScope ["cams", "places", "plan", "motion", "cam", "number"] ["cams", "places", "plan"] (defScope sMotion) := ⟨rfl, rfl, rfl, by decide +kernel, rfl, by decide +kernel, by decide +kernel⟩
theorem addAll_length {places : Nat} : ∀ (z : List (List Nat × Nat)) (a : List Nat), (∀ x ∈ z, x.1.length = places) → a.length = places → (addAll a z).length = places
  | [], _, _, ha => ha
  | x :: r, a, hz, ha => addAll_length r _ (fun y m => hz y (List.mem_cons_of_mem _ m)) (add_length ha ((part_length _ _).trans (hz x List.mem_cons_self)))
theorem ok_motion {f f1 f2 f3 f4 : Addr} {fd fd1 fd2 fd3 fd4 : FuncData} (F : Fun K "motion_of" "motion_of" sMotion f fd) (N : Nm mg) (F1 : Fun K "turned" "turned" sTurned f1 fd1) (m1 : mg "turned" = some (.ref f1)) (b1 : Binds K fd1 ["cam", "k"] [])
    (F2 : Fun K "stillness" "stillness" sStill f2 fd2) (m2 : mg "stillness" = some (.ref f2)) (b2 : Binds K fd2 ["places"] []) (F3 : Fun K "part_of" "part_of" sPartOf f3 fd3) (m3 : mg "part_of" = some (.ref f3)) (b3 : Binds K fd3 ["cam", "number"] [])
    (F4 : Fun K "together" "together" sTogether f4 fd4) (m4 : mg "together" = some (.ref f4)) (b4 : Binds K fd4 ["one", "other"] []) : FnOk P w K mg base CX0 3 f fd ["cams", "places", "plan"] spMotion := by
  have G2 : FnOk P w K mg base CX0 1 f2 fd2 ["places"] spStill := ok_still F2
  have G3 : FnOk P w K mg base CX0 2 f3 fd3 ["cam", "number"] spPart := ok_part F3 N F1 m1 b1 F2 m2 b2
  have G4 : FnOk P w K mg base CX0 1 f4 fd4 ["one", "other"] spTogether := ok_together F4 N
  refine F.ok scMotion (fun vs H Q E h => ?_) (fun cdv A outer s H vs Q E hr h => ?_)
  · obtain ⟨l, b, xs, cams, places, plan, rfl, _⟩ := h
    rfl
  · obtain ⟨l, b, xs, cams, places, plan, rfl, hl, hE, hb, hsz, hc, k⟩ := h
    have hr1 : Room 1 _ := hr.mono (by decide)
    refine ⟨_, pss_cons (ps_set (i := 3) scMotion.nd rfl (Or.inl rfl) (pe_call G2 hr1 (by rfl) m2 F2.kp b2 .nil pass0 (pa_cons (pv 1) pa_nil)))
      (pss_cons (ps_for PassesOwn.never rfl (pi_zip (by rfl) N.zip (pa_cons (pv 0) (pa_cons (pv 2) pa_nil))) (pg_tup rfl (pgs_cons (pg_name (i := 4) scMotion.nd rfl (Or.inl rfl)) (pgs_cons (pg_name (i := 5) scMotion.nd rfl (Or.inl rfl)) pgs_nil)))
        (pss_one (ps_set (i := 3) scMotion.nd rfl (Or.inl rfl) (pe_call G4 hr1 (by rfl) m4 F4.kp b4 .nil pass0 (pa_cons (pv 3) (pa_cons (pe_call G3 hr (by rfl) m3 F3.kp b3 .nil pass0 (pa_cons (pv 4) (pa_cons (pv 5) pa_nil))) pa_nil))))))
      (pss_one (ps_ret (pv 3)))), ?_⟩
    refine ⟨_, rfl, places, rfl, hsz, fun H1 q s1 hq hq1 => ?_⟩
    refine ⟨_, rfl, _, rfl, l, b, _, _, rfl, SqL.of (s1 _ _ hl), SqL.of (s1 _ _ hb), for_it (walk_zip (n := min cams.length plan.length) (by rw [hE.len, iv_len]))
      (fun i σ H' => ∃ (q : Addr) (v4 v5 : Option V), σ = [some (.ref l), some (.int (places : Int)), some (.ref b), some (.ref q), v4, v5] ∧ Same H H' ∧ H q = none ∧ H' q = some (.lst (iv (addAll (List.replicate places 0) ((cams.zip plan).take i)))))
      ⟨q, none, none, rfl, s1, hq, hq1⟩ (fun i σ H' _ ⟨_, _, _, _, s2, _, _⟩ => ⟨SqL.of (s2 _ _ hl), SqL.of (s2 _ _ hb)⟩) (fun i x σ H2 H3 hi A y => ?_) (fun σ H2 A => ?_)⟩
    · obtain ⟨q, v4, v5, rfl, s2, hq, hq2⟩ := A
      obtain ⟨T, x1, x2, rfl, hT, rfl, g1, g2⟩ := y
      obtain ⟨cam, e1, c, rfl, hcam⟩ := hE.get g1
      obtain ⟨n2, e2, rfl⟩ := iv_get g2
      have mc : cam ∈ cams := List.mem_of_getElem? e1
      have sT : Same H2 (upd H2 T (.tup [V.ref c, V.int (n2 : Int)])) := same_upd hT
      have hlen : (addAll (List.replicate places 0) ((cams.zip plan).take i)).length = places := by
        refine addAll_length _ _ (fun z m => ?_) (List.length_replicate ..)
        exact hc _ (List.of_mem_zip (show (z.1, z.2) ∈ cams.zip plan from List.mem_of_mem_take m)).1
      refine ⟨T, _, rfl, SqT.of upd_same, rfl, _, _, rfl, _, _, rfl, rfl, ?_⟩
      refine ⟨_, rfl, _, rfl, _, rfl, c, cam, n2, rfl, sT _ _ (s2 _ _ hcam), by rw [hc _ mc]; exact hsz, fun H4 p s4 hp hp4 => ?_⟩
      have s5 := s2.trans (sT.trans s4)
      refine ⟨q, p, _, _, rfl, s4 _ _ (sT _ _ hq2), hp4, by omega, fun H5 p5 s6 hp5 hp6 => ?_⟩
      refine ⟨p5, _, _, rfl, s5.trans s6, s5.free hp5, ?_⟩
      rw [addAll_next (zip_at e1 e2)]
      exact hp6
    · obtain ⟨q, v4, v5, rfl, s2, hq, hq2⟩ := A
      rw [List.take_of_length_le (by rw [List.length_zip]; exact Nat.le_refl _)] at hq2
      exact ⟨_, rfl, k H2 q s2 hq hq2⟩
end
end Cam
set_option Elab.async false
set_option linter.all false
set_option maxRecDepth 100000
set_option maxHeartbeats 2000000
/-! gone_on, all_plans, cams_on. -/
namespace Cam
open PySem PySem.Spec PyProof.Rows L2
abbrev sGone : Stmt := top 11
abbrev sAllPlans : Stmt := top 12
abbrev sCamsOn : Stmt := top 13
/-- a pair of a plan and its motion stands at x -/
def PlanAt (H : Hp) (x : V) (d : PM) : Prop := ∃ t p m, x = .ref t ∧ H t = some (.tup [.ref p, .ref m]) ∧ H p = some (.lst (iv d.1)) ∧ H m = some (.lst (iv d.2))
theorem PlanAt.mono {H H' : Hp} {x : V} {d : PM} (s : Same H H') (h : PlanAt H x d) : PlanAt H' x d := by
  obtain ⟨t, p, m, e, h1, h2, h3⟩ := h
  exact ⟨t, p, m, e, s _ _ h1, s _ _ h2, s _ _ h3⟩
def parts (cam : List Nat) : List (List Nat) := (List.range (cam.length + 1)).map (part cam)
theorem parts_at {cam : List Nat} {i : Nat} (h : i < cam.length + 1) : (parts cam)[i]? = some (part cam i) := by
  unfold parts
  rw [List.getElem?_map, List.getElem?_range h]
  rfl
theorem parts_len (cam : List Nat) : (parts cam).length = cam.length + 1 := by
  unfold parts
  rw [List.length_map, List.length_range]
theorem goneOne_at {b : PM} {cam : List Nat} {i : Nat} (h : i < cam.length + 1) : (goneOne b cam)[i]? = some (b.1 ++ [i], Uw42.add b.2 (part cam i)) := by
  unfold goneOne
  rw [List.getElem?_map, List.getElem?_range h]
  rfl
theorem goneOn_next {begun : List PM} {cam : List Nat} {i : Nat} {b : PM} (h : begun[i]? = some b) : goneOn (begun.take (i + 1)) cam = goneOn (begun.take i) cam ++ goneOne b cam := by
  unfold goneOn
  rw [take_snoc h, List.flatMap_append, List.flatMap_singleton]
section
variable {P : Program} {w : World} {K : PySem.W.Frag} {mg : Str → Option Value} {base : Heap}
/-! ### gone_on -/
def spGone : Sp := fun vs H Q _ => ∃ (l b : Addr) (xs : List V) (begun : List PM) (cam : List Nat), vs = [.ref l, .ref b] ∧ H l = some (.lst xs) ∧ Each (PlanAt H) xs begun ∧ H b = some (.lst (iv cam)) ∧
  cam.length ≤ 1000 ∧ (∀ d ∈ begun, d.2.length ≤ 1000) ∧ (∀ d ∈ begun, d.1.length ≤ 1000) ∧ begun.length * (cam.length + 1) ≤ 1000000 ∧
  ∀ (H' : Hp) (p : Addr) (ys : List V), Same H H' → H' p = some (.lst ys) → Each (PlanAt H') ys (goneOn begun cam) → Q (.ref p) H'
theorem scGone : FnScope ["begun", "cam", "number", "parts", "found", "plan", "motion", "part"] ["begun", "cam"] (defScope sGone) := ⟨rfl, rfl, rfl, by decide +kernel, rfl, by decide +kernel, by decide +kernel⟩
theorem ok_gone {f f3 f4 : Addr} {fd fd3 fd4 : FuncData} (F : Fun K "gone_on" "gone_on" sGone f fd) (N : Nm mg)
    (F3 : Fun K "part_of" "part_of" sPartOf f3 fd3) (m3 : mg "part_of" = some (.ref f3)) (b3 : Binds K fd3 ["cam", "number"] []) (G3 : FnOk P w K mg base CX0 2 f3 fd3 ["cam", "number"] spPart)
    (F4 : Fun K "together" "together" sTogether f4 fd4) (m4 : mg "together" = some (.ref f4)) (b4 : Binds K fd4 ["one", "other"] []) : FnOk P w K mg base CX0 3 f fd ["begun", "cam"] spGone := by
  have G4 : FnOk P w K mg base CX0 1 f4 fd4 ["one", "other"] spTogether := ok_together F4 N
  refine F.ok scGone (fun vs H Q E h => ?_) (fun cdv A outer s H vs Q E hr h => ?_)
  · obtain ⟨l, b, xs, begun, cam, rfl, _⟩ := h
    rfl
  · obtain ⟨l, b, xs, begun, cam, rfl, hl, hE, hb, hsz, hm, hp1, hn, k⟩ := h
    have hr1 : Room 1 _ := hr.mono (by decide)
    refine ⟨_, pss_cons (ps_setLc (i := 3) (own := [("number", 2)]) (g := gName 2) (te := tCall spPart [] E0 (tCons (tVar 1) (tCons (tVar 2) tNil))) rfl scGone.nd rfl rfl (sw_true rfl rfl rfl (by decide +kernel))
        (pi_range1 (by rfl) N.range (pa_cons (pe_op op_add (pe_callB call_len_seq (by rfl) N.len PySem.boot_len (pa_cons (pv 1) pa_nil)) pe_int) pa_nil))
        (blkOk_by (own := [("number", 2)]) (N := ["begun", "cam", "number", "parts", "found", "plan", "motion", "part"]) (sc := defScope sGone) (by decide +kernel))
        (fun _ _ _ _ _ => pg_name (i := 2) scGone.nd rfl (Or.inl rfl)) (fun _ _ _ _ _ => pts_nil)
        (fun _ _ _ _ _ => pe_call G3 hr (by rfl) m3 F3.kp b3 .nil pass0 (pa_cons (pv 1) (pa_cons (pv 2) pa_nil))))
      (pss_cons (ps_set (i := 4) scGone.nd rfl (Or.inl rfl) (pe_lst pa_nil))
      (pss_cons (ps_for PassesOwn.never rfl (pi_list (pv 0)) (pg_tup rfl (pgs_cons (pg_name (i := 5) scGone.nd rfl (Or.inl rfl)) (pgs_cons (pg_name (i := 6) scGone.nd rfl (Or.inl rfl)) pgs_nil)))
        (pss_one (ps_for PassesOwn.never rfl (pi_enum (by rfl) N.enum (pa_cons (pv 3) pa_nil)) (pg_tup rfl (pgs_cons (pg_name (i := 2) scGone.nd rfl (Or.inl rfl)) (pgs_cons (pg_name (i := 7) scGone.nd rfl (Or.inl rfl)) pgs_nil)))
          (pss_one (ps_expr (pe_bm PySem.F.plainAttrs_list PySem.F.slot_list_append PySem.F.type_list_append mt_append (pv 4)
            (pa_cons (pe_tup (pa_cons (pe_op op_cat (pv 5) (pe_lst (pa_cons (pv 2) pa_nil))) (pa_cons (pe_call G4 hr1 (by rfl) m4 F4.kp b4 .nil pass0 (pa_cons (pv 6) (pa_cons (pv 7) pa_nil))) pa_nil))) pa_nil)))))))
      (pss_one (ps_ret (pv 4))))), ?_⟩
    -- parts = [part_of(cam, number) for number in range(len(cam) + 1)]
    refine ⟨_, rfl, b, _, rfl, .inl (SqL.of hb), _, _, rfl, rfl, _, rfl, by rw [iv_len]; omega, by rw [iv_len]; omega, fun D hD => lc_range (lo := 0)
      (Acc H D fun i h acc => Each (CamAt h) acc ((parts cam).take i)) (Acc.start hD Each.nil) (fun i H1 hi A => ?_) (fun H1 A => ?_)⟩
    · have hi : i < cam.length + 1 := by
        rw [iv_len] at hi
        omega
      refine ⟨rfl, ?_⟩
      refine ⟨_, rfl, _, rfl, b, cam, i, by rw [Int.zero_add]; rfl, A.all _ _ hb, hsz, fun H2 p sm hp hl2 => ?_⟩
      refine A.next sm (size_small (by omega)) fun acc e => ?_
      obtain ⟨_, _, hAD, _, _⟩ := A
      rw [take_snoc (parts_at hi)]
      exact (e.mono fun x d q => q.mono (hid_same sm D)).snoc ⟨p, rfl, by rw [hid_ne (ne_free hp hAD)]; exact hl2⟩
    · obtain ⟨s1, ps, hAD, _, hP⟩ := A
      have en : (((iv cam).length : Int) + 1).toNat = cam.length + 1 := by
        rw [iv_len]
        omega
      rw [en, List.take_of_length_le (by rw [parts_len]; exact Nat.le_refl _)] at hP
      have hP : Each (CamAt H1) ps (parts cam) := hP.mono fun x d q => q.mono same_hid
      have s1 : Same H H1 := s1.trans same_hid
      -- found = []
      refine ⟨Nat.zero_le _, fun q hq => ?_⟩
      have eq0 : hid (upd H1 q (.lst [])) q = H1 := by rw [hid_upd, hid_free hq]
      -- for plan, motion in begun
      refine ⟨_, rfl, l, rfl, ⟨_, SqL.of (same_upd hq _ _ (s1 _ _ hl))⟩, for_it (walk_list (xs := xs))
        (fun i σ H' => ∃ (v2 v5 v6 v7 : Option V) (acc : List V), σ = [some (.ref l), some (.ref b), v2, some (.ref D), some (.ref q), v5, v6, v7] ∧ Same H1 (hid H' q) ∧ H' q = some (.lst acc) ∧ Each (PlanAt (hid H' q)) acc (goneOn (begun.take i) cam))
        ⟨none, none, none, none, [], rfl, by rw [eq0]; exact Same.refl _, upd_same, Each.nil⟩ (fun i σ H' _ ⟨_, _, _, _, _, _, s2, _, _⟩ => SqL.of (same_hid _ _ (s2 _ _ (s1 _ _ hl)))) (fun i x σ H2 H3 hi A y => ?_) (fun σ H2 A => ?_)⟩
      · obtain ⟨v2, v5, v6, v7, acc, rfl, s2, hq2, hA⟩ := A
        obtain ⟨rfl, g⟩ := y
        obtain ⟨d, hd, t, p, m, rfl, ht, hp, hm2⟩ := hE.get g
        have md : d ∈ begun := List.mem_of_getElem? hd
        have hib : i < begun.length := (List.getElem?_eq_some_iff.mp hd).1
        have s3 : Same H H3 := (s1.trans s2).trans same_hid
        refine ⟨t, _, rfl, SqT.of (s3 _ _ ht), rfl, _, _, rfl, _, _, rfl, rfl, ?_⟩
        -- for number, part in enumerate(parts)
        refine ⟨_, rfl, D, ps, rfl, SqL.of (same_hid _ _ (s2 _ _ hAD)), for_it (walk_enum (xs := ps))
          (fun j σ H' => ∃ (v2 v7 : Option V) (acc : List V), σ = [some (.ref l), some (.ref b), v2, some (.ref D), some (.ref q), some (.ref p), some (.ref m), v7] ∧ Same H1 (hid H' q) ∧ H' q = some (.lst acc) ∧ Each (PlanAt (hid H' q)) acc (goneOn (begun.take i) cam ++ (goneOne d cam).take j))
          ⟨v2, v7, acc, rfl, s2, hq2, by rw [List.take_zero, List.append_nil]; exact hA⟩ (fun j σ H' _ ⟨_, _, _, _, s4, _, _⟩ => SqL.of (same_hid _ _ (s4 _ _ hAD))) (fun j x σ H4 H5 hj A y => ?_) (fun σ H4 A => ?_)⟩
        · obtain ⟨v2, v7, acc, rfl, s4, hq4, hA4⟩ := A
          obtain ⟨T, x1, x2, rfl, hT, rfl, g1, g2⟩ := y
          have e1 : x1 = .int (j : Nat) := (Option.some.inj g1).symm
          subst e1
          obtain ⟨pt, hpt, c, rfl, hc⟩ := hP.get g2
          have hj : j < cam.length + 1 := by
            rw [hP.len, parts_len] at hj
            exact hj
          rw [parts_at hj] at hpt
          obtain rfl := Option.some.inj hpt
          have sT : Same H4 (upd H4 T (.tup [V.int (j : Nat), V.ref c])) := same_upd hT
          refine ⟨T, _, rfl, SqT.of upd_same, rfl, _, _, rfl, _, _, rfl, rfl, ?_⟩
          -- found.append((plan + [number], together(motion, part)))
          have hqT := sT _ _ hq4
          have s5 : Same H1 (hid (upd H4 T (.tup [V.int (j : Nat), V.ref c])) q) := s4.trans (hid_same sT q)
          have hA5 := hA4.mono fun x d z => z.mono (hid_same sT q)
          generalize upd H4 T (.tup [V.int (j : Nat), V.ref c]) = H5 at hqT s5 hA5 ⊢
          have s6 : Same H H5 := (s1.trans s5).trans same_hid
          refine ⟨_, rfl, .inl ⟨rfl, _, SqL.of hqT⟩, _, rfl, _, rfl, (by show 1 ≤ sizeLine; decide), fun n1 hn1 => ?_⟩
          refine ⟨p, n1, _, _, rfl, rfl, same_upd hn1 _ _ (s6 _ _ hp), upd_same, ?_, fun n2 hn2 => ?_⟩
          · rw [iv_len]
            exact Nat.le_of_lt (size_small (by have := hp1 d md; show _ + 1 ≤ _; omega))
          have s7 : Same H5 (upd (upd H5 n1 (.lst [V.int (j : Nat)])) n2 (.lst (iv d.1 ++ [V.int (j : Nat)]))) := (same_upd hn1).trans (same_upd hn2)
          have hn2' : H5 n2 = none := (same_upd hn1).free hn2
          have e2 : upd (upd H5 n1 (.lst [V.int (j : Nat)])) n2 (.lst (iv d.1 ++ [V.int (j : Nat)])) n2 = some (.lst (iv (d.1 ++ [j]))) := by
            rw [upd_same, iv_append]
            rfl
          generalize upd (upd H5 n1 (.lst [V.int (j : Nat)])) n2 (.lst (iv d.1 ++ [V.int (j : Nat)])) = H6 at s7 e2 ⊢
          refine ⟨_, rfl, _, rfl, m, c, _, _, rfl, s7 _ _ (s6 _ _ hm2), s7 _ _ (same_hid _ _ (s5 _ _ hc)), hm d md, fun H7 n3 s8 hn3 e3 => ?_⟩
          refine ⟨(by show 2 ≤ sizeLine; decide), fun n4 hn4 => ?_⟩
          have s9 : Same H5 (upd H7 n4 (.tup [.ref n2, .ref n3])) := (s7.trans s8).trans (same_upd hn4)
          refine ⟨q, _, _, rfl, rfl, s9 _ _ hqT, ?_, ?_⟩
          · rw [hA5.len, List.length_append, goneOn_length, List.length_take, List.length_take, goneOne_length]
            have h1 : (i + 1) * (cam.length + 1) ≤ begun.length * (cam.length + 1) := Nat.mul_le_mul_right _ hib
            rw [Nat.succ_mul] at h1
            refine size_small ?_
            rw [Nat.min_eq_left (Nat.le_of_lt hib)]
            omega
          · have nq2 : n2 ≠ q := ne_free hn2' hqT
            have nq3 : n3 ≠ q := ne_free (s7.free hn3) hqT
            have nq4 : n4 ≠ q := ne_free ((s7.trans s8).free hn4) hqT
            refine ⟨_, _, _, rfl, ?_, upd_same, ?_⟩
            · rw [hid_upd]
              exact s5.trans (hid_same s9 q)
            · rw [hid_upd, take_snoc (goneOne_at hj), ← List.append_assoc]
              refine (hA5.mono fun x d z => z.mono (hid_same s9 q)).snoc ⟨n4, n2, n3, rfl, ?_, ?_, ?_⟩
              · rw [hid_ne nq4, upd_same]
              · rw [hid_ne nq2]
                exact same_upd hn4 _ _ (s8 _ _ e2)
              · rw [hid_ne nq3]
                exact same_upd hn4 _ _ e3
        · obtain ⟨v2, v7, acc, rfl, s4, hq4, hA4⟩ := A
          refine ⟨v2, _, _, v7, acc, rfl, s4, hq4, ?_⟩
          rw [goneOn_next hd]
          have eG : (goneOne d cam).take ps.length = goneOne d cam := List.take_of_length_le (by rw [goneOne_length, hP.len, parts_len]; exact Nat.le_refl _)
          rw [eG] at hA4
          exact hA4
      · obtain ⟨v2, v5, v6, v7, acc, rfl, s2, hq2, hA⟩ := A
        rw [List.take_of_length_le (by rw [hE.len]; exact Nat.le_refl _)] at hA
        exact ⟨_, rfl, k H2 q acc ((s1.trans s2).trans same_hid) hq2 (hA.mono fun x d z => z.mono same_hid)⟩

/-! ### all_plans -/
def spAllPlans : Sp := fun vs H Q _ => ∃ (l : Addr) (xs : List V) (cams : List (List Nat)) (places : Nat), vs = [.ref l, .int (places : Int)] ∧ H l = some (.lst xs) ∧ Each (CamAt H) xs cams ∧
  places ≤ 8 ∧ cams.length ≤ 4 ∧ (∀ c ∈ cams, c.length = places) ∧
  ∀ (H' : Hp) (p : Addr) (ys : List V), Same H H' → H' p = some (.lst ys) → Each (PlanAt H') ys (allPlans cams places) → Q (.ref p) H'
theorem scAllPlans : FnScope ["cams", "places", "found", "cam"] ["cams", "places"] (defScope sAllPlans) := ⟨rfl, rfl, rfl, by decide +kernel, rfl, by decide +kernel, by decide +kernel⟩
/-- no plan of the first i cams tells more than i numbers -/
theorem plans_plan {n : Nat} : ∀ (cams : List (List Nat)) (begun : List PM), (∀ b ∈ begun, b.1.length ≤ n) → ∀ b ∈ cams.foldl goneOn begun, b.1.length ≤ n + cams.length
  | [], begun, hb => hb
  | cam :: cs, begun, hb => by
    intro b m
    have := plans_plan (n := n + 1) cs (goneOn begun cam) (fun d hd => by
      unfold goneOn at hd
      obtain ⟨a, ha, m⟩ := List.mem_flatMap.mp hd
      unfold goneOne at m
      obtain ⟨k, _, rfl⟩ := List.mem_map.mp m
      have := hb a ha
      show (a.1 ++ [k]).length ≤ n + 1
      rw [List.length_append]
      show a.1.length + 1 ≤ n + 1
      omega) b m
    rw [List.length_cons]
    omega
theorem ok_allplans {f f2 f5 : Addr} {fd fd2 fd5 : FuncData} (F : Fun K "all_plans" "all_plans" sAllPlans f fd)
    (F2 : Fun K "stillness" "stillness" sStill f2 fd2) (m2 : mg "stillness" = some (.ref f2)) (b2 : Binds K fd2 ["places"] [])
    (F5 : Fun K "gone_on" "gone_on" sGone f5 fd5) (m5 : mg "gone_on" = some (.ref f5)) (b5 : Binds K fd5 ["begun", "cam"] []) (G5 : FnOk P w K mg base CX0 3 f5 fd5 ["begun", "cam"] spGone) :
    FnOk P w K mg base CX0 4 f fd ["cams", "places"] spAllPlans := by
  have G2 : FnOk P w K mg base CX0 1 f2 fd2 ["places"] spStill := ok_still F2
  refine F.ok scAllPlans (fun vs H Q E h => ?_) (fun cdv A outer s H vs Q E hr h => ?_)
  · obtain ⟨l, xs, cams, places, rfl, _⟩ := h
    rfl
  · obtain ⟨l, xs, cams, places, rfl, hl, hE, hsz, hn, hc, k⟩ := h
    have hr1 : Room 1 _ := hr.mono (by decide)
    refine ⟨_, pss_cons (ps_set (i := 2) scAllPlans.nd rfl (Or.inl rfl) (pe_lst (pa_cons (pe_tup (pa_cons (pe_lst pa_nil) (pa_cons (pe_call G2 hr1 (by rfl) m2 F2.kp b2 .nil pass0 (pa_cons (pv 1) pa_nil)) pa_nil))) pa_nil)))
      (pss_cons (ps_for PassesOwn.never rfl (pi_list (pv 0)) (pg_name (i := 3) scAllPlans.nd rfl (Or.inl rfl))
        (pss_one (ps_set (i := 2) scAllPlans.nd rfl (Or.inl rfl) (pe_call G5 hr (by rfl) m5 F5.kp b5 .nil pass0 (pa_cons (pv 2) (pa_cons (pv 3) pa_nil))))))
      (pss_one (ps_ret (pv 2)))), ?_⟩
    -- found = [([], stillness(places))]
    refine ⟨Nat.zero_le _, fun n1 hn1 => ?_⟩
    refine ⟨_, rfl, places, rfl, by omega, fun H2 n2 s2 hn2 e2 => ?_⟩
    refine ⟨(by show 2 ≤ sizeLine; decide), fun n3 hn3 => ?_⟩
    refine ⟨(by show 1 ≤ sizeLine; decide), fun n4 hn4 => ?_⟩
    have s3 : Same H2 (upd (upd H2 n3 (.tup [.ref n1, .ref n2])) n4 (.lst [.ref n3])) := (same_upd hn3).trans (same_upd hn4)
    have s1 : Same H (upd (upd H2 n3 (.tup [.ref n1, .ref n2])) n4 (.lst [.ref n3])) := ((same_upd hn1).trans s2).trans s3
    refine ⟨_, rfl, l, rfl, ⟨_, SqL.of (s1 _ _ hl)⟩, for_it (walk_list (xs := xs))
      (fun i σ H' => ∃ (q : Addr) (v3 : Option V) (ys : List V), σ = [some (.ref l), some (.int (places : Int)), some (.ref q), v3] ∧ Same H H' ∧ H' q = some (.lst ys) ∧ Each (PlanAt H') ys ((cams.take i).foldl goneOn [([], List.replicate places 0)]))
      ⟨n4, none, _, rfl, s1, upd_same, ?_⟩ (fun i σ H' _ ⟨_, _, _, _, s4, _, _⟩ => SqL.of (s4 _ _ hl)) (fun i x σ H4 H5 hi A y => ?_) (fun σ H4 A => ?_)⟩
    · have := (Each.nil (F := PlanAt (upd (upd H2 n3 (.tup [.ref n1, .ref n2])) n4 (.lst [.ref n3])))).snoc (x := .ref n3) (d := ([], List.replicate places 0))
        ⟨n3, n1, n2, rfl, same_upd hn4 _ _ upd_same, s3 _ _ (s2 _ _ upd_same), s3 _ _ e2⟩
      exact this
    · obtain ⟨q, v3, ys, rfl, s4, hq, hY⟩ := A
      obtain ⟨rfl, g⟩ := y
      obtain ⟨cam, hcam, c, rfl, hcc⟩ := hE.get g
      have mc : cam ∈ cams := List.mem_of_getElem? hcam
      have hi' : i < cams.length := (List.getElem?_eq_some_iff.mp hcam).1
      have hct : ∀ c ∈ cams.take i, c.length = places := fun c m => hc c (List.mem_of_mem_take m)
      refine ⟨_, rfl, _, rfl, q, c, ys, _, cam, rfl, hq, hY, s4 _ _ hcc, by rw [hc _ mc]; omega, fun d m => ?_, fun d m => ?_, ?_, fun H6 p zs s5 hp hZ => ?_⟩
      · have := foldl_goneOn_good (places := places) (cams.take i) _ hct (fun b m => by rw [List.mem_singleton.mp m, List.length_replicate]) d m
        omega
      · have := plans_plan (n := 0) (cams.take i) _ (fun b m => by rw [List.mem_singleton.mp m]; exact Nat.le_refl _) d m
        rw [List.length_take] at this
        omega
      · rw [foldl_goneOn_length (places := places) _ _ hct, hc _ mc, List.length_singleton, Nat.one_mul, ← Nat.pow_succ, List.length_take, Nat.min_eq_left (Nat.le_of_lt hi')]
        exact Nat.le_trans (pow_bound hsz (by omega)) (by decide)
      · refine ⟨p, _, zs, rfl, s4.trans s5, hp, ?_⟩
        rw [take_snoc hcam, List.foldl_append]
        exact hZ
    · obtain ⟨q, v3, ys, rfl, s4, hq, hY⟩ := A
      rw [List.take_of_length_le (by rw [hE.len]; exact Nat.le_refl _)] at hY
      exact ⟨_, rfl, k H4 q ys s4 hq hY⟩

/-! ### cams_on -/
def rLtI : R2 := rI0 fun i j => .bl (decide (i < j))
def spCamsOn : Sp := fun vs H Q _ => ∃ (b : Addr) (plan : List Nat) (places : Nat), vs = [.ref b, .int (places : Int)] ∧ H b = some (.lst (iv plan)) ∧ plan.length ≤ 1000 ∧
  ∀ H' : Hp, Same H H' → Q (.int (camsOn plan places : Nat)) H'
theorem scCamsOn : FnScope ["plan", "places", "number"] ["plan", "places"] (defScope sCamsOn) := ⟨rfl, rfl, rfl, by decide +kernel, rfl, by decide +kernel, by decide +kernel⟩
theorem filter_next {α : Type} {l : List α} {f : α → Bool} {i : Nat} {x : α} (h : l[i]? = some x) : (l.take (i + 1)).filter f = (l.take i).filter f ++ (if f x = true then [x] else []) := by
  rw [take_snoc h, List.filter_append]
  congr 1
  by_cases c : f x = true
  · rw [if_pos c, List.filter_cons_of_pos c, List.filter_nil]
  · rw [if_neg c, List.filter_cons_of_neg c, List.filter_nil]
theorem ok_camson {f : Addr} {fd : FuncData} (F : Fun K "cams_on" "cams_on" sCamsOn f fd) (N : Nm mg) : FnOk P w K mg base CX0 1 f fd ["plan", "places"] spCamsOn := by
  refine F.ok scCamsOn (fun vs H Q E h => ?_) (fun cdv A outer s H vs Q E hr h => ?_)
  · obtain ⟨b, plan, places, rfl, _⟩ := h
    rfl
  · obtain ⟨b, plan, places, rfl, hb, hsz, k⟩ := h
    refine ⟨_, pss_one (ps_ret (pe_callB call_len_seq (by rfl) N.len PySem.boot_len (pa_cons (pe_lc (own := [("number", 2)]) (g := gName 2) (tt := tTest (tOp rLtI (tVar 2) (tVar 1))) (te := tVar 2) rfl scCamsOn.nd (pi_list (pv 0))
      (blkOk_by (own := [("number", 2)]) (N := ["plan", "places", "number"]) (sc := defScope sCamsOn) (by decide +kernel))
      (fun _ _ _ _ _ => pg_name (i := 2) scCamsOn.nd rfl (Or.inl rfl))
      (fun _ _ _ _ _ => pts_one (pt_cmpR op_lt (pv 2) (pv 1) (nomark _)))
      (fun _ _ _ _ _ => pv 2)) pa_nil))), ?_⟩
    refine ⟨_, rfl, b, rfl, ⟨_, SqL.of hb⟩, fun D hD => lc_it (walk_list (xs := iv plan))
      (Acc H D fun i _ acc => acc = iv ((plan.take i).filter fun n => decide (n < places))) (Acc.start hD rfl) (fun i H' _ A => SqL.of (A.all _ _ hb)) (fun i x H1 H2 hi A y => ?_) (fun H1 A => ?_)⟩
    · obtain ⟨rfl, g⟩ := y
      obtain ⟨n, hn, rfl⟩ := iv_get g
      rw [iv_len] at hi
      refine ⟨rfl, _, rfl, _, rfl, _, _, rfl, rfl, _, rfl, ite2 (fun c => ?_) (fun c => ?_)⟩
      · have c : n < places := by
          have c := of_decide_eq_true c
          omega
        refine ⟨_, rfl, A.next (Same.refl _) (size_small (by omega)) fun acc e => ?_⟩
        rw [e, filter_next hn, if_pos (decide_eq_true c), iv_append]
        rfl
      · have c : ¬ n < places := fun z => c (decide_eq_true (by omega))
        refine A.skip (Same.refl _) fun acc e => ?_
        rw [e, filter_next hn, if_neg (fun z => c (of_decide_eq_true z)), List.append_nil]
    · obtain ⟨s1, acc, hA, _, e⟩ := A
      rw [List.take_of_length_le (by rw [iv_len]; exact Nat.le_refl _)] at e
      subst e
      refine ⟨D, _, rfl, .inl (SqL.of hA), ?_⟩
      rw [iv_len]
      exact k H1 (s1.trans same_hid)
end
end Cam
set_option Elab.async false
set_option linter.all false
set_option maxRecDepth 100000
set_option maxHeartbeats 2000000
/-! best_of, nearest_of, evenest_of. -/
namespace Cam
open PySem PySem.Spec PyProof.Rows L2
abbrev sBest : Stmt := top 15
abbrev sNearest : Stmt := top 16
abbrev sEvenest : Stmt := top 17
/-- a rated plan stands at x -/
def RatedAt (H : Hp) (x : V) (d : Rated) : Prop := ∃ t p, x = .ref t ∧ H t = some (.tup [.int (d.1 : Nat), .int (d.2.1 : Nat), .ref p]) ∧ H p = some (.lst (iv d.2.2))
theorem RatedAt.mono {H H' : Hp} {x : V} {d : Rated} (s : Same H H') (h : RatedAt H x d) : RatedAt H' x d := by
  obtain ⟨t, p, e, h1, h2⟩ := h
  exact ⟨t, p, e, s _ _ h1, s _ _ h2⟩
/-- an answer's numbers -/
def ov (a : Uw42.Ans) : List V := (Uw42Neutral.out a).map V.int
theorem ov_best (l f c : Nat) (p : List Nat) : [V.int (l : Int), V.int (f : Int), V.int (c : Int)] ++ iv p = ov ⟨(l : Nat), f :: c :: p⟩ := by
  show _ = V.int (l : Int) :: ((f :: c :: p).map fun n : Nat => (n : Int)).map V.int
  rw [← iv_ints]
  rfl
theorem dec_v (a b : Nat) : decide (V.int (a : Int) = V.int (b : Int)) = decide (a = b) := by
  rw [Bool.eq_iff_iff]
  simp only [decide_eq_true_eq]
  exact ⟨fun h => by injection h with h; omega, fun h => by rw [h]⟩
/-- an attribute list of a Box, in the order in which __init__ sets them -/
def bF (p : Nat) (l w : Addr) : List (Str × V) := [("places", .int (p : Int)), ("cams", .ref l), ("wished", .ref w)]
theorem lk_here {k : Str} {v : V} {r : List (Str × V)} : List.lookup k ((k, v) :: r) = some v := by
  have e : (k == k) = true := beq_self_eq_true k
  simp only [List.lookup, e]
theorem lk_past {k g : Str} {v : V} {r : List (Str × V)} (h : (k == g) = false) : List.lookup k ((g, v) :: r) = List.lookup k r := by
  simp only [List.lookup, h]
theorem bF_places (p : Nat) (l w : Addr) : (bF p l w).lookup ("places" : Str) = some (.int (p : Int)) := lk_here
theorem bF_cams (p : Nat) (l w : Addr) : (bF p l w).lookup ("cams" : Str) = some (.ref l) := (lk_past (by decide +kernel)).trans lk_here
theorem bF_wished (p : Nat) (l w : Addr) : (bF p l w).lookup ("wished" : Str) = some (.ref w) := (lk_past (by decide +kernel)).trans ((lk_past (by decide +kernel)).trans lk_here)
/-- the box b stands at a -/
def BoxAt (C : Addr) (H : Hp) (a : Addr) (b : Uw42.Box) : Prop := ∃ (dx l w : Addr) (xs : List V), H a = some (.ins C dx (bF b.places l w)) ∧ H l = some (.lst xs) ∧ Each (CamAt H) xs b.cams ∧ H w = some (.lst (iv b.wish))
theorem BoxAt.mono {C : Addr} {H H' : Hp} {a : Addr} {b : Uw42.Box} (s : Same H H') (h : BoxAt C H a b) : BoxAt C H' a b := by
  obtain ⟨dx, l, w, xs, h1, h2, h3, h4⟩ := h
  exact ⟨dx, l, w, xs, s _ _ h1, s _ _ h2, h3.mono fun x d q => q.mono s, s _ _ h4⟩
/-- what the top has written of the class -/
structure Txt (K : PySem.W.Frag) (mg : Str → Option Value) (C : Addr) : Prop where
  cl : Cls K C
  nP : NoAttr K C "places"
  nC : NoAttr K C "cams"
  nW : NoAttr K C "wished"
  mgC : mg "Box" = some (.ref C)
section
variable {P : Program} {w : World} {K : PySem.W.Frag} {mg : Str → Option Value} {base : Heap}
/-! ### best_of -/
def gTri (K : PySem.W.Frag) : TG := gTup K 3 (gCons (gName 4) (gCons (gName 5) (gCons (gName 6) gNil)))
def spBest : Sp := fun vs H Q _ => ∃ (a : Addr) (xs : List V) (r : List Rated), vs = [.ref a] ∧ H a = some (.lst xs) ∧ Each (RatedAt H) xs r ∧ r ≠ [] ∧ r.length ≤ 100000 ∧ (∀ d ∈ r, d.2.2.length ≤ 1000) ∧
  ∀ (H' : Hp) (p : Addr), Same H H' → H p = none → H' p = some (.lst (ov (Uw42.toldBest (r.foldl bstep none)))) → Q (.ref p) H'
abbrev nBest : List Str := ["rated", "least", "fewest", "as_good", "off", "many", "plan"]
abbrev oBest : List (Str × Nat) := [("off", 4), ("many", 5), ("plan", 6)]
theorem scBest : FnScope nBest ["rated"] (defScope sBest) := ⟨rfl, rfl, rfl, by decide +kernel, rfl, by decide +kernel, by decide +kernel⟩
theorem map_next {α β : Type} {l : List α} {f : α → β} {i : Nat} {x : α} (h : l[i]? = some x) : (l.take (i + 1)).map f = (l.take i).map f ++ [f x] := by
  rw [take_snoc h, List.map_append]
  rfl
theorem filter_ne {α : Type} {l : List α} {f : α → Bool} {x : α} (h : x ∈ l) (hf : f x = true) : 0 < (l.filter f).length := List.length_pos_of_mem (List.mem_filter.mpr ⟨h, hf⟩)
theorem ok_best {f : Addr} {fd : FuncData} (F : Fun K "best_of" "best_of" sBest f fd) (N : Nm mg) : FnOk P w K mg base CX0 1 f fd ["rated"] spBest := by
  refine F.ok scBest (fun vs H Q E h => ?_) (fun cdv A outer s H vs Q E hr h => ?_)
  · obtain ⟨a, xs, r, rfl, _⟩ := h
    rfl
  · obtain ⟨a, xs, r, rfl, ha, hE, hne, hsz, hpl, k⟩ := h
    refine ⟨_, pss_cons (ps_set (i := 1) scBest.nd rfl (Or.inr rfl) (pe_callB (cr_min rfl) (by rfl) N.min boot_min (pa_cons
        (pe_lc (own := oBest) (g := gTri K) (te := tVar 4) rfl scBest.nd (pi_list (pv 0)) (blkOk_by (own := oBest) (N := nBest) (sc := defScope sBest) (by decide +kernel))
          (fun _ _ _ _ _ => pg_tup rfl (pgs_cons (pg_name (i := 4) scBest.nd rfl (Or.inl rfl)) (pgs_cons (pg_name (i := 5) scBest.nd rfl (Or.inl rfl)) (pgs_cons (pg_name (i := 6) scBest.nd rfl (Or.inl rfl)) pgs_nil))))
          (fun _ _ _ _ _ => pts_nil) (fun _ _ _ _ _ => pv 4)) pa_nil)))
      (pss_cons (ps_set (i := 2) scBest.nd rfl (Or.inr rfl) (pe_callB (cr_min rfl) (by rfl) N.min boot_min (pa_cons
        (pe_lc (own := oBest) (g := gTri K) (tt := tTest (tOp rEq (tVar 4) (tVar 1))) (te := tVar 5) rfl scBest.nd (pi_list (pv 0)) (blkOk_by (own := oBest) (N := nBest) (sc := defScope sBest) (by decide +kernel))
          (fun _ _ _ _ _ => pg_tup rfl (pgs_cons (pg_name (i := 4) scBest.nd rfl (Or.inl rfl)) (pgs_cons (pg_name (i := 5) scBest.nd rfl (Or.inl rfl)) (pgs_cons (pg_name (i := 6) scBest.nd rfl (Or.inl rfl)) pgs_nil))))
          (fun _ _ _ _ _ => pts_one (pt_cmpR op_eq (pv 4) (pv 1) (nomark _))) (fun _ _ _ _ _ => pv 5)) pa_nil)))
      (pss_cons (ps_setLc (i := 3) (own := oBest) (g := gTri K) (tt := tAnd (tTest (tOp rEq (tVar 4) (tVar 1))) (tTest (tOp rEq (tVar 5) (tVar 2)))) (te := tVar 6) rfl scBest.nd rfl rfl (sw_true rfl rfl rfl (by decide +kernel))
          (pi_list (pv 0)) (blkOk_by (own := oBest) (N := nBest) (sc := defScope sBest) (by decide +kernel))
          (fun _ _ _ _ _ => pg_tup rfl (pgs_cons (pg_name (i := 4) scBest.nd rfl (Or.inl rfl)) (pgs_cons (pg_name (i := 5) scBest.nd rfl (Or.inl rfl)) (pgs_cons (pg_name (i := 6) scBest.nd rfl (Or.inl rfl)) pgs_nil))))
          (fun _ _ _ _ _ => pts_one (PW.pt (pw_and (pt_cmpR op_eq (pv 4) (pv 1) (nomark _)) (pw_and1 (pt_cmpR op_eq (pv 5) (pv 2) (nomark _)))))) (fun _ _ _ _ _ => pv 6))
      (pss_one (ps_ret (pe_op op_cat (pe_lst (pa_cons (pv 1) (pa_cons (pv 2) (pa_cons (pe_callB call_len_seq (by rfl) N.len PySem.boot_len (pa_cons (pv 3) pa_nil)) pa_nil)))) (pe_ix ix_list (pv 3) pe_int (fun _ _ => rfl))))))), ?_⟩
    have hx : xs.length = r.length := hE.len
    -- least
    refine ⟨_, rfl, a, rfl, ⟨_, SqL.of ha⟩, fun D hD => lc_it (walk_list (xs := xs))
      (Acc H D fun i _ acc => acc = iv ((r.take i).map (·.1))) (Acc.start hD rfl) (fun i H' _ A => SqL.of (A.all _ _ ha)) (fun i x H1 H2 hi A y => ?_) (fun H1 A => ?_)⟩
    · obtain ⟨rfl, g⟩ := y
      obtain ⟨d, hd, t, p, rfl, ht, hp⟩ := hE.get g
      refine ⟨t, _, rfl, SqT.of (A.all _ _ ht), rfl, _, _, rfl, _, _, rfl, _, _, rfl, rfl, rfl, ?_⟩
      refine ⟨_, rfl, A.next (Same.refl _) (size_small (by omega)) fun acc e => ?_⟩
      rw [e, map_next hd, iv_append]
      rfl
    obtain ⟨s1, acc, hA, _, e⟩ := A
    rw [List.take_of_length_le (by omega)] at e
    subst e
    have s1 : Same H H1 := s1.trans same_hid
    have hpos : 0 < r.length := List.length_pos_iff.mpr hne
    refine ⟨D, (r.map (·.1)).map fun n : Nat => (n : Int), rfl, SqL.of (by rw [← iv_ints]; exact hA), by rw [List.length_map, List.length_map]; exact hpos, fun lz hl1 hl2 => ?_⟩
    obtain ⟨least, hleast, rfl⟩ := List.mem_map.mp hl1
    have hle : ∀ y ∈ r.map (·.1), least ≤ y := fun y m => by
      have := hl2 (y : Int) (List.mem_map.mpr ⟨y, m, rfl⟩)
      omega
    -- fewest
    refine ⟨_, rfl, a, rfl, ⟨_, SqL.of (s1 _ _ ha)⟩, fun D2 hD2 => lc_it (walk_list (xs := xs))
      (Acc H1 D2 fun i _ acc => acc = iv (((r.take i).filter fun y => decide (y.1 = least)).map (·.2.1))) (Acc.start hD2 rfl) (fun i H' _ A => SqL.of (A.all _ _ (s1 _ _ ha))) (fun i x H2 H3 hi A y => ?_) (fun H2 A => ?_)⟩
    · obtain ⟨rfl, g⟩ := y
      obtain ⟨d, hd, t, p, rfl, ht, hp⟩ := hE.get g
      refine ⟨t, _, rfl, SqT.of (A.all _ _ (s1 _ _ ht)), rfl, _, _, rfl, _, _, rfl, _, _, rfl, rfl, rfl, ?_⟩
      refine ⟨_, rfl, _, rfl, rfl, _, rfl, ite2 (fun c => ?_) (fun c => ?_)⟩
      · rw [dec_v] at c
        refine ⟨_, rfl, A.next (Same.refl _) (size_small (by omega)) fun acc e => ?_⟩
        rw [e, filter_next hd, if_pos c, List.map_append, iv_append]
        rfl
      · rw [dec_v] at c
        refine A.skip (Same.refl _) fun acc e => ?_
        rw [e, filter_next hd, if_neg c, List.append_nil]
    obtain ⟨s2, acc, hA2, _, e⟩ := A
    rw [List.take_of_length_le (by omega)] at e
    subst e
    have s2 : Same H H2 := s1.trans (s2.trans same_hid)
    obtain ⟨y0, hy0, ey0⟩ := List.mem_map.mp hleast
    refine ⟨D2, ((r.filter fun y => decide (y.1 = least)).map (·.2.1)).map fun n : Nat => (n : Int), rfl, SqL.of (by rw [← iv_ints]; exact hA2), by rw [List.length_map, List.length_map]; exact filter_ne hy0 (decide_eq_true ey0), fun fz hf1 hf2 => ?_⟩
    obtain ⟨fewest, hfew, rfl⟩ := List.mem_map.mp hf1
    have hfe : ∀ y ∈ (r.filter fun y => decide (y.1 = least)).map (·.2.1), fewest ≤ y := fun y m => by
      have := hf2 (y : Int) (List.mem_map.mpr ⟨y, m, rfl⟩)
      omega
    -- as_good
    refine ⟨_, rfl, a, rfl, ⟨_, SqL.of (s2 _ _ ha)⟩, fun D3 hD3 => lc_it (walk_list (xs := xs))
      (Acc H2 D3 fun i h acc => Each (CamAt h) acc (good (r.take i) least fewest)) (Acc.start hD3 Each.nil) (fun i H' _ A => SqL.of (A.all _ _ (s2 _ _ ha))) (fun i x H3 H4 hi A y => ?_) (fun H3 A => ?_)⟩
    · obtain ⟨rfl, g⟩ := y
      obtain ⟨d, hd, t, p, rfl, ht, hp⟩ := hE.get g
      refine ⟨t, _, rfl, SqT.of (A.all _ _ (s2 _ _ ht)), rfl, _, _, rfl, _, _, rfl, _, _, rfl, rfl, rfl, ?_⟩
      have skip : (decide (d.1 = least) && decide (d.2.1 = fewest)) = false → Acc H2 D3 (fun i h acc => Each (CamAt h) acc (good (r.take i) least fewest)) (i + 1) H4 := fun c => A.skip (Same.refl _) fun acc e => by
        have eg : good (r.take (i + 1)) least fewest = good (r.take i) least fewest := by
          unfold good
          rw [filter_next hd, if_neg (by rw [c]; exact Bool.false_ne_true), List.append_nil]
        rw [eg]
        exact e
      refine ⟨_, rfl, _, rfl, rfl, _, rfl, ite2 (fun c => ?_) (fun c => ?_)⟩
      · rw [dec_v] at c
        refine ⟨_, rfl, _, rfl, rfl, _, rfl, ite2 (fun c2 => ?_) (fun c2 => ?_)⟩
        · rw [dec_v] at c2
          refine ⟨_, rfl, A.next (Same.refl _) (size_small (by omega)) fun acc e => ?_⟩
          have eg : good (r.take (i + 1)) least fewest = good (r.take i) least fewest ++ [d.2.2] := by
            unfold good
            rw [filter_next hd, if_pos (by rw [c, c2]; rfl), List.map_append]
            rfl
          rw [eg]
          exact e.snoc ⟨p, rfl, A.same _ _ (s2 _ _ hp)⟩
        · rw [dec_v] at c2
          exact skip (by rw [Bool.eq_false_iff.mpr c2, Bool.and_false])
      · rw [dec_v] at c
        exact iteF (skip (by rw [Bool.eq_false_iff.mpr c, Bool.false_and]))
    obtain ⟨s3, acc, hA3, _, hG⟩ := A
    rw [List.take_of_length_le (by omega)] at hG
    have s3 : Same H H3 := s2.trans (s3.trans same_hid)
    have hG : Each (CamAt H3) acc (good r least fewest) := hG.mono fun x d q => q.mono same_hid
    obtain ⟨plan, hplan, etold⟩ := best_told hleast hle hfew hfe
    have h0 : 0 < acc.length := by
      rw [hG.len]
      exact (List.getElem?_eq_some_iff.mp hplan).1
    have g0 : acc[0]? = some acc[0] := List.getElem?_eq_getElem h0
    obtain ⟨pl, hpl2, c0, hc0, hpc⟩ := hG.get g0
    rw [hplan] at hpl2
    obtain rfl := Option.some.inj hpl2
    have hplen : plan.length ≤ 1000 := by
      have m : plan ∈ good r least fewest := List.mem_of_getElem? hplan
      unfold good at m
      obtain ⟨d, hd, rfl⟩ := List.mem_map.mp m
      exact hpl d (List.mem_filter.mp hd).1
    -- return [least, fewest, len(as_good)] + as_good[0]
    refine ⟨_, rfl, _, rfl, _, rfl, D3, _, rfl, .inl (SqL.of hA3), (by show 3 ≤ sizeLine; decide), fun n1 hn1 => ?_⟩
    refine ⟨_, rfl, D3, acc, _, acc[0], rfl, rfl, SqL.of (same_upd hn1 _ _ hA3), at_of (j := 0) rfl g0, ?_⟩
    rw [hc0]
    refine ⟨n1, c0, _, _, rfl, rfl, upd_same, same_upd hn1 _ _ hpc, by rw [iv_len]; exact Nat.le_of_lt (size_small (by show 3 + _ ≤ _; omega)), fun n2 hn2 => ?_⟩
    refine k _ n2 (s3.trans ((same_upd hn1).trans (same_upd hn2))) (s3.free ((same_upd hn1).free hn2)) ?_
    rw [upd_same, etold, ← ov_best, hG.len]
end
end Cam
set_option Elab.async false
set_option linter.all false
set_option maxRecDepth 100000
set_option maxHeartbeats 2000000
/-! nearest_of, evenest_of. -/
namespace Cam
open PySem PySem.Spec PyProof.Rows L2
theorem rate_at {f : List Nat → Nat} {cams : List (List Nat)} {places i : Nat} {d : PM} (h : (allPlans cams places)[i]? = some d) : (rate f cams places)[i]? = some (f d.2, camsOn d.1 places, d.1) := by
  unfold rate
  rw [List.getElem?_map, h]
  rfl
theorem rate_len (f : List Nat → Nat) (cams : List (List Nat)) (places : Nat) : (rate f cams places).length = (allPlans cams places).length := by
  unfold rate
  rw [List.length_map]
theorem plans_len {b : Uw42.Box} (o : Ok b) : (allPlans b.cams b.places).length ≤ 6561 ∧ 0 < (allPlans b.cams b.places).length := by
  rw [allPlans_eq o.cam, List.length_map, rows_length]
  exact ⟨pow_bound o.hi o.many, Nat.pow_pos (Nat.succ_pos _)⟩
theorem plans_mem {b : Uw42.Box} (o : Ok b) {d : PM} (h : d ∈ allPlans b.cams b.places) : d.2.length = b.places ∧ d.1.length ≤ 4 := by
  refine ⟨allPlans_good o.cam d h, ?_⟩
  have := plans_plan (n := 0) b.cams _ (fun b m => by rw [List.mem_singleton.mp m]; exact Nat.le_refl _) d h
  have := o.many
  omega
section
variable {P : Program} {w : World} {K : PySem.W.Frag} {mg : Str → Option Value} {base : Heap}

/-! ### nearest_of -/
def spNearest (C : Addr) : Sp := fun vs H Q _ => ∃ (a : Addr) (b : Uw42.Box), vs = [.ref a] ∧ BoxAt C H a b ∧ Ok b ∧
  ∀ (H' : Hp) (p : Addr), Same H H' → H p = none → H' p = some (.lst (ov (Uw42.toldBest b.nearest))) → Q (.ref p) H'
theorem scNearest : FnScope ["box", "plans", "plan", "motion"] ["box"] (defScope sNearest) := ⟨rfl, rfl, rfl, by decide +kernel, rfl, by decide +kernel, by decide +kernel⟩
theorem ok_nearest {f f1 f2 f3 f4 C : Addr} {fd fd1 fd2 fd3 fd4 : FuncData} (F : Fun K "nearest_of" "nearest_of" sNearest f fd) (T : Txt K mg C)
    (F1 : Fun K "all_plans" "all_plans" sAllPlans f1 fd1) (m1 : mg "all_plans" = some (.ref f1)) (b1 : Binds K fd1 ["cams", "places"] []) (G1 : FnOk P w K mg base CX0 4 f1 fd1 ["cams", "places"] spAllPlans)
    (F2 : Fun K "off_in_all" "off_in_all" sOffAll f2 fd2) (m2 : mg "off_in_all" = some (.ref f2)) (b2 : Binds K fd2 ["motion", "wished"] []) (G2 : FnOk P w K mg base CX0 2 f2 fd2 ["motion", "wished"] spOffAll)
    (F3 : Fun K "cams_on" "cams_on" sCamsOn f3 fd3) (m3 : mg "cams_on" = some (.ref f3)) (b3 : Binds K fd3 ["plan", "places"] []) (G3 : FnOk P w K mg base CX0 1 f3 fd3 ["plan", "places"] spCamsOn)
    (F4 : Fun K "best_of" "best_of" sBest f4 fd4) (m4 : mg "best_of" = some (.ref f4)) (b4 : Binds K fd4 ["rated"] []) (G4 : FnOk P w K mg base CX0 1 f4 fd4 ["rated"] spBest) :
    FnOk P w K mg base CX0 5 f fd ["box"] (spNearest C) := by
  refine F.ok scNearest (fun vs H Q E h => ?_) (fun cdv A outer s H vs Q E hr h => ?_)
  · obtain ⟨a, b, rfl, _⟩ := h
    rfl
  · obtain ⟨a, b, rfl, hB, o, k⟩ := h
    have hr1 : Room 1 _ := hr.mono (by decide)
    have hr2 : Room 2 _ := hr.mono (by decide)
    refine ⟨_, pss_cons (ps_set (i := 1) scNearest.nd rfl (Or.inl rfl) (pe_call G1 hr (by rfl) m1 F1.kp b1 .nil pass0 (pa_cons (pe_fld (pv 0) rfl) (pa_cons (pe_fld (pv 0) rfl) pa_nil))))
      (pss_one (ps_ret (pe_call G4 hr1 (by rfl) m4 F4.kp b4 .nil pass0 (pa_cons
        (pe_lc (own := [("plan", 2), ("motion", 3)]) (g := gTup K 2 (gCons (gName 2) (gCons (gName 3) gNil)))
          (te := tTup (tCons (tCall spOffAll [] E0 (tCons (tVar 3) (tCons (tFld K (tVar 0) "wished") tNil))) (tCons (tCall spCamsOn [] E0 (tCons (tVar 2) (tCons (tFld K (tVar 0) "places") tNil))) (tCons (tVar 2) tNil))))
          rfl scNearest.nd (pi_list (pv 1)) (blkOk_by (own := [("plan", 2), ("motion", 3)]) (N := ["box", "plans", "plan", "motion"]) (sc := defScope sNearest) (by decide +kernel))
          (fun _ _ _ _ _ => pg_tup rfl (pgs_cons (pg_name (i := 2) scNearest.nd rfl (Or.inl rfl)) (pgs_cons (pg_name (i := 3) scNearest.nd rfl (Or.inl rfl)) pgs_nil)))
          (fun _ _ _ _ _ => pts_nil)
          (fun _ _ _ _ _ => pe_tup (pa_cons (pe_call G2 hr2 (by rfl) m2 F2.kp b2 .nil pass0 (pa_cons (pv 3) (pa_cons (pe_fld (pv 0) rfl) pa_nil)))
            (pa_cons (pe_call G3 hr1 (by rfl) m3 F3.kp b3 .nil pass0 (pa_cons (pv 2) (pa_cons (pe_fld (pv 0) rfl) pa_nil))) (pa_cons (pv 2) pa_nil))))) pa_nil)))), ?_⟩
    obtain ⟨dx, l, w', xs, hi, hl, hc, hw⟩ := hB
    have oP := o.hi
    have oL := o.lo
    have oW := o.wish
    -- plans = all_plans(box.cams, box.places)
    refine ⟨_, rfl, a, C, dx, _, _, rfl, hi, T.cl, T.nC, bF_cams _ _ _, _, rfl, a, C, dx, _, _, rfl, hi, T.cl, T.nP, bF_places _ _ _, ?_⟩
    refine ⟨l, xs, b.cams, b.places, rfl, hl, hc, oP, o.many, o.cam, fun H1 q ys s1 hq hY => ?_⟩
    have hyl : ys.length = (allPlans b.cams b.places).length := hY.len
    have hbd := plans_len o
    -- the rated plans
    refine ⟨_, rfl, q, rfl, ⟨_, SqL.of hq⟩, fun D hD => lc_it (walk_list (xs := ys))
      (Acc H1 D fun i h acc => Each (RatedAt h) acc ((rate (Uw42.off b.wish) b.cams b.places).take i)) (Acc.start hD Each.nil) (fun i H' _ A => SqL.of (A.all _ _ hq)) (fun i x H2 H3 hi2 A y => ?_) (fun H2 A => ?_)⟩
    · obtain ⟨rfl, g⟩ := y
      obtain ⟨d, hd, t, p, m, rfl, ht, hp, hm⟩ := hY.get g
      obtain ⟨d2, d1⟩ := plans_mem o (List.mem_of_getElem? hd)
      have s2 := A.all
      have s3 := s1.trans s2
      refine ⟨t, _, rfl, SqT.of (s2 _ _ ht), rfl, _, _, rfl, _, _, rfl, rfl, rfl, ?_⟩
      refine ⟨_, rfl, _, rfl, a, C, dx, _, _, rfl, s3 _ _ hi, T.cl, T.nW, bF_wished _ _ _, ?_⟩
      refine ⟨m, w', d.2, b.wish, rfl, s2 _ _ hm, s3 _ _ hw, by rw [d2, oW], by omega,  fun H4 s4 => ?_⟩
      refine ⟨_, rfl, _, rfl, a, C, dx, _, _, rfl, s4 _ _ (s3 _ _ hi), T.cl, T.nP, bF_places _ _ _, ?_⟩
      refine ⟨p, d.1, b.places, rfl, s4 _ _ (s2 _ _ hp), by omega, fun H5 s5 => ?_⟩
      refine ⟨_, rfl, (by show 3 ≤ sizeLine; decide), fun n hn => ?_⟩
      have s6 := (s4.trans s5).trans (same_upd (o := HO.tup [V.int ((Uw42.off b.wish d.2 : Nat) : Int), V.int ((camsOn d.1 b.places : Nat) : Int), V.ref p]) hn)
      refine A.next s6 (size_small (by omega)) fun acc e => ?_
      obtain ⟨hAs, _, hAD, _, _⟩ := A
      rw [take_snoc (rate_at hd)]
      refine (e.mono fun x d q => q.mono (hid_same s6 D)).snoc ⟨n, p, rfl, ?_, ?_⟩
      · rw [hid_ne (ne_free ((s4.trans s5).free hn) hAD), upd_same]
      · exact hid_same s6 D _ _ (hAs _ _ hp)
    obtain ⟨s2, acc, hA, _, hR⟩ := A
    rw [List.take_of_length_le (by rw [rate_len, hyl]; exact Nat.le_refl _)] at hR
    have hne : rate (Uw42.off b.wish) b.cams b.places ≠ [] := fun z => by
      have := rate_len (Uw42.off b.wish) b.cams b.places
      rw [z, List.length_nil] at this
      omega
    refine ⟨D, acc, _, rfl, hA, hR.mono fun x d q => q.mono same_hid, hne, by rw [rate_len]; omega, fun d m => ?_, fun H3 p s3 hp e => ?_⟩
    · unfold rate at m
      obtain ⟨d', hd', rfl⟩ := List.mem_map.mp m
      have := (plans_mem o hd').2
      show d'.1.length ≤ 1000
      omega
    · have s4 := s1.trans (s2.trans same_hid)
      refine k H3 p (s4.trans s3) (s4.free hp) ?_
      show H3 p = some (.lst (ov (Uw42.toldBest (b.bestBy (Uw42.off b.wish)))))
      rw [bestBy_eq o]
      exact e

/-! ### evenest_of -/
def spEvenest (C : Addr) : Sp := fun vs H Q _ => ∃ (a : Addr) (b : Uw42.Box), vs = [.ref a] ∧ BoxAt C H a b ∧ Ok b ∧
  ∀ (H' : Hp) (p : Addr), Same H H' → H p = none → H' p = some (.lst (ov (Uw42.toldBest b.evenest))) → Q (.ref p) H'
theorem scEvenest : FnScope ["box", "plans", "plan", "motion"] ["box"] (defScope sEvenest) := ⟨rfl, rfl, rfl, by decide +kernel, rfl, by decide +kernel, by decide +kernel⟩
theorem ok_evenest {f f1 f2 f3 f4 C : Addr} {fd fd1 fd2 fd3 fd4 : FuncData} (F : Fun K "evenest_of" "evenest_of" sEvenest f fd) (T : Txt K mg C)
    (F1 : Fun K "all_plans" "all_plans" sAllPlans f1 fd1) (m1 : mg "all_plans" = some (.ref f1)) (b1 : Binds K fd1 ["cams", "places"] []) (G1 : FnOk P w K mg base CX0 4 f1 fd1 ["cams", "places"] spAllPlans)
    (F2 : Fun K "off_at_worst" "off_at_worst" sOffWorst f2 fd2) (m2 : mg "off_at_worst" = some (.ref f2)) (b2 : Binds K fd2 ["motion", "wished"] []) (G2 : FnOk P w K mg base CX0 2 f2 fd2 ["motion", "wished"] spOffWorst)
    (F3 : Fun K "cams_on" "cams_on" sCamsOn f3 fd3) (m3 : mg "cams_on" = some (.ref f3)) (b3 : Binds K fd3 ["plan", "places"] []) (G3 : FnOk P w K mg base CX0 1 f3 fd3 ["plan", "places"] spCamsOn)
    (F4 : Fun K "best_of" "best_of" sBest f4 fd4) (m4 : mg "best_of" = some (.ref f4)) (b4 : Binds K fd4 ["rated"] []) (G4 : FnOk P w K mg base CX0 1 f4 fd4 ["rated"] spBest) :
    FnOk P w K mg base CX0 5 f fd ["box"] (spEvenest C) := by
  refine F.ok scEvenest (fun vs H Q E h => ?_) (fun cdv A outer s H vs Q E hr h => ?_)
  · obtain ⟨a, b, rfl, _⟩ := h
    rfl
  · obtain ⟨a, b, rfl, hB, o, k⟩ := h
    have hr1 : Room 1 _ := hr.mono (by decide)
    have hr2 : Room 2 _ := hr.mono (by decide)
    refine ⟨_, pss_cons (ps_set (i := 1) scEvenest.nd rfl (Or.inl rfl) (pe_call G1 hr (by rfl) m1 F1.kp b1 .nil pass0 (pa_cons (pe_fld (pv 0) rfl) (pa_cons (pe_fld (pv 0) rfl) pa_nil))))
      (pss_one (ps_ret (pe_call G4 hr1 (by rfl) m4 F4.kp b4 .nil pass0 (pa_cons
        (pe_lc (own := [("plan", 2), ("motion", 3)]) (g := gTup K 2 (gCons (gName 2) (gCons (gName 3) gNil)))
          (te := tTup (tCons (tCall spOffWorst [] E0 (tCons (tVar 3) (tCons (tFld K (tVar 0) "wished") tNil))) (tCons (tCall spCamsOn [] E0 (tCons (tVar 2) (tCons (tFld K (tVar 0) "places") tNil))) (tCons (tVar 2) tNil))))
          rfl scEvenest.nd (pi_list (pv 1)) (blkOk_by (own := [("plan", 2), ("motion", 3)]) (N := ["box", "plans", "plan", "motion"]) (sc := defScope sEvenest) (by decide +kernel))
          (fun _ _ _ _ _ => pg_tup rfl (pgs_cons (pg_name (i := 2) scEvenest.nd rfl (Or.inl rfl)) (pgs_cons (pg_name (i := 3) scEvenest.nd rfl (Or.inl rfl)) pgs_nil)))
          (fun _ _ _ _ _ => pts_nil)
          (fun _ _ _ _ _ => pe_tup (pa_cons (pe_call G2 hr2 (by rfl) m2 F2.kp b2 .nil pass0 (pa_cons (pv 3) (pa_cons (pe_fld (pv 0) rfl) pa_nil)))
            (pa_cons (pe_call G3 hr1 (by rfl) m3 F3.kp b3 .nil pass0 (pa_cons (pv 2) (pa_cons (pe_fld (pv 0) rfl) pa_nil))) (pa_cons (pv 2) pa_nil))))) pa_nil)))), ?_⟩
    obtain ⟨dx, l, w', xs, hi, hl, hc, hw⟩ := hB
    have oP := o.hi
    have oL := o.lo
    have oW := o.wish
    -- plans = all_plans(box.cams, box.places)
    refine ⟨_, rfl, a, C, dx, _, _, rfl, hi, T.cl, T.nC, bF_cams _ _ _, _, rfl, a, C, dx, _, _, rfl, hi, T.cl, T.nP, bF_places _ _ _, ?_⟩
    refine ⟨l, xs, b.cams, b.places, rfl, hl, hc, oP, o.many, o.cam, fun H1 q ys s1 hq hY => ?_⟩
    have hyl : ys.length = (allPlans b.cams b.places).length := hY.len
    have hbd := plans_len o
    -- the rated plans
    refine ⟨_, rfl, q, rfl, ⟨_, SqL.of hq⟩, fun D hD => lc_it (walk_list (xs := ys))
      (Acc H1 D fun i h acc => Each (RatedAt h) acc ((rate (Uw42.worst b.wish) b.cams b.places).take i)) (Acc.start hD Each.nil) (fun i H' _ A => SqL.of (A.all _ _ hq)) (fun i x H2 H3 hi2 A y => ?_) (fun H2 A => ?_)⟩
    · obtain ⟨rfl, g⟩ := y
      obtain ⟨d, hd, t, p, m, rfl, ht, hp, hm⟩ := hY.get g
      obtain ⟨d2, d1⟩ := plans_mem o (List.mem_of_getElem? hd)
      have s2 := A.all
      have s3 := s1.trans s2
      refine ⟨t, _, rfl, SqT.of (s2 _ _ ht), rfl, _, _, rfl, _, _, rfl, rfl, rfl, ?_⟩
      refine ⟨_, rfl, _, rfl, a, C, dx, _, _, rfl, s3 _ _ hi, T.cl, T.nW, bF_wished _ _ _, ?_⟩
      refine ⟨m, w', d.2, b.wish, rfl, s2 _ _ hm, s3 _ _ hw, by rw [d2, oW], by omega, by omega, fun H4 s4 => ?_⟩
      refine ⟨_, rfl, _, rfl, a, C, dx, _, _, rfl, s4 _ _ (s3 _ _ hi), T.cl, T.nP, bF_places _ _ _, ?_⟩
      refine ⟨p, d.1, b.places, rfl, s4 _ _ (s2 _ _ hp), by omega, fun H5 s5 => ?_⟩
      refine ⟨_, rfl, (by show 3 ≤ sizeLine; decide), fun n hn => ?_⟩
      have s6 := (s4.trans s5).trans (same_upd (o := HO.tup [V.int ((Uw42.worst b.wish d.2 : Nat) : Int), V.int ((camsOn d.1 b.places : Nat) : Int), V.ref p]) hn)
      refine A.next s6 (size_small (by omega)) fun acc e => ?_
      obtain ⟨hAs, _, hAD, _, _⟩ := A
      rw [take_snoc (rate_at hd)]
      refine (e.mono fun x d q => q.mono (hid_same s6 D)).snoc ⟨n, p, rfl, ?_, ?_⟩
      · rw [hid_ne (ne_free ((s4.trans s5).free hn) hAD), upd_same]
      · exact hid_same s6 D _ _ (hAs _ _ hp)
    obtain ⟨s2, acc, hA, _, hR⟩ := A
    rw [List.take_of_length_le (by rw [rate_len, hyl]; exact Nat.le_refl _)] at hR
    have hne : rate (Uw42.worst b.wish) b.cams b.places ≠ [] := fun z => by
      have := rate_len (Uw42.worst b.wish) b.cams b.places
      rw [z, List.length_nil] at this
      omega
    refine ⟨D, acc, _, rfl, hA, hR.mono fun x d q => q.mono same_hid, hne, by rw [rate_len]; omega, fun d m => ?_, fun H3 p s3 hp e => ?_⟩
    · unfold rate at m
      obtain ⟨d', hd', rfl⟩ := List.mem_map.mp m
      have := (plans_mem o hd').2
      show d'.1.length ≤ 1000
      omega
    · have s4 := s1.trans (s2.trans same_hid)
      refine k H3 p (s4.trans s3) (s4.free hp) ?_
      show H3 p = some (.lst (ov (Uw42.toldBest (b.bestBy (Uw42.worst b.wish)))))
      rw [bestBy_eq o]
      exact e
end
end Cam
set_option Elab.async false
set_option linter.all false
set_option maxRecDepth 100000
set_option maxHeartbeats 2000000
/-! are_heights; the Box's methods. -/
namespace Cam
open PySem PySem.Spec PyProof.Rows L2
abbrev sHeights : Stmt := top 27
abbrev sInit : Stmt := inClass (top 28) 0
abbrev sBegins : Stmt := inClass (top 28) 1
abbrev sTakes : Stmt := inClass (top 28) 2
abbrev sWishes : Stmt := inClass (top 28) 3
/-- the constants -/
structure Cs (mg : Str → Option Value) : Prop where
  least : ∃ t, mg "LEAST_PLACES" = some (.int 2 t)
  most : ∃ t, mg "MOST_PLACES" = some (.int 8 t)
  cams : ∃ t, mg "MOST_CAMS" = some (.int 4 t)
  cam : ∃ t, mg "HIGHEST_CAM" = some (.int 100 t)
  wish : ∃ t, mg "HIGHEST_WISH" = some (.int 400 t)
  done : ∃ t, mg "DONE" = some (.int 0 t)
  notso : ∃ t, mg "NOT_SO" = some (.int (-1) t)
  many : ∃ t, mg "TOO_MANY" = some (.int (-5) t)
def rLeI : R2 := rI0 fun i j => .bl (decide (i ≤ j))
theorem put_here {f : Str} {v x : V} {r : List (Str × V)} : putF f v ((f, x) :: r) = (f, v) :: r := if_pos rfl
theorem put_past {f g : Str} {v x : V} {r : List (Str × V)} (h : ¬ g = f) : putF f v ((g, x) :: r) = (g, x) :: putF f v r := if_neg h
theorem put_places (p n : Nat) (l w : Addr) : putF "places" (.int (n : Int)) (bF p l w) = bF n l w := put_here
theorem put_cams (p : Nat) (l w l' : Addr) : putF "cams" (.ref l') (bF p l w) = bF p l' w := (put_past (by decide +kernel)).trans (congrArg _ put_here)
theorem put_wished (p : Nat) (l w w' : Addr) : putF "wished" (.ref w') (bF p l w) = bF p l w' := (put_past (by decide +kernel)).trans (congrArg _ ((put_past (by decide +kernel)).trans (congrArg _ put_here)))
theorem put_new (p : Nat) (l w : Addr) : putF "wished" (.ref w) (putF "cams" (.ref l) (putF "places" (.int (p : Int)) [])) = bF p l w := by
  have e1 : putF "places" (V.int (p : Int)) [] = [(("places" : Str), V.int (p : Int))] := rfl
  have e2 : putF "cams" (V.ref l) [(("places" : Str), V.int (p : Int))] = [(("places" : Str), V.int (p : Int)), (("cams" : Str), V.ref l)] := (put_past (by decide +kernel)).trans rfl
  rw [e1, e2]
  exact (put_past (by decide +kernel)).trans (congrArg _ ((put_past (by decide +kernel)).trans rfl))
/-- what is wanted of a call: the box is as r tells, all else stands, the answer is a new list -/
def Done (C : Addr) (H : Hp) (a D : Addr) (r : Uw42.Box × Uw42.Ans) (Q : VK) : Prop :=
  ∀ (H' : Hp) (p : Addr), BoxAt C (hid H' D) a r.1 → (∀ c u, H c = some u → c ≠ a → H' c = some u) → H p = none → H' p = some (.lst (ov r.2)) → Q (.ref p) H'
theorem Done.pure {C : Addr} {H H' : Hp} {a D p : Addr} {b : Uw42.Box} {s : Uw42.Ans} {Q : VK} (k : Done C H a D (b, s) Q) (hB : BoxAt C (hid H D) a b) (sm : Same H H') (hp : H p = none) (e : H' p = some (.lst (ov s))) : Q (.ref p) H' :=
  k H' p (hB.mono (hid_same sm D)) (fun c u h _ => sm c u h) hp e
section
variable {P : Program} {w : World} {K : PySem.W.Frag} {mg : Str → Option Value} {base : Heap}
/-! ### are_heights -/
def spHeights : Sp := fun vs H Q _ => ∃ (a : Addr) (ns : List Nat) (p h : Nat), vs = [.ref a, .int (p : Int), .int (h : Int)] ∧ H a = some (.lst (iv ns)) ∧ ns.length ≤ 1000 ∧
  ∀ H' : Hp, Same H H' → Q (.bl (ns.length == p && ns.all fun n => decide (n ≤ h))) H'
theorem scHeights : FnScope ["numbers", "places", "highest", "number"] ["numbers", "places", "highest"] (defScope sHeights) := ⟨rfl, rfl, rfl, by decide +kernel, rfl, by decide +kernel, by decide +kernel⟩
theorem all_bl (ns : List Nat) (f : Nat → Bool) : (ns.map f).all id = ns.all f := by
  rw [List.all_map]
  rfl
theorem ok_heights {f : Addr} {fd : FuncData} (F : Fun K "are_heights" "are_heights" sHeights f fd) (N : Nm mg) : FnOk P w K mg base CX0 1 f fd ["numbers", "places", "highest"] spHeights := by
  refine F.ok scHeights (fun vs H Q E h => ?_) (fun cdv A outer s H vs Q E hr h => ?_)
  · obtain ⟨a, ns, p, h, rfl, _⟩ := h
    rfl
  · obtain ⟨a, ns, p, h, rfl, ha, hsz, k⟩ := h
    refine ⟨_, pss_one (ps_ret (pe_and (pe_cmpR op_eq (pe_callB call_len_seq (by rfl) N.len PySem.boot_len (pa_cons (pv 0) pa_nil)) (pv 1) (nomark _)) (pe_one (pe_callB (cr_all rfl) (by rfl) N.all boot_all (pa_cons
      (pe_lc (own := [("number", 3)]) (g := gName 3) (te := tOp rLeI (tVar 3) (tVar 2)) rfl scHeights.nd (pi_list (pv 0)) (blkOk_by (own := [("number", 3)]) (N := ["numbers", "places", "highest", "number"]) (sc := defScope sHeights) (by decide +kernel))
        (fun _ _ _ _ _ => pg_name (i := 3) scHeights.nd rfl (Or.inl rfl)) (fun _ _ _ _ _ => pts_nil) (fun _ _ _ _ _ => pe_cmpR op_le (pv 3) (pv 2) (nomark _))) pa_nil))))), ?_⟩
    refine ⟨_, rfl, a, _, rfl, .inl (SqL.of ha), _, rfl, rfl, _, rfl, ite2 (fun c => ?_) (fun c => ?_)⟩
    · rw [iv_len, dec_v] at c
      have c : ns.length = p := of_decide_eq_true c
      refine ⟨_, rfl, a, rfl, ⟨_, SqL.of ha⟩, fun D hD => lc_it (walk_list (xs := iv ns))
        (Acc H D fun i _ acc => acc = ((ns.take i).map fun n => decide (n ≤ h)).map V.bl) (Acc.start hD rfl) (fun i H' _ A => SqL.of (A.all _ _ ha)) (fun i x H1 H2 hi A y => ?_) (fun H1 A => ?_)⟩
      · obtain ⟨rfl, g⟩ := y
        obtain ⟨n, hn, rfl⟩ := iv_get g
        rw [iv_len] at hi
        refine ⟨rfl, _, rfl, _, rfl, _, _, rfl, rfl, A.next (Same.refl _) (size_small (by omega)) fun acc e => ?_⟩
        have e2 : decide ((n : Int) ≤ (h : Int)) = decide (n ≤ h) := by
          rw [Bool.eq_iff_iff, decide_eq_true_eq, decide_eq_true_eq]
          omega
        rw [e, map_next hn, List.map_append]
        show _ ++ [V.bl (decide ((n : Int) ≤ (h : Int)))] = _
        rw [e2]
        rfl
      · obtain ⟨s1, acc, hA, _, e⟩ := A
        rw [List.take_of_length_le (by rw [iv_len]; exact Nat.le_refl _)] at e
        subst e
        refine ⟨D, _, rfl, SqL.of hA, ?_⟩
        have q := k H1 (s1.trans same_hid)
        rw [c, beq_self_eq_true, Bool.true_and] at q
        rw [all_bl]
        exact q
    · rw [iv_len, dec_v] at c
      have q := k H (Same.refl _)
      have e : (ns.length == p) = false := by
        rw [beq_eq_false_iff_ne]
        exact fun z => c (decide_eq_true z)
      rw [e, Bool.false_and] at q
      exact q

/-! ### __init__ -/
def spInit (C : Addr) : Sp := fun vs H Q _ => ∃ (p dx : Addr), vs = [.ref p] ∧ H p = some (.ins C dx []) ∧ ∀ H' : Hp, BoxAt C H' p Uw42.init → (∀ b o, H b = some o → b ≠ p → H' b = some o) → Q .non H'
theorem scInit : FnScope ["self"] ["self"] (defScope sInit) := ⟨rfl, rfl, rfl, by decide +kernel, rfl, by decide +kernel, by decide +kernel⟩
theorem ok_init {f C : Addr} {fd : FuncData} (F : Fun K "__init__" "Box.__init__" sInit f fd) (T : Txt K mg C) (S : Cs mg) : FnOk P w K mg base CX0 1 f fd ["self"] (spInit C) := by
  refine F.ok scInit (fun vs H Q E h => ?_) (fun cdv A outer s H vs Q E hr h => ?_)
  · obtain ⟨p, dx, rfl, _⟩ := h
    rfl
  · obtain ⟨p, dx, rfl, hp, k⟩ := h
    obtain ⟨t, ht⟩ := S.least
    refine ⟨_, pss_cons (ps_fld (pv 0) (pe_glob (v := .int 2) (by rfl) ht ⟨_, rfl⟩) rfl) (pss_cons (ps_fld (pv 0) (pe_lst pa_nil) rfl)
      (pss_one (ps_fld (pv 0) (pe_op op_rep (pe_lst (pa_cons pe_int pa_nil)) (pe_glob (v := .int 2) (by rfl) ht ⟨_, rfl⟩)) rfl))), ?_⟩
    refine ⟨_, rfl, p, C, dx, [], rfl, hp, T.cl, T.nP, (by show 0 < 1000; decide), ?_⟩
    refine ⟨Nat.zero_le _, fun l hl => ?_⟩
    have nlp : l ≠ p := ne_free hl upd_same
    refine ⟨_, rfl, p, C, dx, _, rfl, (by rw [upd_ne nlp.symm, upd_same]), T.cl, T.nC, (by show 1 < 1000; decide), ?_⟩
    refine ⟨(by show 1 ≤ sizeLine; decide), fun z hz => ?_⟩
    refine ⟨z, 2, _, rfl, rfl, upd_same, by decide, by decide, (by show 2 ≤ sizeLine; decide), fun w' hw => ?_⟩
    have nzp : z ≠ p := ne_free hz upd_same
    have nw : ∀ {b o}, upd (upd (upd (upd H p (.ins C dx (putF "places" (.int 2) []))) l (.lst [])) p (.ins C dx (putF "cams" (.ref l) (putF "places" (.int 2) [])))) z (.lst [.int 0]) b = some o → w' ≠ b := fun h => ne_free hw h
    have nwp : w' ≠ p := nw (by rw [upd_ne nzp.symm, upd_same])
    have nzl : z ≠ l := ne_free hz (by rw [upd_ne nlp, upd_same])
    have nwl : w' ≠ l := nw (by rw [upd_ne nzl.symm, upd_ne nlp, upd_same])
    refine ⟨_, rfl, p, C, dx, _, rfl, (by rw [upd_ne nwp.symm, upd_ne nzp.symm, upd_same]), T.cl, T.nW, (by show 2 < 1000; decide), ?_⟩
    refine k _ ⟨dx, l, w', [], ?_, ?_, Each.nil, ?_⟩ fun b o e hb => ?_
    · rw [upd_same]
      exact congrArg (fun q => some (HO.ins C dx q)) (put_new 2 l w')
    · rw [upd_ne nlp, upd_ne nwl.symm, upd_ne nzl.symm, upd_ne nlp, upd_same]
    · rw [upd_ne nwp, upd_same]
      rfl
    · have e1 : upd H p (.ins C dx (putF "places" (.int 2) [])) b = some o := by rw [upd_ne hb]; exact e
      have e2 := same_upd (o := HO.lst []) hl _ _ e1
      have e3 : upd (upd (upd H p (.ins C dx (putF "places" (.int 2) []))) l (.lst [])) p (.ins C dx (putF "cams" (.ref l) (putF "places" (.int 2) []))) b = some o := by rw [upd_ne hb]; exact e2
      rw [upd_ne hb]
      exact same_upd hw _ _ (same_upd hz _ _ e3)

/-! ### begins -/
def spBegins (C : Addr) : Sp := fun vs H Q _ => ∃ (a D : Addr) (b : Uw42.Box) (n : Nat) (u : HO), vs = [.ref a, .int (n : Int)] ∧ BoxAt C (hid H D) a b ∧ H D = some u ∧ Done C H a D (Uw42.step b (.begins n)) Q
theorem scBegins : FnScope ["self", "places"] ["self", "places"] (defScope sBegins) := ⟨rfl, rfl, rfl, by decide +kernel, rfl, by decide +kernel, by decide +kernel⟩
theorem ok_begins {f C : Addr} {fd : FuncData} (F : Fun K "begins" "Box.begins" sBegins f fd) (T : Txt K mg C) (S : Cs mg) : FnOk P w K mg base CX0 1 f fd ["self", "places"] (spBegins C) := by
  refine F.ok scBegins (fun vs H Q E h => ?_) (fun cdv A outer s H vs Q E hr h => ?_)
  · obtain ⟨a, D, b, n, u, rfl, _⟩ := h
    rfl
  · obtain ⟨a, D, b, n, u, rfl, hB, hD, k⟩ := h
    obtain ⟨t1, c1⟩ := S.least
    obtain ⟨t2, c2⟩ := S.most
    obtain ⟨t3, c3⟩ := S.notso
    obtain ⟨t4, c4⟩ := S.done
    refine ⟨_, pss_cons (ps_if (pt_not (pt_chain op_le op_le (pe_glob (v := .int 2) (by rfl) c1 ⟨_, rfl⟩) (pv 1) (pe_glob (v := .int 8) (by rfl) c2 ⟨_, rfl⟩))) (pss_one (ps_ret (pe_lst (pa_cons (pe_glob (v := .int (-1)) (by rfl) c3 ⟨_, rfl⟩) pa_nil)))) pss_nil)
      (pss_cons (ps_fld (pv 0) (pv 1) rfl) (pss_cons (ps_fld (pv 0) (pe_lst pa_nil) rfl)
      (pss_cons (ps_fld (pv 0) (pe_op op_rep (pe_lst (pa_cons pe_int pa_nil)) (pv 1)) rfl) (pss_one (ps_ret (pe_lst (pa_cons (pe_glob (v := .int 0) (by rfl) c4 ⟨_, rfl⟩) pa_nil))))))), ?_⟩
    have bad : (n < 2 ∨ 8 < n) → ∀ p, H p = none → Q (.ref p) (upd H p (.lst [.int (-1)])) := fun c p hp => by
      have e : Uw42.step b (.begins n) = (b, Uw42.ok (-1)) := if_pos c
      rw [e] at k
      exact k.pure hB (same_upd hp) hp upd_same
    refine ⟨_, rfl, _, _, rfl, rfl, _, rfl, ite2 (fun d1 => ?_) (fun d1 => ?_)⟩
    · refine ⟨_, _, rfl, rfl, _, rfl, ite2 (fun d2 => ?_) (fun d2 => ?_)⟩
      · refine ⟨(by show 1 ≤ sizeLine; decide), fun p hp => bad (.inr ?_) p hp⟩
        rw [Bool.not_eq_true', decide_eq_false_iff_not] at d2
        omega
      · have d1 := of_decide_eq_true d1
        have h8 : n ≤ 8 := by
          rw [Bool.not_eq_true', decide_eq_false_iff_not] at d2
          omega
        have h2 : 2 ≤ n := by omega
        have e : Uw42.step b (.begins n) = (⟨n, [], List.replicate n 0⟩, Uw42.ok 0) := if_neg (show ¬ (n < 2 ∨ 8 < n) by omega)
        rw [e] at k
        obtain ⟨dx, l0, w0, xs0, hi, _, _, _⟩ := hB
        obtain ⟨hi, nD⟩ := hid_get hi
        -- self.places = places
        refine ⟨_, rfl, _, rfl, a, C, dx, _, rfl, hi, T.cl, T.nP, (by show 3 < 1000; decide), ?_⟩
        rw [put_places]
        -- self.cams = []
        refine ⟨Nat.zero_le _, fun l hl => ?_⟩
        have nla : l ≠ a := ne_free hl upd_same
        refine ⟨_, rfl, a, C, dx, _, rfl, (by rw [upd_ne nla.symm, upd_same]), T.cl, T.nC, (by show 3 < 1000; decide), ?_⟩
        rw [put_cams]
        -- self.wished = [0] * places
        refine ⟨(by show 1 ≤ sizeLine; decide), fun z hz => ?_⟩
        have nza : z ≠ a := ne_free hz upd_same
        have nzl : z ≠ l := ne_free hz (by rw [upd_ne nla, upd_same])
        refine ⟨_, rfl, z, _, _, rfl, rfl, upd_same, by omega, by omega, ?_, fun w' hw => ?_⟩
        · show 1 * _ ≤ _
          rw [Int.toNat_natCast]
          exact Nat.le_of_lt (size_small (by omega))
        rw [iv_still]
        have nwa : w' ≠ a := ne_free hw (by rw [upd_ne nza.symm, upd_same])
        have nwl : w' ≠ l := ne_free hw (by rw [upd_ne nzl.symm, upd_ne nla, upd_same])
        refine ⟨_, rfl, a, C, dx, _, rfl, (by rw [upd_ne nwa.symm, upd_ne nza.symm, upd_same]), T.cl, T.nW, (by show 3 < 1000; decide), ?_⟩
        rw [put_wished]
        -- what stood
        have st : ∀ c u, H c = some u → c ≠ a → upd (upd (upd (upd (upd (upd H a (.ins C dx (bF n l0 w0))) l (.lst [])) a (.ins C dx (bF n l w0))) z (.lst [.int 0])) w' (.lst (iv (List.replicate n 0)))) a (.ins C dx (bF n l w')) c = some u := fun c u h hc => by
          have e1 : upd H a (.ins C dx (bF n l0 w0)) c = some u := by rw [upd_ne hc]; exact h
          have e3 : upd (upd (upd H a (.ins C dx (bF n l0 w0))) l (.lst [])) a (.ins C dx (bF n l w0)) c = some u := by rw [upd_ne hc]; exact same_upd hl _ _ e1
          rw [upd_ne hc]
          exact same_upd hw _ _ (same_upd hz _ _ e3)
        have f1 : upd (upd (upd (upd (upd (upd H a (.ins C dx (bF n l0 w0))) l (.lst [])) a (.ins C dx (bF n l w0))) z (.lst [.int 0])) w' (.lst (iv (List.replicate n 0)))) a (.ins C dx (bF n l w')) a = some (.ins C dx (bF n l w')) := upd_same
        have f2 : upd (upd (upd (upd (upd (upd H a (.ins C dx (bF n l0 w0))) l (.lst [])) a (.ins C dx (bF n l w0))) z (.lst [.int 0])) w' (.lst (iv (List.replicate n 0)))) a (.ins C dx (bF n l w')) l = some (.lst []) := by
          rw [upd_ne nla, upd_ne nwl.symm, upd_ne nzl.symm, upd_ne nla, upd_same]
        have f3 : upd (upd (upd (upd (upd (upd H a (.ins C dx (bF n l0 w0))) l (.lst [])) a (.ins C dx (bF n l w0))) z (.lst [.int 0])) w' (.lst (iv (List.replicate n 0)))) a (.ins C dx (bF n l w')) w' = some (.lst (iv (List.replicate n 0))) := by
          rw [upd_ne nwa, upd_same]
        have dD : D ≠ a := nD.symm
        have dl : l ≠ D := ne_free hl (by rw [upd_ne dD]; exact hD)
        have dz : z ≠ D := ne_free hz (by rw [upd_ne dD, upd_ne dl.symm, upd_ne dD]; exact hD)
        have dw : w' ≠ D := ne_free hw (by rw [upd_ne dz.symm, upd_ne dD, upd_ne dl.symm, upd_ne dD]; exact hD)
        generalize upd (upd (upd (upd (upd (upd H a (.ins C dx (bF n l0 w0))) l (.lst [])) a (.ins C dx (bF n l w0))) z (.lst [.int 0])) w' (.lst (iv (List.replicate n 0)))) a (.ins C dx (bF n l w')) = H6 at st f1 f2 f3 ⊢
        -- return [DONE]
        refine ⟨(by show 1 ≤ sizeLine; decide), fun p hp => ?_⟩
        have hpH : H p = none := by
          cases q : H p with
          | none => rfl
          | some u =>
            have := st p u q (ne_free hp f1)
            rw [this] at hp
            cases hp
        have sp : Same H6 (upd H6 p (.lst [.int 0])) := same_upd hp
        refine k _ p ⟨dx, l, w', [], ?_, ?_, Each.nil, ?_⟩ (fun c u h hc => sp _ _ (st c u h hc)) hpH upd_same
        · rw [hid_ne nD]
          exact sp _ _ f1
        · rw [hid_ne dl]
          exact sp _ _ f2
        · rw [hid_ne dw]
          exact sp _ _ f3
    · refine ⟨_, rfl, iteT ?_⟩
      refine ⟨(by show 1 ≤ sizeLine; decide), fun p hp => bad (.inl ?_) p hp⟩
      have : ¬ (2 : Int) ≤ (n : Int) := fun z => d1 (decide_eq_true z)
      omega
end
end Cam
set_option Elab.async false
set_option linter.all false
set_option maxRecDepth 100000
set_option maxHeartbeats 2000000
/-! takes, wishes; is_plan, told_of_sum, told_of. -/
namespace Cam
open PySem PySem.Spec PyProof.Rows L2
abbrev sIsPlan : Stmt := top 38
abbrev sToldSum : Stmt := top 39
abbrev sToldOf : Stmt := top 40
structure Cc (mg : Str → Option Value) : Prop where
  begins : ∃ t, mg "BEGINS" = some (.int 0 t)
  cam : ∃ t, mg "CAM" = some (.int 1 t)
  wish : ∃ t, mg "WISH" = some (.int 2 t)
  sum : ∃ t, mg "SUM" = some (.int 3 t)
  nearest : ∃ t, mg "NEAREST" = some (.int 4 t)
theorem not_true {b : Bool} (h : (!b) = true) : b = false := by
  cases b with
  | false => rfl
  | true => cases h
theorem not_not_true {b : Bool} (h : ¬ (!b) = true) : b = true := by
  cases b with
  | false => exact absurd rfl h
  | true => rfl
section
variable {P : Program} {w : World} {K : PySem.W.Frag} {mg : Str → Option Value} {base : Heap}
/-! ### takes -/
def spTakes (C : Addr) : Sp := fun vs H Q _ => ∃ (a D c : Addr) (b : Uw42.Box) (ns : List Nat) (u : HO), vs = [.ref a, .ref c] ∧ BoxAt C (hid H D) a b ∧ Ok b ∧ H c = some (.lst (iv ns)) ∧ ns.length ≤ 1000 ∧ H D = some u ∧ Done C H a D (Uw42.step b (.cam ns)) Q
theorem scTakes : FnScope ["self", "heights"] ["self", "heights"] (defScope sTakes) := ⟨rfl, rfl, rfl, by decide +kernel, rfl, by decide +kernel, by decide +kernel⟩
theorem ok_takes {f f1 C : Addr} {fd fd1 : FuncData} (F : Fun K "takes" "Box.takes" sTakes f fd) (T : Txt K mg C) (N : Nm mg) (S : Cs mg)
    (F1 : Fun K "are_heights" "are_heights" sHeights f1 fd1) (m1 : mg "are_heights" = some (.ref f1)) (b1 : Binds K fd1 ["numbers", "places", "highest"] []) : FnOk P w K mg base CX0 2 f fd ["self", "heights"] (spTakes C) := by
  have G1 : FnOk P w K mg base CX0 1 f1 fd1 ["numbers", "places", "highest"] spHeights := ok_heights F1 N
  refine F.ok scTakes (fun vs H Q E h => ?_) (fun cdv A outer s H vs Q E hr h => ?_)
  · obtain ⟨a, D, c, b, ns, u, rfl, _⟩ := h
    rfl
  · obtain ⟨a, D, c, b, ns, u, rfl, hB, o, hc, hsz, hD, k⟩ := h
    obtain ⟨t1, c1⟩ := S.cam
    obtain ⟨t2, c2⟩ := S.cams
    obtain ⟨t3, c3⟩ := S.notso
    obtain ⟨t4, c4⟩ := S.many
    refine ⟨_, pss_cons (ps_if (pt_not (pt_val (pe_call G1 hr (by rfl) m1 F1.kp b1 .nil pass0 (pa_cons (pv 1) (pa_cons (pe_fld (pv 0) rfl) (pa_cons (pe_glob (v := .int 100) (by rfl) c1 ⟨_, rfl⟩) pa_nil)))))) (pss_one (ps_ret (pe_lst (pa_cons (pe_glob (v := .int (-1)) (by rfl) c3 ⟨_, rfl⟩) pa_nil)))) pss_nil)
      (pss_cons (ps_if (pt_cmpR op_eq (pe_callB call_len_seq (by rfl) N.len PySem.boot_len (pa_cons (pe_fld (pv 0) rfl) pa_nil)) (pe_glob (v := .int 4) (by rfl) c2 ⟨_, rfl⟩) (nomark _)) (pss_one (ps_ret (pe_lst (pa_cons (pe_glob (v := .int (-5)) (by rfl) c4 ⟨_, rfl⟩) pa_nil)))) pss_nil)
      (pss_cons (ps_fld (pv 0) (pe_op op_cat (pe_fld (pv 0) rfl) (pe_lst (pa_cons (pe_callTy call_list_of (by rfl) N.list boot_list (pa_cons (pv 1) pa_nil)) pa_nil))) rfl)
      (pss_one (ps_ret (pe_lst (pa_cons (pe_op op_sub (pe_callB call_len_seq (by rfl) N.len PySem.boot_len (pa_cons (pe_fld (pv 0) rfl) pa_nil)) pe_int) pa_nil)))))), ?_⟩
    have hB0 := hB
    obtain ⟨dx, l, w', xs, hi, hl, hE, hw⟩ := hB
    obtain ⟨hi, nD⟩ := hid_get hi
    obtain ⟨hlH, nlD⟩ := hid_get hl
    obtain ⟨hwH, nwD⟩ := hid_get hw
    refine ⟨_, rfl, _, rfl, a, C, dx, _, _, rfl, hi, T.cl, T.nP, bF_places _ _ _, ?_⟩
    refine ⟨c, ns, b.places, 100, rfl, hc, hsz, fun H1 s1 => ⟨_, rfl, ite2 (fun d => ?_) (fun d => ?_)⟩⟩
    · have d := not_true d
      have e : Uw42.step b (.cam ns) = (b, Uw42.ok (-1)) := if_pos d
      rw [e] at k
      exact ⟨(by show 1 ≤ sizeLine; decide), fun p hp => k.pure hB0 (s1.trans (same_upd hp)) (s1.free hp) upd_same⟩
    · have d := not_not_true d
      have d' : ¬ Uw42.fine b Uw42.HIGH ns = false := fun z => by
        have z : (ns.length == b.places && ns.all fun n => decide (n ≤ 100)) = false := z
        rw [d] at z
        cases z
      have xl : xs.length = b.cams.length := hE.len
      have om := o.many
      refine ⟨_, rfl, a, C, dx, _, _, rfl, s1 _ _ hi, T.cl, T.nC, bF_cams _ _ _, l, xs, rfl, .inl (SqL.of (s1 _ _ hlH)), rfl, _, rfl, ite2 (fun d2 => ?_) (fun d2 => ?_)⟩
      · rw [show V.int 4 = V.int ((4 : Nat) : Int) from rfl, dec_v] at d2
        have d2 : xs.length = 4 := of_decide_eq_true d2
        have e : Uw42.step b (.cam ns) = (b, Uw42.ok (-5)) := (if_neg d').trans (if_pos (show 4 ≤ b.cams.length by omega))
        rw [e] at k
        exact ⟨(by show 1 ≤ sizeLine; decide), fun p hp => k.pure hB0 (s1.trans (same_upd hp)) (s1.free hp) upd_same⟩
      · rw [show V.int 4 = V.int ((4 : Nat) : Int) from rfl, dec_v] at d2
        have d2 : ¬ xs.length = 4 := fun z => d2 (decide_eq_true z)
        have e : Uw42.step b (.cam ns) = ({ b with cams := b.cams ++ [ns] }, Uw42.ok (b.cams.length : Nat)) := (if_neg d').trans (if_neg (show ¬ 4 ≤ b.cams.length by omega))
        rw [e] at k
        -- self.cams = self.cams + [list(heights)]
        refine ⟨_, rfl, a, C, dx, _, _, rfl, s1 _ _ hi, T.cl, T.nC, bF_cams _ _ _, ?_⟩
        refine ⟨_, rfl, c, _, rfl, .inl (SqL.of (s1 _ _ hc)), fun n1 hn1 => ⟨(by show 1 ≤ sizeLine; decide), fun n2 hn2 => ?_⟩⟩
        have s2 : Same H1 (upd (upd H1 n1 (.lst (iv ns))) n2 (.lst [.ref n1])) := (same_upd hn1).trans (same_upd hn2)
        refine ⟨l, n2, xs, _, rfl, rfl, s2 _ _ (s1 _ _ hlH), upd_same, Nat.le_of_lt (size_small (by show _ + 1 ≤ _; omega)), fun n3 hn3 => ?_⟩
        have s3 : Same H1 (upd (upd (upd H1 n1 (.lst (iv ns))) n2 (.lst [.ref n1])) n3 (.lst (xs ++ [.ref n1]))) := s2.trans (same_upd hn3)
        have g1 : upd (upd (upd H1 n1 (.lst (iv ns))) n2 (.lst [.ref n1])) n3 (.lst (xs ++ [.ref n1])) n1 = some (.lst (iv ns)) := same_upd hn3 _ _ (same_upd hn2 _ _ upd_same)
        have g3 : upd (upd (upd H1 n1 (.lst (iv ns))) n2 (.lst [.ref n1])) n3 (.lst (xs ++ [.ref n1])) n3 = some (.lst (xs ++ [.ref n1])) := upd_same
        have nn1 : n1 ≠ D := ne_free hn1 (s1 _ _ hD)
        have nn3 : n3 ≠ D := ne_free hn3 (s2 _ _ (s1 _ _ hD))
        generalize upd (upd (upd H1 n1 (.lst (iv ns))) n2 (.lst [.ref n1])) n3 (.lst (xs ++ [.ref n1])) = H2 at s3 g1 g3 ⊢
        have s4 : Same H H2 := s1.trans s3
        refine ⟨_, rfl, a, C, dx, _, rfl, s4 _ _ hi, T.cl, T.nC, (by show 3 < 1000; decide), ?_⟩
        rw [put_cams]
        have na1 : n1 ≠ a := ne_of g1 (s4 _ _ hi) (by intro z; cases z)
        have na3 : n3 ≠ a := ne_of g3 (s4 _ _ hi) (by intro z; cases z)
        -- return [len(self.cams) - 1]
        refine ⟨_, rfl, a, C, dx, _, _, rfl, upd_same, T.cl, T.nC, bF_cams _ _ _, n3, _, rfl, .inl (SqL.of (by rw [upd_ne na3]; exact g3)), _, _, rfl, rfl, (by show 1 ≤ sizeLine; decide), fun p hp => ?_⟩
        have st : ∀ c u, H2 c = some u → c ≠ a → upd H2 a (.ins C dx (bF b.places n3 w')) c = some u := fun c u h hc => by rw [upd_ne hc]; exact h
        have sp : Same (upd H2 a (.ins C dx (bF b.places n3 w'))) (upd (upd H2 a (.ins C dx (bF b.places n3 w'))) p (.lst [V.int (((xs ++ [V.ref n1]).length : Int) - 1)])) := same_upd hp
        have hpH : H p = none := by
          cases q : H p with
          | none => rfl
          | some u =>
            have := st p u (s4 _ _ q) (ne_free hp upd_same)
            rw [this] at hp
            cases hp
        refine k _ p ⟨dx, n3, w', xs ++ [.ref n1], ?_, ?_, ?_, ?_⟩ (fun c u h hc => sp _ _ (st c u (s4 _ _ h) hc)) hpH ?_
        · rw [hid_ne nD]
          exact sp _ _ upd_same
        · rw [hid_ne nn3]
          exact sp _ _ (st _ _ g3 na3)
        · refine (hE.mono fun x d q => ?_).snoc ⟨n1, rfl, ?_⟩
          · obtain ⟨y, rfl, hy⟩ := q
            obtain ⟨hy, nyD⟩ := hid_get hy
            refine ⟨y, rfl, ?_⟩
            rw [hid_ne nyD]
            exact sp _ _ (st _ _ (s4 _ _ hy) (ne_of hy hi (by intro z; cases z)))
          · rw [hid_ne nn1]
            exact sp _ _ (st _ _ g1 na1)
        · rw [hid_ne nwD]
          exact sp _ _ (st _ _ (s4 _ _ hwH) (ne_of hwH hi (by intro z; cases z)))
        · rw [upd_same]
          have e2 : (((xs ++ [V.ref n1]).length : Int) - 1) = ((b.cams.length : Nat) : Int) := by
            rw [List.length_append, List.length_singleton]
            omega
          show some (HO.lst [V.int (((xs ++ [V.ref n1]).length : Int) - 1)]) = _
          rw [e2]
          rfl

/-! ### wishes -/
def spWishes (C : Addr) : Sp := fun vs H Q _ => ∃ (a D c : Addr) (b : Uw42.Box) (ns : List Nat) (u : HO), vs = [.ref a, .ref c] ∧ BoxAt C (hid H D) a b ∧ H c = some (.lst (iv ns)) ∧ ns.length ≤ 1000 ∧ H D = some u ∧ Done C H a D (Uw42.step b (.wish ns)) Q
theorem scWishes : FnScope ["self", "heights"] ["self", "heights"] (defScope sWishes) := ⟨rfl, rfl, rfl, by decide +kernel, rfl, by decide +kernel, by decide +kernel⟩
theorem ok_wishes {f f1 C : Addr} {fd fd1 : FuncData} (F : Fun K "wishes" "Box.wishes" sWishes f fd) (T : Txt K mg C) (N : Nm mg) (S : Cs mg)
    (F1 : Fun K "are_heights" "are_heights" sHeights f1 fd1) (m1 : mg "are_heights" = some (.ref f1)) (b1 : Binds K fd1 ["numbers", "places", "highest"] []) : FnOk P w K mg base CX0 2 f fd ["self", "heights"] (spWishes C) := by
  have G1 : FnOk P w K mg base CX0 1 f1 fd1 ["numbers", "places", "highest"] spHeights := ok_heights F1 N
  refine F.ok scWishes (fun vs H Q E h => ?_) (fun cdv A outer s H vs Q E hr h => ?_)
  · obtain ⟨a, D, c, b, ns, u, rfl, _⟩ := h
    rfl
  · obtain ⟨a, D, c, b, ns, u, rfl, hB, hc, hsz, hD, k⟩ := h
    obtain ⟨t1, c1⟩ := S.wish
    obtain ⟨t3, c3⟩ := S.notso
    obtain ⟨t4, c4⟩ := S.done
    refine ⟨_, pss_cons (ps_if (pt_not (pt_val (pe_call G1 hr (by rfl) m1 F1.kp b1 .nil pass0 (pa_cons (pv 1) (pa_cons (pe_fld (pv 0) rfl) (pa_cons (pe_glob (v := .int 400) (by rfl) c1 ⟨_, rfl⟩) pa_nil)))))) (pss_one (ps_ret (pe_lst (pa_cons (pe_glob (v := .int (-1)) (by rfl) c3 ⟨_, rfl⟩) pa_nil)))) pss_nil)
      (pss_cons (ps_fld (pv 0) (pe_callTy call_list_of (by rfl) N.list boot_list (pa_cons (pv 1) pa_nil)) rfl)
      (pss_one (ps_ret (pe_lst (pa_cons (pe_glob (v := .int 0) (by rfl) c4 ⟨_, rfl⟩) pa_nil))))), ?_⟩
    have hB0 := hB
    obtain ⟨dx, l, w', xs, hi, hl, hE, hw⟩ := hB
    obtain ⟨hi, nD⟩ := hid_get hi
    obtain ⟨hlH, nlD⟩ := hid_get hl
    refine ⟨_, rfl, _, rfl, a, C, dx, _, _, rfl, hi, T.cl, T.nP, bF_places _ _ _, ?_⟩
    refine ⟨c, ns, b.places, 400, rfl, hc, hsz, fun H1 s1 => ⟨_, rfl, ite2 (fun d => ?_) (fun d => ?_)⟩⟩
    · have d := not_true d
      have e : Uw42.step b (.wish ns) = (b, Uw42.ok (-1)) := if_pos d
      rw [e] at k
      exact ⟨(by show 1 ≤ sizeLine; decide), fun p hp => k.pure hB0 (s1.trans (same_upd hp)) (s1.free hp) upd_same⟩
    · have d := not_not_true d
      have d' : ¬ Uw42.fine b (Uw42.CAMS * Uw42.HIGH) ns = false := fun z => by
        have z : (ns.length == b.places && ns.all fun n => decide (n ≤ 400)) = false := z
        rw [d] at z
        cases z
      have e : Uw42.step b (.wish ns) = ({ b with wish := ns }, Uw42.ok 0) := if_neg d'
      rw [e] at k
      refine ⟨_, rfl, c, _, rfl, .inl (SqL.of (s1 _ _ hc)), fun n1 hn1 => ?_⟩
      have s4 : Same H (upd H1 n1 (.lst (iv ns))) := s1.trans (same_upd hn1)
      have g1 : upd H1 n1 (.lst (iv ns)) n1 = some (.lst (iv ns)) := upd_same
      have nn1 : n1 ≠ D := ne_free hn1 (s1 _ _ hD)
      generalize upd H1 n1 (.lst (iv ns)) = H2 at s4 g1 ⊢
      refine ⟨_, rfl, a, C, dx, _, rfl, s4 _ _ hi, T.cl, T.nW, (by show 3 < 1000; decide), ?_⟩
      rw [put_wished]
      have na1 : n1 ≠ a := ne_of g1 (s4 _ _ hi) (by intro z; cases z)
      refine ⟨(by show 1 ≤ sizeLine; decide), fun p hp => ?_⟩
      have st : ∀ c u, H2 c = some u → c ≠ a → upd H2 a (.ins C dx (bF b.places l n1)) c = some u := fun c u h hc => by rw [upd_ne hc]; exact h
      have sp : Same (upd H2 a (.ins C dx (bF b.places l n1))) (upd (upd H2 a (.ins C dx (bF b.places l n1))) p (.lst [V.int 0])) := same_upd hp
      have hpH : H p = none := by
        cases q : H p with
        | none => rfl
        | some u =>
          have := st p u (s4 _ _ q) (ne_free hp upd_same)
          rw [this] at hp
          cases hp
      refine k _ p ⟨dx, l, n1, xs, ?_, ?_, ?_, ?_⟩ (fun c u h hc => sp _ _ (st c u (s4 _ _ h) hc)) hpH upd_same
      · rw [hid_ne nD]
        exact sp _ _ upd_same
      · rw [hid_ne nlD]
        exact sp _ _ (st _ _ (s4 _ _ hlH) (ne_of hlH hi (by intro z; cases z)))
      · refine hE.mono fun x d q => ?_
        obtain ⟨y, rfl, hy⟩ := q
        obtain ⟨hy, nyD⟩ := hid_get hy
        refine ⟨y, rfl, ?_⟩
        rw [hid_ne nyD]
        exact sp _ _ (st _ _ (s4 _ _ hy) (ne_of hy hi (by intro z; cases z)))
      · rw [hid_ne nn1]
        exact sp _ _ (st _ _ g1 na1)

/-! ### is_plan -/
def spIsPlan (C : Addr) : Sp := fun vs H Q _ => ∃ (a c : Addr) (b : Uw42.Box) (ns : List Nat), vs = [.ref a, .ref c] ∧ BoxAt C H a b ∧ H c = some (.lst (iv ns)) ∧ ns.length ≤ 1000 ∧ ∀ H' : Hp, Same H H' → Q (.bl (b.told ns)) H'
theorem scIsPlan : FnScope ["box", "plan", "number"] ["box", "plan"] (defScope sIsPlan) := ⟨rfl, rfl, rfl, by decide +kernel, rfl, by decide +kernel, by decide +kernel⟩
theorem ok_isplan {f C : Addr} {fd : FuncData} (F : Fun K "is_plan" "is_plan" sIsPlan f fd) (T : Txt K mg C) (N : Nm mg) : FnOk P w K mg base CX0 1 f fd ["box", "plan"] (spIsPlan C) := by
  refine F.ok scIsPlan (fun vs H Q E h => ?_) (fun cdv A outer s H vs Q E hr h => ?_)
  · obtain ⟨a, c, b, ns, rfl, _⟩ := h
    rfl
  · obtain ⟨a, c, b, ns, rfl, hB, hc, hsz, k⟩ := h
    refine ⟨_, pss_one (ps_ret (pe_and (pe_cmpR op_eq (pe_callB call_len_seq (by rfl) N.len PySem.boot_len (pa_cons (pv 1) pa_nil)) (pe_callB call_len_seq (by rfl) N.len PySem.boot_len (pa_cons (pe_fld (pv 0) rfl) pa_nil)) (nomark _)) (pe_one (pe_callB (cr_all rfl) (by rfl) N.all boot_all (pa_cons
      (pe_lc (own := [("number", 2)]) (g := gName 2) (te := tOp rLeI (tVar 2) (tFld K (tVar 0) "places")) rfl scIsPlan.nd (pi_list (pv 1)) (blkOk_by (own := [("number", 2)]) (N := ["box", "plan", "number"]) (sc := defScope sIsPlan) (by decide +kernel))
        (fun _ _ _ _ _ => pg_name (i := 2) scIsPlan.nd rfl (Or.inl rfl)) (fun _ _ _ _ _ => pts_nil) (fun _ _ _ _ _ => pe_cmpR op_le (pv 2) (pe_fld (pv 0) rfl) (nomark _))) pa_nil))))), ?_⟩
    obtain ⟨dx, l, w', xs, hi, hl, hE, hw⟩ := hB
    refine ⟨_, rfl, c, _, rfl, .inl (SqL.of hc), _, rfl, a, C, dx, _, _, rfl, hi, T.cl, T.nC, bF_cams _ _ _, l, xs, rfl, .inl (SqL.of hl), rfl, _, rfl, ite2 (fun d => ?_) (fun d => ?_)⟩
    · rw [iv_len, hE.len, dec_v] at d
      have d : ns.length = b.cams.length := of_decide_eq_true d
      refine ⟨_, rfl, c, rfl, ⟨_, SqL.of hc⟩, fun D hD => lc_it (walk_list (xs := iv ns))
        (Acc H D fun i _ acc => acc = ((ns.take i).map fun n => decide (n ≤ b.places)).map V.bl) (Acc.start hD rfl) (fun i H' _ A => SqL.of (A.all _ _ hc)) (fun i x H1 H2 hi2 A y => ?_) (fun H1 A => ?_)⟩
      · obtain ⟨rfl, g⟩ := y
        obtain ⟨n, hn, rfl⟩ := iv_get g
        rw [iv_len] at hi2
        refine ⟨rfl, _, rfl, _, rfl, a, C, dx, _, _, rfl, A.all _ _ hi, T.cl, T.nP, bF_places _ _ _, _, _, rfl, rfl, A.next (Same.refl _) (size_small (by omega)) fun acc e => ?_⟩
        have e2 : decide ((n : Int) ≤ (b.places : Int)) = decide (n ≤ b.places) := by
          rw [Bool.eq_iff_iff, decide_eq_true_eq, decide_eq_true_eq]
          omega
        rw [e, map_next hn, List.map_append]
        show _ ++ [V.bl (decide ((n : Int) ≤ (b.places : Int)))] = _
        rw [e2]
        rfl
      · obtain ⟨s1, acc, hA, _, e⟩ := A
        rw [List.take_of_length_le (by rw [iv_len]; exact Nat.le_refl _)] at e
        subst e
        refine ⟨D, _, rfl, SqL.of hA, ?_⟩
        have q := k H1 (s1.trans same_hid)
        unfold Uw42.Box.told at q
        rw [d, beq_self_eq_true, Bool.true_and] at q
        rw [all_bl]
        exact q
    · rw [iv_len, hE.len, dec_v] at d
      have q := k H (Same.refl _)
      unfold Uw42.Box.told at q
      have e : (ns.length == b.cams.length) = false := by
        rw [beq_eq_false_iff_ne]
        exact fun z => d (decide_eq_true z)
      rw [e, Bool.false_and] at q
      exact q
end
end Cam
set_option Elab.async false
set_option linter.all false
set_option maxRecDepth 100000
set_option maxHeartbeats 2000000
/-! told_of_sum, told_of. -/
namespace Cam
open PySem PySem.Spec PyProof.Rows L2
theorem told_le {b : Uw42.Box} {p : List Nat} (h : b.told p = true) : p.length = b.cams.length ∧ ∀ k ∈ p, k ≤ b.places := by
  unfold Uw42.Box.told at h
  rw [Bool.and_eq_true, beq_iff_eq, List.all_eq_true] at h
  exact ⟨h.1, fun k m => of_decide_eq_true (h.2 k m)⟩
/-- a call's place and its numbers, the call of the specification -/
theorem callIn_cases {p : Nat} {ns : List Nat} {x : Uw42.Call} (h : Uw42Neutral.callIn (p :: ns) = some x) :
    (p = 0 ∧ ∃ n, ns = [n] ∧ x = .begins n) ∨ (p = 1 ∧ ns.length ≤ 12 ∧ x = .cam ns) ∨ (p = 2 ∧ ns.length ≤ 12 ∧ x = .wish ns) ∨ (p = 3 ∧ ns.length ≤ 12 ∧ x = .sum ns) ∨ (p = 4 ∧ ns = [] ∧ x = .nearest) ∨ (p = 5 ∧ ns = [] ∧ x = .evenest) := by
  unfold Uw42Neutral.callIn at h
  split at h
  · rename_i n e
    injection e with e1 e2
    exact .inl ⟨e1, n, e2, (Option.some.inj h).symm⟩
  · rename_i l e
    injection e with e1 e2
    subst e2
    split at h
    · exact .inr (.inl ⟨e1, by assumption, (Option.some.inj h).symm⟩)
    · cases h
  · rename_i l e
    injection e with e1 e2
    subst e2
    split at h
    · exact .inr (.inr (.inl ⟨e1, by assumption, (Option.some.inj h).symm⟩))
    · cases h
  · rename_i l e
    injection e with e1 e2
    subst e2
    split at h
    · exact .inr (.inr (.inr (.inl ⟨e1, by assumption, (Option.some.inj h).symm⟩)))
    · cases h
  · rename_i e
    injection e with e1 e2
    exact .inr (.inr (.inr (.inr (.inl ⟨e1, e2, (Option.some.inj h).symm⟩))))
  · rename_i e
    injection e with e1 e2
    exact .inr (.inr (.inr (.inr (.inr ⟨e1, e2, (Option.some.inj h).symm⟩))))
  · cases h
section
variable {P : Program} {w : World} {K : PySem.W.Frag} {mg : Str → Option Value} {base : Heap}
/-! ### told_of_sum -/
def spToldSum (C : Addr) : Sp := fun vs H Q _ => ∃ (a c : Addr) (b : Uw42.Box) (ns : List Nat), vs = [.ref a, .ref c] ∧ BoxAt C H a b ∧ Ok b ∧ H c = some (.lst (iv ns)) ∧ ns.length ≤ 1000 ∧
  ∀ (H' : Hp) (p : Addr), Same H H' → H p = none → H' p = some (.lst (ov (Uw42.step b (.sum ns)).2)) → Q (.ref p) H'
theorem scToldSum : FnScope ["box", "plan", "motion"] ["box", "plan"] (defScope sToldSum) := ⟨rfl, rfl, rfl, by decide +kernel, rfl, by decide +kernel, by decide +kernel⟩
theorem ov_sum (o wst : Nat) (m : List Nat) : [V.int (o : Int), V.int (wst : Int)] ++ iv m = ov ⟨(o : Nat), wst :: m⟩ := by
  show _ = V.int (o : Int) :: ((wst :: m).map fun n : Nat => (n : Int)).map V.int
  rw [← iv_ints]
  rfl
theorem ok_toldsum {f f1 f2 f3 f4 C : Addr} {fd fd1 fd2 fd3 fd4 : FuncData} (F : Fun K "told_of_sum" "told_of_sum" sToldSum f fd) (T : Txt K mg C) (S : Cs mg)
    (F1 : Fun K "is_plan" "is_plan" sIsPlan f1 fd1) (m1 : mg "is_plan" = some (.ref f1)) (b1 : Binds K fd1 ["box", "plan"] []) (G1 : FnOk P w K mg base CX0 1 f1 fd1 ["box", "plan"] (spIsPlan C))
    (F2 : Fun K "motion_of" "motion_of" sMotion f2 fd2) (m2 : mg "motion_of" = some (.ref f2)) (b2 : Binds K fd2 ["cams", "places", "plan"] []) (G2 : FnOk P w K mg base CX0 3 f2 fd2 ["cams", "places", "plan"] spMotion)
    (F3 : Fun K "off_in_all" "off_in_all" sOffAll f3 fd3) (m3 : mg "off_in_all" = some (.ref f3)) (b3 : Binds K fd3 ["motion", "wished"] []) (G3 : FnOk P w K mg base CX0 2 f3 fd3 ["motion", "wished"] spOffAll)
    (F4 : Fun K "off_at_worst" "off_at_worst" sOffWorst f4 fd4) (m4 : mg "off_at_worst" = some (.ref f4)) (b4 : Binds K fd4 ["motion", "wished"] []) (G4 : FnOk P w K mg base CX0 2 f4 fd4 ["motion", "wished"] spOffWorst) :
    FnOk P w K mg base CX0 4 f fd ["box", "plan"] (spToldSum C) := by
  refine F.ok scToldSum (fun vs H Q E h => ?_) (fun cdv A outer s H vs Q E hr h => ?_)
  · obtain ⟨a, c, b, ns, rfl, _⟩ := h
    rfl
  · obtain ⟨a, c, b, ns, rfl, hB, o, hc, hsz, k⟩ := h
    have hr1 : Room 1 _ := hr.mono (by decide)
    have hr2 : Room 2 _ := hr.mono (by decide)
    obtain ⟨t1, c1⟩ := S.notso
    refine ⟨_, pss_cons (ps_if (pt_not (pt_val (pe_call G1 hr1 (by rfl) m1 F1.kp b1 .nil pass0 (pa_cons (pv 0) (pa_cons (pv 1) pa_nil))))) (pss_one (ps_ret (pe_lst (pa_cons (pe_glob (v := .int (-1)) (by rfl) c1 ⟨_, rfl⟩) pa_nil)))) pss_nil)
      (pss_cons (ps_set (i := 2) scToldSum.nd rfl (Or.inl rfl) (pe_call G2 hr (by rfl) m2 F2.kp b2 .nil pass0 (pa_cons (pe_fld (pv 0) rfl) (pa_cons (pe_fld (pv 0) rfl) (pa_cons (pv 1) pa_nil)))))
      (pss_one (ps_ret (pe_op op_cat (pe_lst (pa_cons (pe_call G3 hr2 (by rfl) m3 F3.kp b3 .nil pass0 (pa_cons (pv 2) (pa_cons (pe_fld (pv 0) rfl) pa_nil))) (pa_cons (pe_call G4 hr2 (by rfl) m4 F4.kp b4 .nil pass0 (pa_cons (pv 2) (pa_cons (pe_fld (pv 0) rfl) pa_nil))) pa_nil))) (pv 2))))), ?_⟩
    have oP := o.hi
    have oL := o.lo
    have oW := o.wish
    refine ⟨_, rfl, _, rfl, a, c, b, ns, rfl, hB, hc, hsz, fun H1 s1 => ⟨_, rfl, ite2 (fun d => ?_) (fun d => ?_)⟩⟩
    · have d := not_true d
      have e : Uw42.step b (.sum ns) = (b, Uw42.ok (-1)) := if_pos d
      rw [e] at k
      exact ⟨(by show 1 ≤ sizeLine; decide), fun p hp => k _ p (s1.trans (same_upd hp)) (s1.free hp) upd_same⟩
    · have d := not_not_true d
      have e : Uw42.step b (.sum ns) = (b, ⟨(Uw42.off b.wish (b.sum ns) : Nat), Uw42.worst b.wish (b.sum ns) :: b.sum ns⟩) := if_neg (by rw [d]; exact Bool.noConfusion)
      rw [e, sum_eq o (told_le d).2] at k
      obtain ⟨dx, l, w', xs, hi, hl, hE, hw⟩ := hB
      refine ⟨_, rfl, a, C, dx, _, _, rfl, s1 _ _ hi, T.cl, T.nC, bF_cams _ _ _, _, rfl, a, C, dx, _, _, rfl, s1 _ _ hi, T.cl, T.nP, bF_places _ _ _, _, rfl, ?_⟩
      refine ⟨l, c, xs, b.cams, b.places, ns, rfl, s1 _ _ hl, hE.mono fun x d q => q.mono s1, s1 _ _ hc, by omega, o.cam, fun H2 m s2 hm em => ?_⟩
      have hml : (motionOf b.cams b.places ns).length = b.places := motion_length o.cam ns
      have s12 := s1.trans s2
      refine ⟨_, rfl, _, rfl, a, C, dx, _, _, rfl, s12 _ _ hi, T.cl, T.nW, bF_wished _ _ _, ?_⟩
      refine ⟨m, w', _, _, rfl, em, s12 _ _ hw, by rw [hml, oW], by omega, fun H3 s3 => ?_⟩
      have s13 := s12.trans s3
      refine ⟨_, rfl, _, rfl, a, C, dx, _, _, rfl, s13 _ _ hi, T.cl, T.nW, bF_wished _ _ _, ?_⟩
      refine ⟨m, w', _, _, rfl, s3 _ _ em, s13 _ _ hw, by rw [hml, oW], by omega, by omega, fun H4 s4 => ?_⟩
      have s14 := s13.trans s4
      refine ⟨(by show 2 ≤ sizeLine; decide), fun n1 hn1 => ?_⟩
      refine ⟨_, rfl, n1, m, _, _, rfl, rfl, upd_same, same_upd hn1 _ _ (s4 _ _ (s3 _ _ em)), by rw [iv_len]; exact Nat.le_of_lt (size_small (by show 2 + _ ≤ _; omega)), fun p hp => ?_⟩
      refine k _ p (s14.trans ((same_upd hn1).trans (same_upd hp))) (s14.free ((same_upd hn1).free hp)) ?_
      rw [upd_same, ← ov_sum]

/-! ### told_of -/
def spToldOf (C : Addr) : Sp := fun vs H Q _ => ∃ (a D c : Addr) (b : Uw42.Box) (p : Nat) (ns : List Nat) (u : HO) (x : Uw42.Call), vs = [.ref a, .int (p : Int), .ref c] ∧ BoxAt C (hid H D) a b ∧ Ok b ∧ H c = some (.lst (iv ns)) ∧ H D = some u ∧
  Uw42Neutral.callIn (p :: ns) = some x ∧ Done C H a D (Uw42.step b x) Q
theorem scToldOf : FnScope ["box", "call", "numbers"] ["box", "call", "numbers"] (defScope sToldOf) := ⟨rfl, rfl, rfl, by decide +kernel, rfl, by decide +kernel, by decide +kernel⟩
theorem ok_toldof {f f1 f2 f3 f4 f5 f6 C : Addr} {fd fd1 fd2 fd3 fd4 fd5 fd6 : FuncData} (F : Fun K "told_of" "told_of" sToldOf f fd) (T : Txt K mg C) (S : Cc mg)
    (F1 : Fun K "begins" "Box.begins" sBegins f1 fd1) (e1 : Meth K C "begins" f1) (b1 : Binds K fd1 ["self", "places"] []) (G1 : FnOk P w K mg base CX0 1 f1 fd1 ["self", "places"] (spBegins C))
    (F2 : Fun K "takes" "Box.takes" sTakes f2 fd2) (e2 : Meth K C "takes" f2) (b2 : Binds K fd2 ["self", "heights"] []) (G2 : FnOk P w K mg base CX0 2 f2 fd2 ["self", "heights"] (spTakes C))
    (F3 : Fun K "wishes" "Box.wishes" sWishes f3 fd3) (e3 : Meth K C "wishes" f3) (b3 : Binds K fd3 ["self", "heights"] []) (G3 : FnOk P w K mg base CX0 2 f3 fd3 ["self", "heights"] (spWishes C))
    (F4 : Fun K "told_of_sum" "told_of_sum" sToldSum f4 fd4) (m4 : mg "told_of_sum" = some (.ref f4)) (b4 : Binds K fd4 ["box", "plan"] []) (G4 : FnOk P w K mg base CX0 4 f4 fd4 ["box", "plan"] (spToldSum C))
    (F5 : Fun K "nearest_of" "nearest_of" sNearest f5 fd5) (m5 : mg "nearest_of" = some (.ref f5)) (b5 : Binds K fd5 ["box"] []) (G5 : FnOk P w K mg base CX0 5 f5 fd5 ["box"] (spNearest C))
    (F6 : Fun K "evenest_of" "evenest_of" sEvenest f6 fd6) (m6 : mg "evenest_of" = some (.ref f6)) (b6 : Binds K fd6 ["box"] []) (G6 : FnOk P w K mg base CX0 5 f6 fd6 ["box"] (spEvenest C)) :
    FnOk P w K mg base CX0 6 f fd ["box", "call", "numbers"] (spToldOf C) := by
  refine F.ok scToldOf (fun vs H Q E h => ?_) (fun cdv A outer s H vs Q E hr h => ?_)
  · obtain ⟨a, D, c, b, p, ns, u, x, rfl, _⟩ := h
    rfl
  · obtain ⟨a, D, c, b, p, ns, u, x, rfl, hB, o, hc, hD, hx, k⟩ := h
    have hr1 : Room 1 _ := hr.mono (by decide)
    have hr2 : Room 2 _ := hr.mono (by decide)
    have hr4 : Room 4 _ := hr.mono (by decide)
    obtain ⟨t0, c0⟩ := S.begins
    obtain ⟨t1, c1⟩ := S.cam
    obtain ⟨t2, c2⟩ := S.wish
    obtain ⟨t3, c3⟩ := S.sum
    obtain ⟨t4, c4⟩ := S.nearest
    refine ⟨_, pss_cons (ps_if (pt_cmpR op_eq (pv 1) (pe_glob (v := .int 0) (by rfl) c0 ⟨_, rfl⟩) (nomark _)) (pss_one (ps_ret (pe_meth (pv 0) T.cl e1 G1 hr1 b1 .nil pass0 (pa_cons (pe_ix ix_list (pv 2) pe_int (fun _ _ => rfl)) pa_nil)))) pss_nil)
      (pss_cons (ps_if (pt_cmpR op_eq (pv 1) (pe_glob (v := .int 1) (by rfl) c1 ⟨_, rfl⟩) (nomark _)) (pss_one (ps_ret (pe_meth (pv 0) T.cl e2 G2 hr2 b2 .nil pass0 (pa_cons (pv 2) pa_nil)))) pss_nil)
      (pss_cons (ps_if (pt_cmpR op_eq (pv 1) (pe_glob (v := .int 2) (by rfl) c2 ⟨_, rfl⟩) (nomark _)) (pss_one (ps_ret (pe_meth (pv 0) T.cl e3 G3 hr2 b3 .nil pass0 (pa_cons (pv 2) pa_nil)))) pss_nil)
      (pss_cons (ps_if (pt_cmpR op_eq (pv 1) (pe_glob (v := .int 3) (by rfl) c3 ⟨_, rfl⟩) (nomark _)) (pss_one (ps_ret (pe_call G4 hr4 (by rfl) m4 F4.kp b4 .nil pass0 (pa_cons (pv 0) (pa_cons (pv 2) pa_nil))))) pss_nil)
      (pss_cons (ps_if (pt_cmpR op_eq (pv 1) (pe_glob (v := .int 4) (by rfl) c4 ⟨_, rfl⟩) (nomark _)) (pss_one (ps_ret (pe_call G5 hr (by rfl) m5 F5.kp b5 .nil pass0 (pa_cons (pv 0) pa_nil)))) pss_nil)
      (pss_one (ps_ret (pe_call G6 hr (by rfl) m6 F6.kp b6 .nil pass0 (pa_cons (pv 0) pa_nil)))))))), ?_⟩
    have hB0 := hB
    obtain ⟨dx, l, w', xs, hi, _⟩ := hB
    obtain ⟨hi, nD⟩ := hid_get hi
    have no0 : ∀ {m : Str}, ("places" : Str) ≠ m → ("cams" : Str) ≠ m → ("wished" : Str) ≠ m → (bF b.places l w').lookup m = none := fun h1 h2 h3 =>
      (lk_past (beq_eq_false_iff_ne.mpr (Ne.symm h1))).trans ((lk_past (beq_eq_false_iff_ne.mpr (Ne.symm h2))).trans ((lk_past (beq_eq_false_iff_ne.mpr (Ne.symm h3))).trans rfl))
    have yes : ∀ {j : Nat} {A B : Prop}, p = j → A → if decide (V.int (p : Int) = V.int (j : Int)) = true then A else B := fun h hA => by
      rw [dec_v, decide_eq_true h, if_pos rfl]
      exact hA
    have no : ∀ {j : Nat} {A B : Prop}, p ≠ j → B → if decide (V.int (p : Int) = V.int (j : Int)) = true then A else B := fun h hB => by
      rw [dec_v, decide_eq_false h, if_neg Bool.false_ne_true]
      exact hB
    rcases callIn_cases hx with ⟨hp, n, rfl, rfl⟩ | ⟨hp, hl, rfl⟩ | ⟨hp, hl, rfl⟩ | ⟨hp, hl, rfl⟩ | ⟨hp, _, rfl⟩ | ⟨hp, _, rfl⟩
    · refine ⟨_, rfl, rfl, _, rfl, yes (j := 0) hp ?_⟩
      refine ⟨_, rfl, a, dx, _, rfl, hi, no0 (by decide +kernel) (by decide +kernel) (by decide +kernel), _, rfl, c, _, _, _, rfl, rfl, SqL.of hc, at_of (j := 0) rfl rfl, ?_⟩
      exact ⟨a, D, b, n, u, rfl, hB0, hD, k⟩
    · refine ⟨_, rfl, rfl, _, rfl, no (j := 0) (by omega) ?_⟩
      refine ⟨_, rfl, rfl, _, rfl, yes (j := 1) hp ?_⟩
      refine ⟨_, rfl, a, dx, _, rfl, hi, no0 (by decide +kernel) (by decide +kernel) (by decide +kernel), _, rfl, ?_⟩
      exact ⟨a, D, c, b, ns, u, rfl, hB0, o, hc, by omega, hD, k⟩
    · refine ⟨_, rfl, rfl, _, rfl, no (j := 0) (by omega) ?_⟩
      refine ⟨_, rfl, rfl, _, rfl, no (j := 1) (by omega) ?_⟩
      refine ⟨_, rfl, rfl, _, rfl, yes (j := 2) hp ?_⟩
      refine ⟨_, rfl, a, dx, _, rfl, hi, no0 (by decide +kernel) (by decide +kernel) (by decide +kernel), _, rfl, ?_⟩
      exact ⟨a, D, c, b, ns, u, rfl, hB0, hc, by omega, hD, k⟩
    · refine ⟨_, rfl, rfl, _, rfl, no (j := 0) (by omega) ?_⟩
      refine ⟨_, rfl, rfl, _, rfl, no (j := 1) (by omega) ?_⟩
      refine ⟨_, rfl, rfl, _, rfl, no (j := 2) (by omega) ?_⟩
      refine ⟨_, rfl, rfl, _, rfl, yes (j := 3) hp ?_⟩
      refine ⟨_, rfl, _, rfl, a, c, b, ns, rfl, hB0.mono same_hid, o, hc, by omega, fun H' q sm hq e => ?_⟩
      have e1 : (Uw42.step b (.sum ns)) = (b, (Uw42.step b (.sum ns)).2) := by
        unfold Uw42.step
        dsimp only
        split <;> rfl
      rw [e1] at k
      exact k.pure hB0 sm hq e
    · refine ⟨_, rfl, rfl, _, rfl, no (j := 0) (by omega) ?_⟩
      refine ⟨_, rfl, rfl, _, rfl, no (j := 1) (by omega) ?_⟩
      refine ⟨_, rfl, rfl, _, rfl, no (j := 2) (by omega) ?_⟩
      refine ⟨_, rfl, rfl, _, rfl, no (j := 3) (by omega) ?_⟩
      refine ⟨_, rfl, rfl, _, rfl, yes (j := 4) hp ?_⟩
      exact ⟨_, rfl, a, b, rfl, hB0.mono same_hid, o, fun H' q sm hq e => Done.pure (b := b) k hB0 sm hq e⟩
    · refine ⟨_, rfl, rfl, _, rfl, no (j := 0) (by omega) ?_⟩
      refine ⟨_, rfl, rfl, _, rfl, no (j := 1) (by omega) ?_⟩
      refine ⟨_, rfl, rfl, _, rfl, no (j := 2) (by omega) ?_⟩
      refine ⟨_, rfl, rfl, _, rfl, no (j := 3) (by omega) ?_⟩
      refine ⟨_, rfl, rfl, _, rfl, no (j := 4) (by omega) ?_⟩
      exact ⟨_, rfl, a, b, rfl, hB0.mono same_hid, o, fun H' q sm hq e => Done.pure (b := b) k hB0 sm hq e⟩
end
end Cam
set_option Elab.async false
set_option linter.all false
set_option maxRecDepth 100000
set_option maxHeartbeats 2000000
/-! read_call, read_calls, answers. -/
namespace Cam
open PySem PySem.Spec PyProof.Rows L2
abbrev sReadCall : Stmt := top 35
abbrev sReadCalls : Stmt := top 36
abbrev sAnswers : Stmt := top 41
theorem cut_nat (xs : List V) {i j : Int} {a b : Nat} (hi : i = (a : Int)) (hj : j = (b : Int)) (hab : a ≤ b) (hb : b ≤ xs.length) : cutV xs (some i) (some j) = (xs.drop a).take (b - a) := by
  subst hi hj
  unfold cutV
  rw [show HT.sIx xs.length 0 (some (a : Int)) = min a xs.length from HT.sIx_nat xs.length 0 a, show HT.sIx xs.length xs.length (some (b : Int)) = min b xs.length from HT.sIx_nat xs.length xs.length b, Nat.min_eq_left hb, Nat.min_eq_left (Nat.le_trans hab hb)]
theorem drop_get {α : Type} {l r : List α} {i : Nat} {x : α} (h : l.drop i = x :: r) : l[i]? = some x ∧ l.drop (i + 1) = r ∧ i + 1 ≤ l.length := by
  have e : (l.drop i)[0]? = some x := by rw [h]; rfl
  rw [List.getElem?_drop, Nat.add_zero] at e
  have e2 := (List.getElem?_eq_some_iff.mp e).1
  refine ⟨e, ?_, e2⟩
  rw [← List.drop_drop, h]
  rfl
/-- a call that has been read stands at x -/
def CallAt (H : Hp) (x : V) (wd : List Int) : Prop := ∃ t q p nums, x = .ref t ∧ wd = p :: nums ∧ H t = some (.tup [.int p, .ref q]) ∧ H q = some (.lst (nums.map V.int))
theorem CallAt.mono {H H' : Hp} {x : V} {wd : List Int} (s : Same H H') (h : CallAt H x wd) : CallAt H' x wd := by
  obtain ⟨t, q, p, nums, e, e2, h1, h2⟩ := h
  exact ⟨t, q, p, nums, e, e2, s _ _ h1, s _ _ h2⟩
theorem in_no {p : Int} (h : p ≠ 1 ∧ p ≠ 2 ∧ p ≠ 3) : inV (.int p) [.int 1, .int 2, .int 3] = false := by
  show (((1 : Int) == p) || (((2 : Int) == p) || (((3 : Int) == p) || false))) = false
  rw [beq_eq_false_iff_ne.mpr h.1.symm, beq_eq_false_iff_ne.mpr h.2.1.symm, beq_eq_false_iff_ne.mpr h.2.2.symm]
  rfl
theorem in_yes {p : Int} (h : p = 1 ∨ p = 2 ∨ p = 3) : inV (.int p) [.int 1, .int 2, .int 3] = true := by
  rcases h with rfl | rfl | rfl <;> rfl
section
variable {P : Program} {w : World} {K : PySem.W.Frag} {mg : Str → Option Value} {base : Heap}
/-! ### read_call -/
def spReadCall (K : PySem.W.Frag) : Sp := fun vs H Q _ => ∃ (a : Addr) (ns : List Int) (i : Nat) (p : Int) (r : List Int) (c : List (List Int)) (t : List Int), vs = [.ref a, .int (i : Int)] ∧ SqL K H a (ns.map V.int) ∧ ns.length ≤ 3000 ∧ ns.drop i = p :: r ∧
  PyFlat.call PyUw42.shape (p :: r) = some (c, t) ∧
  ∀ (H' : Hp) (T q : Addr) (nums : List Int) (j : Nat), Same H H' → H T = none → H q = none → H' T = some (.tup [.int p, .ref q, .int (j : Int)]) → H' q = some (.lst (nums.map V.int)) → wrd c = p :: nums → ns.drop j = t → i < j → j ≤ ns.length → Q (.ref T) H'
theorem scReadCall : FnScope ["calls", "at", "call", "first", "behind"] ["calls", "at"] (defScope sReadCall) := ⟨rfl, rfl, rfl, by decide +kernel, rfl, by decide +kernel, by decide +kernel⟩
theorem ok_readcall {f : Addr} {fd : FuncData} (F : Fun K "read_call" "read_call" sReadCall f fd) (S : Cc mg) : FnOk P w K mg base CX0 1 f fd ["calls", "at"] (spReadCall K) := by
  refine F.ok scReadCall (fun vs H Q E h => ?_) (fun cdv A outer s H vs Q E hr h => ?_)
  · obtain ⟨a, ns, i, p, r, c, t, rfl, _⟩ := h
    rfl
  · obtain ⟨a, ns, i, p, r, c, t, rfl, ha, hsz, hd, hc, k⟩ := h
    obtain ⟨t0, c0⟩ := S.begins
    obtain ⟨t1, c1⟩ := S.cam
    obtain ⟨t2, c2⟩ := S.wish
    obtain ⟨t3, c3⟩ := S.sum
    refine ⟨_, pss_cons (ps_set (i := 2) scReadCall.nd rfl (Or.inl rfl) (pe_ix ix_list (pv 0) (pv 1) (fun _ _ => rfl)))
      (pss_cons (ps_if (pt_cmpR op_eq (pv 2) (pe_glob (v := .int 0) (by rfl) c0 ⟨_, rfl⟩) (nomark _))
        (pss_one (ps_ret (pe_tup (pa_cons (pv 2) (pa_cons (pe_slice sl_list (pv 0) (po_some (pe_op op_add (pv 1) pe_int)) (po_some (pe_op op_add (pv 1) pe_int))) (pa_cons (pe_op op_add (pv 1) pe_int) pa_nil)))))) pss_nil)
      (pss_cons (ps_if (pt_cmpR op_in_seq (pv 2) (pe_tup (pa_cons (pe_glob (v := .int 1) (by rfl) c1 ⟨_, rfl⟩) (pa_cons (pe_glob (v := .int 2) (by rfl) c2 ⟨_, rfl⟩) (pa_cons (pe_glob (v := .int 3) (by rfl) c3 ⟨_, rfl⟩) pa_nil)))) (by rfl))
        (pss_cons (ps_set (i := 3) scReadCall.nd rfl (Or.inl rfl) (pe_op op_add (pv 1) pe_int))
        (pss_cons (ps_set (i := 4) scReadCall.nd rfl (Or.inl rfl) (pe_op op_add (pv 3) (pe_ix ix_list (pv 0) (pe_op op_add (pv 1) pe_int) (fun _ _ => rfl))))
        (pss_one (ps_ret (pe_tup (pa_cons (pv 2) (pa_cons (pe_slice sl_list (pv 0) (po_some (pv 3)) (po_some (pv 4))) (pa_cons (pv 4) pa_nil)))))))) pss_nil)
      (pss_one (ps_ret (pe_tup (pa_cons (pv 2) (pa_cons (pe_lst pa_nil) (pa_cons (pe_op op_add (pv 1) pe_int) pa_nil)))))))), ?_⟩
    obtain ⟨g0, hd1, hi1⟩ := drop_get hd
    have ml : (ns.map V.int).length = ns.length := List.length_map ..
    have at0 : (ns.map V.int)[i]? = some (.int p) := by
      rw [List.getElem?_map, g0]
      rfl
    have yes : ∀ {j : Int} {A B : Prop}, p = j → A → if decide (V.int p = V.int j) = true then A else B := fun h hA => by
      rw [decide_eq_true (by rw [h]), if_pos rfl]
      exact hA
    have no : ∀ {j : Int} {A B : Prop}, p ≠ j → B → if decide (V.int p = V.int j) = true then A else B := fun h hB => by
      rw [decide_eq_false (fun z => h (by injection z)), if_neg Bool.false_ne_true]
      exact hB
    refine ⟨_, rfl, _, rfl, a, _, _, _, rfl, rfl, ha, atI_nat at0, ?_⟩
    rcases call_cases hc with ⟨hp, x, rfl, ew⟩ | ⟨hp, n, s', rfl, hn, ew, rfl⟩ | ⟨hp, ew, rfl⟩
    · obtain ⟨g1, hd2, hi2⟩ := drop_get hd1
      refine ⟨_, rfl, rfl, _, rfl, yes (j := 0) hp ?_⟩
      refine ⟨_, rfl, _, rfl, _, rfl, _, _, rfl, rfl, _, rfl, _, rfl, _, _, rfl, rfl, _, rfl, a, _, rfl, ha, fun q hq => ?_⟩
      refine ⟨_, rfl, _, _, rfl, rfl, (by show 3 ≤ sizeLine; decide), fun T hT => ?_⟩
      have ec : cutV (ns.map V.int) (some ((i : Int) + 1)) (some ((i : Int) + 2)) = ([x] : List Int).map V.int := by
        rw [cut_nat _ (a := i + 1) (b := i + 2) (by omega) (by omega) (by omega) (by omega), ← List.map_drop, hd1]
        rw [show i + 2 - (i + 1) = 1 by omega]
        rfl
      refine k _ T q [x] (i + 2) ((same_upd hq).trans (same_upd hT)) ((same_upd hq).free hT) hq ?_ ?_ (by rw [hp]; exact ew) hd2 (by omega) (by omega)
      · rw [upd_same]
        rfl
      · refine same_upd hT _ _ ?_
        rw [upd_same]
        exact congrArg (fun l => some (HO.lst l)) ec
    · obtain ⟨g1, hd2, hi2⟩ := drop_get hd1
      have at1 : (ns.map V.int)[i + 1]? = some (.int (n : Int)) := by
        rw [List.getElem?_map, g1]
        rfl
      have hsl : ns.length = i + 2 + s'.length := by
        have := congrArg List.length hd2
        rw [List.length_drop] at this
        omega
      refine ⟨_, rfl, rfl, _, rfl, no (j := 0) (by rcases hp with h | h | h <;> omega) ?_⟩
      refine ⟨_, rfl, (by show 3 ≤ sizeLine; decide), fun z hz => ⟨z, _, rfl, .inr (SqT.of upd_same), rfl, rfl, ?_⟩⟩
      refine ⟨true, by rw [if_neg Bool.false_ne_true, in_yes hp], ?_⟩
      have s0 : Same H (upd H z (.tup [.int 1, .int 2, .int 3])) := same_upd hz
      have ha' := s0.seq ha
      have hzz : ∀ b, upd H z (.tup [.int 1, .int 2, .int 3]) b = none → H b = none := fun b h => s0.free h
      generalize upd H z (.tup [.int 1, .int 2, .int 3]) = H1 at s0 ha' hzz ⊢
      refine ⟨_, rfl, _, _, rfl, rfl, ?_⟩
      refine ⟨_, rfl, _, rfl, _, rfl, _, _, rfl, rfl, a, _, _, _, rfl, rfl, ha', at_of (j := i + 1) (by show (i : Int) + 1 = _; omega) at1, _, _, rfl, rfl, ?_⟩
      refine ⟨_, rfl, _, rfl, _, rfl, _, rfl, _, rfl, _, rfl, a, _, rfl, ha', fun q hq => ?_⟩
      refine ⟨_, rfl, (by show 3 ≤ sizeLine; decide), fun T hT => ?_⟩
      have ec : cutV (ns.map V.int) (some ((i : Int) + 2)) (some ((i : Int) + 2 + (n : Int))) = (s'.take n).map V.int := by
        rw [cut_nat _ (a := i + 2) (b := i + 2 + n) (by omega) (by omega) (by omega) (by omega), ← List.map_drop, show i + 2 = i + 1 + 1 from rfl, hd2]
        rw [show i + 1 + 1 + n - (i + 1 + 1) = n by omega, List.map_take]
      refine k _ T q (s'.take n) (i + 2 + n) (s0.trans ((same_upd hq).trans (same_upd hT))) (hzz _ ((same_upd hq).free hT)) (hzz _ hq) ?_ ?_ ew ?_ (by omega) (by omega)
      · rw [upd_same]
        have e : (i : Int) + 2 + (n : Int) = ((i + 2 + n : Nat) : Int) := by omega
        exact congrArg (fun z => some (HO.tup [V.int p, V.ref q, V.int z])) e
      · refine same_upd hT _ _ ?_
        rw [upd_same]
        exact congrArg (fun l => some (HO.lst l)) ec
      · rw [← hd2, List.drop_drop]
    · refine ⟨_, rfl, rfl, _, rfl, no (j := 0) (by rcases hp with h | h <;> omega) ?_⟩
      refine ⟨_, rfl, (by show 3 ≤ sizeLine; decide), fun z hz => ⟨z, _, rfl, .inr (SqT.of upd_same), rfl, rfl, ?_⟩⟩
      refine ⟨false, by rw [if_neg Bool.false_ne_true, in_no (by rcases hp with h | h <;> omega)], ?_⟩
      have s0 : Same H (upd H z (.tup [.int 1, .int 2, .int 3])) := same_upd hz
      have hzz : ∀ b, upd H z (.tup [.int 1, .int 2, .int 3]) b = none → H b = none := fun b h => s0.free h
      generalize upd H z (.tup [.int 1, .int 2, .int 3]) = H1 at s0 hzz ⊢
      refine ⟨_, rfl, Nat.zero_le _, fun q hq => ?_⟩
      refine ⟨_, rfl, _, _, rfl, rfl, (by show 3 ≤ sizeLine; decide), fun T hT => ?_⟩
      refine k _ T q [] (i + 1) (s0.trans ((same_upd hq).trans (same_upd hT))) (hzz _ ((same_upd hq).free hT)) (hzz _ hq) ?_ (same_upd hT _ _ upd_same) ew hd1 (by omega) hi1
      rw [upd_same]
      rfl

/-! ### read_calls -/
def spReadCalls (K : PySem.W.Frag) : Sp := fun vs H Q _ => ∃ (a : Addr) (ns : List Int) (raw : List (List (List Int))), vs = [.ref a] ∧ SqL K H a (ns.map V.int) ∧ ns.length ≤ 3000 ∧ PyFlat.calls PyUw42.shape ns.length ns = some raw ∧
  ∀ (H' : Hp) (L : Addr) (ys : List V), Same H H' → H L = none → H' L = some (.lst ys) → Each (CallAt (fresh H H')) ys (raw.map wrd) → Q (.ref L) H'
theorem scReadCalls : FnScope ["calls", "found", "at", "call", "numbers"] ["calls"] (defScope sReadCalls) := ⟨rfl, rfl, rfl, by decide +kernel, rfl, by decide +kernel, by decide +kernel⟩
/-- the loop's invariant -/
structure Rd (H0 : Hp) (ns : List Int) (raw : List (List (List Int))) (D : Addr) (i : Nat) (H : Hp) : Prop where
  same : Same H0 (hid H D)
  le : i ≤ ns.length
  at_ : ∃ (f : Nat) (dn rest : List (List (List Int))) (acc : List V), raw = dn ++ rest ∧ dn.length ≤ i ∧ PyFlat.calls PyUw42.shape f (ns.drop i) = some rest ∧ H D = some (.lst acc) ∧ Each (CallAt (hid (fresh H0 H) D)) acc (dn.map wrd)
theorem ok_readcalls {f f1 : Addr} {fd fd1 : FuncData} (F : Fun K "read_calls" "read_calls" sReadCalls f fd) (N : Nm mg) (S : Cc mg) (F1 : Fun K "read_call" "read_call" sReadCall f1 fd1) (m1 : mg "read_call" = some (.ref f1)) (b1 : Binds K fd1 ["calls", "at"] []) :
    FnOk P w K mg base CX0 2 f fd ["calls"] (spReadCalls K) := by
  have G1 : FnOk P w K mg base CX0 1 f1 fd1 ["calls", "at"] (spReadCall K) := ok_readcall F1 S
  refine F.ok scReadCalls (fun vs H Q E h => ?_) (fun cdv A outer s H vs Q E hr h => ?_)
  · obtain ⟨a, ns, raw, rfl, _⟩ := h
    rfl
  · obtain ⟨a, ns, raw, rfl, ha, hsz, hraw, k⟩ := h
    refine ⟨_, pss_cons (ps_set (i := 1) scReadCalls.nd rfl (Or.inl rfl) (pe_lst pa_nil))
      (pss_cons (ps_set (i := 2) scReadCalls.nd rfl (Or.inl rfl) pe_int)
      (pss_cons (ps_while PassesOwn.never (pt_cmpR op_lt (pv 2) (pe_callB call_len_seq (by rfl) N.len PySem.boot_len (pa_cons (pv 0) pa_nil)) (nomark _))
        (pss_cons (ps_asg (pe_call G1 hr (by rfl) m1 F1.kp b1 .nil pass0 (pa_cons (pv 0) (pa_cons (pv 2) pa_nil))) (pg_tup rfl (pgs_cons (pg_name (i := 3) scReadCalls.nd rfl (Or.inl rfl)) (pgs_cons (pg_name (i := 4) scReadCalls.nd rfl (Or.inl rfl)) (pgs_cons (pg_name (i := 2) scReadCalls.nd rfl (Or.inl rfl)) pgs_nil)))))
        (pss_one (ps_expr (pe_bm PySem.F.plainAttrs_list PySem.F.slot_list_append PySem.F.type_list_append mt_append (pv 1) (pa_cons (pe_tup (pa_cons (pv 3) (pa_cons (pv 4) pa_nil))) pa_nil))))))
      (pss_one (ps_ret (pv 1))))), ?_⟩
    refine ⟨Nat.zero_le _, fun D hD => ?_⟩
    have e0 : hid (upd H D (.lst [])) D = H := by rw [hid_upd, hid_free hD]
    refine ⟨fun m σ H' => ∃ (i : Nat) (v3 v4 : Option V), σ = [some (.ref a), some (.ref D), some (.int (i : Int)), v3, v4] ∧ m = ns.length - i ∧ Rd H ns raw D i H',
      ⟨ns.length, 0, none, none, rfl, rfl, ⟨by rw [e0]; exact Same.refl _, Nat.zero_le _, ns.length, [], raw, [], rfl, Nat.le_refl _, hraw, upd_same, Each.nil⟩⟩, ?_⟩
    rintro m σ H1 ⟨i, v3, v4, rfl, rfl, R⟩
    obtain ⟨s1, hile, fu, dn, rest, acc, hra, hdn, hcs, hDa, hE⟩ := R
    have ha1 : SqL K H1 a (ns.map V.int) := same_hid.seq (s1.seq ha)
    refine ⟨_, rfl, _, rfl, a, _, rfl, .inl ha1, _, _, rfl, rfl, _, rfl, ite2 (fun c => ?_) (fun c => ?_)⟩
    · have c : i < ns.length := by
        have c := of_decide_eq_true c
        rw [List.length_map] at c
        omega
      obtain ⟨p, r, hpr⟩ : ∃ p r, ns.drop i = p :: r := ⟨_, _, List.drop_eq_getElem_cons c⟩
      rw [hpr] at hcs
      obtain ⟨f', cl, t, cs', hcall, hcs', rfl⟩ := calls_cons hcs
      refine ⟨fun σ' H' => ∃ (i' : Nat) (v3 v4 : Option V), σ' = [some (.ref a), some (.ref D), some (.int (i' : Int)), v3, v4] ∧ i < i' ∧ Rd H ns raw D i' H',
        fun σ' H' ⟨i', v3, v4, e, hi, R⟩ => ⟨ns.length - i', by have := R.le; omega, i', v3, v4, e, rfl, R⟩, ?_⟩
      refine ⟨_, rfl, _, rfl, a, ns, i, p, r, cl, t, rfl, ha1, hsz, hpr, hcall, fun H2 T q nums j s2 hT hq eT eq ew hj hij hjl => ?_⟩
      refine ⟨T, _, rfl, SqT.of eT, rfl, _, _, rfl, _, _, rfl, _, _, rfl, rfl, ?_⟩
      have hD2 := s2 _ _ hDa
      refine ⟨_, rfl, .inl ⟨rfl, _, SqL.of hD2⟩, _, rfl, _, rfl, (by show 2 ≤ sizeLine; decide), fun T2 hT2 => ?_⟩
      have s3 : Same H2 (upd H2 T2 (.tup [.int p, .ref q])) := same_upd hT2
      have e3 : upd H2 T2 (.tup [.int p, .ref q]) T2 = some (.tup [.int p, .ref q]) := upd_same
      have nT2 : T2 ≠ D := ne_free hT2 hD2
      have nq : q ≠ D := ne_free hq hDa
      have s13 : Same H1 (upd H2 T2 (.tup [.int p, .ref q])) := s2.trans s3
      have fH : ∀ {b}, H1 b = none → H b = none := fun h => (s1.trans same_hid).free h
      have hT2' : H T2 = none := fH (s2.free hT2)
      have hq' : H q = none := fH hq
      generalize upd H2 T2 (.tup [.int p, .ref q]) = H3 at s3 e3 s13 ⊢
      refine ⟨D, acc, _, rfl, rfl, s13 _ _ hDa, ?_, ?_⟩
      · rw [hE.len, List.length_map]
        exact size_small (by omega)
      · refine ⟨j, _, _, rfl, hij, ⟨?_, hjl, f', dn ++ [cl], cs', _, ?_, ?_, ?_, upd_same, ?_⟩⟩
        · rw [hid_upd]
          exact s1.trans (hid_same s13 D)
        · rw [hra, List.append_assoc]
          rfl
        · rw [List.length_append, List.length_singleton]
          omega
        · rw [hj]
          exact hcs'
        · have ef : hid (fresh H (upd H3 D (.lst (acc ++ [.ref T2])))) D = hid (fresh H H3) D := by
            funext b
            by_cases hb : b = D
            · subst hb
              rw [hid_at, hid_at]
            · rw [hid_ne hb, hid_ne hb]
              unfold fresh
              rw [upd_ne hb]
          rw [ef, List.map_append]
          refine (hE.mono fun x d z => z.mono (hid_same (fresh_same s13) D)).snoc ⟨T2, q, p, nums, rfl, ew, ?_, ?_⟩
          · rw [hid_ne nT2, fresh_of hT2']
            exact e3
          · rw [hid_ne nq, fresh_of hq']
            exact s3 _ _ eq
    · have c : ¬ i < ns.length := fun z => c (decide_eq_true (by rw [List.length_map]; omega))
      rw [List.drop_eq_nil_of_le (by omega)] at hcs
      have e := calls_nil hcs
      subst e
      rw [List.append_nil] at hra
      subst hra
      exact ⟨_, rfl, k H1 D acc (s1.trans same_hid) hD hDa (hE.mono fun x d z => z.mono same_hid)⟩
end
end Cam
set_option Elab.async false
set_option linter.all false
set_option maxRecDepth 100000
set_option maxHeartbeats 2000000
/-! answers. -/
namespace Cam
open PySem PySem.Spec PyProof.Rows L2
theorem size_more {n : Nat} (h : n ≤ 1000060) : n < sizeLine := Nat.lt_of_le_of_lt h (by decide)
section
variable {P : Program} {w : World} {K : PySem.W.Frag} {mg : Str → Option Value} {base : Heap}
def spAns (K : PySem.W.Frag) : Sp := fun vs H Q _ => ∃ (a : Addr) (ns : List Int), vs = [.ref a] ∧ SqL K H a (ns.map V.int) ∧ ns.length ≤ 3000 ∧ PyUw42.answers_asked ns = true ∧
  ∀ (H' : Hp) (p : Addr), H' p = some (.lst ((PyUw42.answers ns).map V.int)) → Q (.ref p) H'
theorem scAns : FnScope ["calls", "box", "found", "call", "numbers", "told"] ["calls"] (defScope sAnswers) := ⟨rfl, rfl, rfl, by decide +kernel, rfl, by decide +kernel, by decide +kernel⟩
theorem ok_ans {f fI f1 f2 C : Addr} {fd fdI fd1 fd2 : FuncData} (F : Fun K "answers" "answers" sAnswers f fd) (N : Nm mg) (T : Txt K mg C) (M : Mk K C fI) (bI : L2.Binds K fdI ["self"] []) (GI : FnOk P w K mg base CX0 1 fI fdI ["self"] (spInit C))
    (F1 : Fun K "read_calls" "read_calls" sReadCalls f1 fd1) (m1 : mg "read_calls" = some (.ref f1)) (b1 : L2.Binds K fd1 ["calls"] []) (G1 : FnOk P w K mg base CX0 2 f1 fd1 ["calls"] (spReadCalls K))
    (F2 : Fun K "told_of" "told_of" sToldOf f2 fd2) (m2 : mg "told_of" = some (.ref f2)) (b2 : L2.Binds K fd2 ["box", "call", "numbers"] []) (G2 : FnOk P w K mg base CX0 6 f2 fd2 ["box", "call", "numbers"] (spToldOf C)) :
    FnOk P w K mg base CX0 7 f fd ["calls"] (spAns K) := by
  refine F.ok scAns (fun vs H Q E h => ?_) (fun cdv A outer s H vs Q E hr h => ?_)
  · obtain ⟨a, ns, rfl, _⟩ := h
    rfl
  · obtain ⟨a, ns, rfl, ha, hsz, hask, k⟩ := h
    have hr2 : Room 2 _ := hr.mono (by decide)
    refine ⟨_, pss_cons (ps_set (i := 1) scAns.nd rfl (Or.inl rfl) (pe_make0 M GI hr2 rfl T.mgC bI .nil pass0))
      (pss_cons (ps_set (i := 2) scAns.nd rfl (Or.inl rfl) (pe_lst pa_nil))
      (pss_cons (ps_for PassesOwn.never rfl (pi_list (pe_call G1 hr2 (by rfl) m1 F1.kp b1 .nil pass0 (pa_cons (pv 0) pa_nil))) (pg_tup rfl (pgs_cons (pg_name (i := 3) scAns.nd rfl (Or.inl rfl)) (pgs_cons (pg_name (i := 4) scAns.nd rfl (Or.inl rfl)) pgs_nil)))
        (pss_cons (ps_set (i := 5) scAns.nd rfl (Or.inl rfl) (pe_call G2 hr (by rfl) m2 F2.kp b2 .nil pass0 (pa_cons (pv 1) (pa_cons (pv 3) (pa_cons (pv 4) pa_nil)))))
        (pss_cons (ps_expr (pe_bm PySem.F.plainAttrs_list PySem.F.slot_list_append PySem.F.type_list_append mt_append (pv 2) (pa_cons (pe_callB call_len_seq (by rfl) N.len PySem.boot_len (pa_cons (pv 5) pa_nil)) pa_nil)))
        (pss_one (ps_expr (pe_bm PySem.F.plainAttrs_list PySem.F.slot_list_extend PySem.F.type_list_extend mt_extend (pv 2) (pa_cons (pv 5) pa_nil)))))))
      (pss_one (ps_ret (pv 2))))), ?_⟩
    obtain ⟨raw, hraw, hasked⟩ := asked_raw hask
    obtain ⟨hcall, hmany, h60⟩ := asked_each hasked
    have eAns := answers_run hraw
    -- box = Box()
    intro x dx nx nd ne
    refine ⟨x, dx, rfl, upd_same, fun H1 hB kp => ⟨rfl, ?_⟩⟩
    have s1 : Same H H1 := Same.made nx nd kp
    -- found = []
    refine ⟨Nat.zero_le _, fun D hD => ?_⟩
    have hB1 : BoxAt C (hid (upd H1 D (.lst [])) D) x Uw42.init := by
      rw [hid_upd, hid_free hD]
      exact hB
    have hx1 : ∃ o, upd H1 D (.lst []) x = some o := by
      obtain ⟨_, _, _, _, h, _⟩ := hB
      exact ⟨_, same_upd hD _ _ h⟩
    have sD : Same H1 (upd H1 D (.lst [])) := same_upd hD
    have eD : upd H1 D (.lst []) D = some (.lst []) := upd_same
    generalize upd H1 D (.lst []) = H2 at hB1 hx1 sD eD ⊢
    obtain ⟨ox, hx1⟩ := hx1
    -- for call, numbers in read_calls(calls)
    refine ⟨_, rfl, a, ns, raw, rfl, sD.seq (s1.seq ha), hsz, hraw, fun H3 L ys s3 hL eL hE => ?_⟩
    have fL : fresh H2 H3 L = some (.lst ys) := by rw [fresh_of hL]; exact eL
    have nD : ∀ {b o}, fresh H2 H3 b = some o → b ≠ D := fun h => ne_free (fresh_get h).1 eD
    have nX : ∀ {b o}, fresh H2 H3 b = some o → b ≠ x := fun h => ne_free (fresh_get h).1 hx1
    have hB3 : BoxAt C (hid H3 D) x Uw42.init := hB1.mono (hid_same s3 D)
    have sF : Same (fresh H2 H3) H3 := same_fresh
    have eD3 : H3 D = some (.lst []) := s3 _ _ eD
    refine ⟨L, rfl, ⟨_, SqL.of eL⟩, ?_⟩
    generalize fresh H2 H3 = G at hE fL nD nX sF
    refine for_it (walk_list (xs := ys)) (fun i σ H' => ∃ (v3 v4 v5 : Option V), σ = [some (.ref a), some (.ref x), some (.ref D), v3, v4, v5] ∧ Same G H' ∧ BoxAt C (hid H' D) x (run ((raw.map wrd).take i)).1 ∧
        H' D = some (.lst ((run ((raw.map wrd).take i)).2.map V.int)) ∧ (run ((raw.map wrd).take i)).2.length + Uw42Neutral.many (run ((raw.map wrd).take i)).1 ((raw.map wrd).drop i) + ((raw.map wrd).drop i).length ≤ 1000060 ∧ Ok (run ((raw.map wrd).take i)).1)
      ⟨none, none, none, rfl, sF, hB3, eD3, ?_, ok_start⟩ (fun i σ H' _ ⟨_, _, _, _, s4, _⟩ => SqL.of (s4 _ _ fL)) (fun i y σ H4 H5 hi A z => ?_) (fun σ H4 A => ?_)
    · show 0 + Uw42Neutral.many Uw42Neutral.start (raw.map wrd) + (raw.map wrd).length ≤ 1000060
      omega
    · obtain ⟨v3, v4, v5, rfl, s4, hB4, hD4, hbound, hOk⟩ := A
      obtain ⟨rfl, g⟩ := z
      obtain ⟨wd, hwd, t, q, p, nums, rfl, ew, ht, hq⟩ := hE.get g
      have mw : wd ∈ raw.map wrd := List.mem_of_getElem? hwd
      have hsome := hcall wd mw
      rw [ew] at hsome
      obtain ⟨pn, ms, xc, rfl, rfl, hin, hcallOf⟩ := callOf_nat hsome
      rw [← ew] at hcallOf
      rw [drop_at hwd, many_next, step_of hcallOf, List.length_cons] at hbound
      dsimp only at hbound
      have er := run_next hwd
      generalize run ((raw.map wrd).take i) = R at hB4 hD4 hbound hOk er
      have et : turn R wd = ((Uw42.step R.1 xc).1, R.2 ++ (((Uw42Neutral.out (Uw42.step R.1 xc).2).length : Nat) : Int) :: Uw42Neutral.out (Uw42.step R.1 xc).2) := by
        unfold turn
        rw [step_of hcallOf]
      rw [et] at er
      refine ⟨t, _, rfl, SqT.of (s4 _ _ ht), rfl, _, _, rfl, _, _, rfl, rfl, ?_⟩
      -- told = told_of(box, call, numbers)
      refine ⟨_, rfl, _, rfl, _, rfl, ?_⟩
      refine ⟨x, D, q, R.1, pn, ms, _, xc, rfl, hB4, hOk, by rw [iv_ints]; exact s4 _ _ hq, hD4, hin, fun H6 pt hB6 kp6 hpt ept => ?_⟩
      have nDx : D ≠ x := by
        obtain ⟨_, _, _, _, h, _⟩ := hB4
        exact (hid_get h).2.symm
      have hD6 := kp6 _ _ hD4 nDx
      have nptD : pt ≠ D := ne_free hpt hD4
      have eov : (ov (Uw42.step R.1 xc).2).length = (Uw42Neutral.out (Uw42.step R.1 xc).2).length := List.length_map ..
      -- found.append(len(told))
      refine ⟨_, rfl, .inl ⟨rfl, _, SqL.of hD6⟩, _, rfl, pt, _, rfl, .inl (SqL.of ept), D, _, _, rfl, rfl, hD6, by rw [List.length_map]; exact size_more (by omega), ?_⟩
      -- found.extend(told)
      refine ⟨_, rfl, .inl ⟨rfl, _, SqL.of upd_same⟩, _, rfl, D, pt, _, _, rfl, rfl, upd_same, by rw [upd_ne nptD]; exact ept, ?_, ?_⟩
      · rw [List.length_append, List.length_map, eov]
        refine Nat.le_of_lt (size_more ?_)
        show R.2.length + 1 + _ ≤ _
        omega
      · refine ⟨_, _, _, rfl, fun b o h => ?_, ?_, ?_, ?_, ?_⟩
        · rw [upd_ne (nD h), upd_ne (nD h)]
          exact kp6 _ _ (s4 _ _ h) (nX h)
        · rw [hid_upd, hid_upd, er]
          exact hB6
        · rw [upd_same, er]
          show some (HO.lst (List.map V.int R.2 ++ [V.int ((ov (Uw42.step R.1 xc).2).length : Int)] ++ ov (Uw42.step R.1 xc).2)) = _
          rw [eov, List.append_assoc, List.map_append]
          rfl
        · rw [er]
          show (R.2 ++ _ :: _).length + Uw42Neutral.many (Uw42.step R.1 xc).1 _ + _ ≤ _
          rw [List.length_append, List.length_cons]
          omega
        · rw [er]
          exact step_ok hOk xc
    · obtain ⟨v3, v4, v5, rfl, s4, hB4, hD4, hbound, hOk⟩ := A
      rw [List.take_of_length_le (by rw [hE.len]; exact Nat.le_refl _), ← eAns] at hD4
      exact ⟨_, rfl, k H4 D hD4⟩
end
end Cam
set_option Elab.async false
set_option linter.all false
set_option maxRecDepth 100000
set_option maxHeartbeats 2000000
/-! The end: what the top has written; the row's own theorem. -/
namespace Cam
open PySem PySem.Spec PyProof.Rows L2
open PySem.W (Codec)
theorem all_mk {P : Program} {w : World} {K : PySem.W.Frag} {h : Heap} {mg : Str → Option Value} {fa C f1 f2 f3 f4 f5 f6 f7 f8 f9 f10 f11 f12 f13 f14 f15 f16 f17 f18 f19 f20 f21 f22 f23 f24 f25 : Addr} (X : K.In h) (G : h.Ns mainGlobals mg) (hfa : mg "answers" = some (.ref fa))
    {od1 od2 od3 od4 od5 od6 od7 od8 od9 od10 od11 od12 od13 od14 od15 od16 od17 od18 od19 od20 od21 od22 od23 od24 od25 an1 an2 an3 an4 an5 an6 an7 an8 an9 an10 an11 an12 an13 an14 an15 an16 an17 an18 an19 an20 an21 an22 an23 an24 an25 : Option Addr} {sl1 sl2 sl3 sl4 sl5 sl6 sl7 sl8 sl9 sl10 sl11 sl12 sl13 sl14 sl15 sl16 sl17 sl18 sl19 sl20 sl21 sl22 sl23 sl24 sl25 : Array (Option Value)} {oc1 oc2 oc3 oc4 oc5 oc6 oc7 oc8 oc9 oc10 oc11 oc12 oc13 oc14 oc15 oc16 oc17 oc18 oc19 oc20 oc21 oc22 oc23 oc24 oc25 kV1 kV2 kV3 kV4 kV5 kV6 kV7 kV8 kV9 kV10 kV11 kV12 kV13 kV14 kV15 kV16 kV17 kV18 kV19 kV20 kV21 kV22 kV23 kV24 kV25 dc1 dc2 dc3 dc4 dc5 dc6 dc7 dc8 dc9 dc10 dc11 dc12 dc13 dc14 dc15 dc16 dc17 dc18 dc19 dc20 dc21 dc22 dc23 dc24 dc25 pm1 pm2 pm3 pm4 pm5 pm6 pm7 pm8 pm9 pm10 pm11 pm12 pm13 pm14 pm15 pm16 pm17 pm18 pm19 pm20 pm21 pm22 pm23 pm24 pm25 cd1 cd2 cd3 cd4 cd5 cd6 cd7 cd8 cd9 cd10 cd11 cd12 cd13 cd14 cd15 cd16 cd17 cd18 cd19 cd20 cd21 cd22 cd23 cd24 cd25 ct1 ct2 ct3 ct4 ct5 ct6 ct7 ct8 ct9 ct10 ct11 ct12 ct13 ct14 ct15 ct16 ct17 ct18 ct19 ct20 ct21 ct22 ct23 ct24 ct25 : Value} {t1 t2 t3 t4 t5 t6 t7 t8 t9 t10 t11 t12 t13 : Tok}
    (aC : PySem.W.nsIn K mainGlobals "Box" = some (some (.ref C)))
    (a1 : PySem.W.nsIn K mainGlobals "off_by_place" = some (some (.ref f1)))
    (l1 : K.lookup f1 = some ⟨oc1, od1, .func (PySem.W.fnOf "off_by_place" "off_by_place" (defArgs sOffBy) (defBody sOffBy) (defScope sOffBy) .none kV1 dc1 pm1 an1 cd1 ct1), sl1⟩) (c1 : PySem.W.codeIn K cd1 "off_by_place" = true) (k1 : PySem.W.keepIn K (.ref f1) = true)
    (a2 : PySem.W.nsIn K mainGlobals "off_in_all" = some (some (.ref f2)))
    (l2 : K.lookup f2 = some ⟨oc2, od2, .func (PySem.W.fnOf "off_in_all" "off_in_all" (defArgs sOffAll) (defBody sOffAll) (defScope sOffAll) .none kV2 dc2 pm2 an2 cd2 ct2), sl2⟩) (c2 : PySem.W.codeIn K cd2 "off_in_all" = true) (k2 : PySem.W.keepIn K (.ref f2) = true)
    (a3 : PySem.W.nsIn K mainGlobals "off_at_worst" = some (some (.ref f3)))
    (l3 : K.lookup f3 = some ⟨oc3, od3, .func (PySem.W.fnOf "off_at_worst" "off_at_worst" (defArgs sOffWorst) (defBody sOffWorst) (defScope sOffWorst) .none kV3 dc3 pm3 an3 cd3 ct3), sl3⟩) (c3 : PySem.W.codeIn K cd3 "off_at_worst" = true) (k3 : PySem.W.keepIn K (.ref f3) = true)
    (a4 : PySem.W.nsIn K mainGlobals "turned" = some (some (.ref f4)))
    (l4 : K.lookup f4 = some ⟨oc4, od4, .func (PySem.W.fnOf "turned" "turned" (defArgs sTurned) (defBody sTurned) (defScope sTurned) .none kV4 dc4 pm4 an4 cd4 ct4), sl4⟩) (c4 : PySem.W.codeIn K cd4 "turned" = true) (k4 : PySem.W.keepIn K (.ref f4) = true)
    (a5 : PySem.W.nsIn K mainGlobals "together" = some (some (.ref f5)))
    (l5 : K.lookup f5 = some ⟨oc5, od5, .func (PySem.W.fnOf "together" "together" (defArgs sTogether) (defBody sTogether) (defScope sTogether) .none kV5 dc5 pm5 an5 cd5 ct5), sl5⟩) (c5 : PySem.W.codeIn K cd5 "together" = true) (k5 : PySem.W.keepIn K (.ref f5) = true)
    (a6 : PySem.W.nsIn K mainGlobals "stillness" = some (some (.ref f6)))
    (l6 : K.lookup f6 = some ⟨oc6, od6, .func (PySem.W.fnOf "stillness" "stillness" (defArgs sStill) (defBody sStill) (defScope sStill) .none kV6 dc6 pm6 an6 cd6 ct6), sl6⟩) (c6 : PySem.W.codeIn K cd6 "stillness" = true) (k6 : PySem.W.keepIn K (.ref f6) = true)
    (a7 : PySem.W.nsIn K mainGlobals "part_of" = some (some (.ref f7)))
    (l7 : K.lookup f7 = some ⟨oc7, od7, .func (PySem.W.fnOf "part_of" "part_of" (defArgs sPartOf) (defBody sPartOf) (defScope sPartOf) .none kV7 dc7 pm7 an7 cd7 ct7), sl7⟩) (c7 : PySem.W.codeIn K cd7 "part_of" = true) (k7 : PySem.W.keepIn K (.ref f7) = true)
    (a8 : PySem.W.nsIn K mainGlobals "motion_of" = some (some (.ref f8)))
    (l8 : K.lookup f8 = some ⟨oc8, od8, .func (PySem.W.fnOf "motion_of" "motion_of" (defArgs sMotion) (defBody sMotion) (defScope sMotion) .none kV8 dc8 pm8 an8 cd8 ct8), sl8⟩) (c8 : PySem.W.codeIn K cd8 "motion_of" = true) (k8 : PySem.W.keepIn K (.ref f8) = true)
    (a9 : PySem.W.nsIn K mainGlobals "gone_on" = some (some (.ref f9)))
    (l9 : K.lookup f9 = some ⟨oc9, od9, .func (PySem.W.fnOf "gone_on" "gone_on" (defArgs sGone) (defBody sGone) (defScope sGone) .none kV9 dc9 pm9 an9 cd9 ct9), sl9⟩) (c9 : PySem.W.codeIn K cd9 "gone_on" = true) (k9 : PySem.W.keepIn K (.ref f9) = true)
    (a10 : PySem.W.nsIn K mainGlobals "all_plans" = some (some (.ref f10)))
    (l10 : K.lookup f10 = some ⟨oc10, od10, .func (PySem.W.fnOf "all_plans" "all_plans" (defArgs sAllPlans) (defBody sAllPlans) (defScope sAllPlans) .none kV10 dc10 pm10 an10 cd10 ct10), sl10⟩) (c10 : PySem.W.codeIn K cd10 "all_plans" = true) (k10 : PySem.W.keepIn K (.ref f10) = true)
    (a11 : PySem.W.nsIn K mainGlobals "cams_on" = some (some (.ref f11)))
    (l11 : K.lookup f11 = some ⟨oc11, od11, .func (PySem.W.fnOf "cams_on" "cams_on" (defArgs sCamsOn) (defBody sCamsOn) (defScope sCamsOn) .none kV11 dc11 pm11 an11 cd11 ct11), sl11⟩) (c11 : PySem.W.codeIn K cd11 "cams_on" = true) (k11 : PySem.W.keepIn K (.ref f11) = true)
    (a12 : PySem.W.nsIn K mainGlobals "best_of" = some (some (.ref f12)))
    (l12 : K.lookup f12 = some ⟨oc12, od12, .func (PySem.W.fnOf "best_of" "best_of" (defArgs sBest) (defBody sBest) (defScope sBest) .none kV12 dc12 pm12 an12 cd12 ct12), sl12⟩) (c12 : PySem.W.codeIn K cd12 "best_of" = true) (k12 : PySem.W.keepIn K (.ref f12) = true)
    (a13 : PySem.W.nsIn K mainGlobals "nearest_of" = some (some (.ref f13)))
    (l13 : K.lookup f13 = some ⟨oc13, od13, .func (PySem.W.fnOf "nearest_of" "nearest_of" (defArgs sNearest) (defBody sNearest) (defScope sNearest) .none kV13 dc13 pm13 an13 cd13 ct13), sl13⟩) (c13 : PySem.W.codeIn K cd13 "nearest_of" = true) (k13 : PySem.W.keepIn K (.ref f13) = true)
    (a14 : PySem.W.nsIn K mainGlobals "evenest_of" = some (some (.ref f14)))
    (l14 : K.lookup f14 = some ⟨oc14, od14, .func (PySem.W.fnOf "evenest_of" "evenest_of" (defArgs sEvenest) (defBody sEvenest) (defScope sEvenest) .none kV14 dc14 pm14 an14 cd14 ct14), sl14⟩) (c14 : PySem.W.codeIn K cd14 "evenest_of" = true) (k14 : PySem.W.keepIn K (.ref f14) = true)
    (a15 : PySem.W.nsIn K mainGlobals "are_heights" = some (some (.ref f15)))
    (l15 : K.lookup f15 = some ⟨oc15, od15, .func (PySem.W.fnOf "are_heights" "are_heights" (defArgs sHeights) (defBody sHeights) (defScope sHeights) .none kV15 dc15 pm15 an15 cd15 ct15), sl15⟩) (c15 : PySem.W.codeIn K cd15 "are_heights" = true) (k15 : PySem.W.keepIn K (.ref f15) = true)
    (a16 : PySem.W.findIn K (.ref C) "__init__" = some (some (.ref f16))) (i16 : PySem.W.isFn K (.ref f16) = true)
    (l16 : K.lookup f16 = some ⟨oc16, od16, .func (PySem.W.fnOf "__init__" "Box.__init__" (defArgs sInit) (defBody sInit) (defScope sInit) .none kV16 dc16 pm16 an16 cd16 ct16), sl16⟩) (c16 : PySem.W.codeIn K cd16 "Box.__init__" = true) (k16 : PySem.W.keepIn K (.ref f16) = true)
    (a17 : PySem.W.findIn K (.ref C) "begins" = some (some (.ref f17))) (i17 : PySem.W.isFn K (.ref f17) = true)
    (l17 : K.lookup f17 = some ⟨oc17, od17, .func (PySem.W.fnOf "begins" "Box.begins" (defArgs sBegins) (defBody sBegins) (defScope sBegins) .none kV17 dc17 pm17 an17 cd17 ct17), sl17⟩) (c17 : PySem.W.codeIn K cd17 "Box.begins" = true) (k17 : PySem.W.keepIn K (.ref f17) = true)
    (a18 : PySem.W.findIn K (.ref C) "takes" = some (some (.ref f18))) (i18 : PySem.W.isFn K (.ref f18) = true)
    (l18 : K.lookup f18 = some ⟨oc18, od18, .func (PySem.W.fnOf "takes" "Box.takes" (defArgs sTakes) (defBody sTakes) (defScope sTakes) .none kV18 dc18 pm18 an18 cd18 ct18), sl18⟩) (c18 : PySem.W.codeIn K cd18 "Box.takes" = true) (k18 : PySem.W.keepIn K (.ref f18) = true)
    (a19 : PySem.W.findIn K (.ref C) "wishes" = some (some (.ref f19))) (i19 : PySem.W.isFn K (.ref f19) = true)
    (l19 : K.lookup f19 = some ⟨oc19, od19, .func (PySem.W.fnOf "wishes" "Box.wishes" (defArgs sWishes) (defBody sWishes) (defScope sWishes) .none kV19 dc19 pm19 an19 cd19 ct19), sl19⟩) (c19 : PySem.W.codeIn K cd19 "Box.wishes" = true) (k19 : PySem.W.keepIn K (.ref f19) = true)
    (a20 : PySem.W.nsIn K mainGlobals "read_call" = some (some (.ref f20)))
    (l20 : K.lookup f20 = some ⟨oc20, od20, .func (PySem.W.fnOf "read_call" "read_call" (defArgs sReadCall) (defBody sReadCall) (defScope sReadCall) .none kV20 dc20 pm20 an20 cd20 ct20), sl20⟩) (c20 : PySem.W.codeIn K cd20 "read_call" = true) (k20 : PySem.W.keepIn K (.ref f20) = true)
    (a21 : PySem.W.nsIn K mainGlobals "read_calls" = some (some (.ref f21)))
    (l21 : K.lookup f21 = some ⟨oc21, od21, .func (PySem.W.fnOf "read_calls" "read_calls" (defArgs sReadCalls) (defBody sReadCalls) (defScope sReadCalls) .none kV21 dc21 pm21 an21 cd21 ct21), sl21⟩) (c21 : PySem.W.codeIn K cd21 "read_calls" = true) (k21 : PySem.W.keepIn K (.ref f21) = true)
    (a22 : PySem.W.nsIn K mainGlobals "is_plan" = some (some (.ref f22)))
    (l22 : K.lookup f22 = some ⟨oc22, od22, .func (PySem.W.fnOf "is_plan" "is_plan" (defArgs sIsPlan) (defBody sIsPlan) (defScope sIsPlan) .none kV22 dc22 pm22 an22 cd22 ct22), sl22⟩) (c22 : PySem.W.codeIn K cd22 "is_plan" = true) (k22 : PySem.W.keepIn K (.ref f22) = true)
    (a23 : PySem.W.nsIn K mainGlobals "told_of_sum" = some (some (.ref f23)))
    (l23 : K.lookup f23 = some ⟨oc23, od23, .func (PySem.W.fnOf "told_of_sum" "told_of_sum" (defArgs sToldSum) (defBody sToldSum) (defScope sToldSum) .none kV23 dc23 pm23 an23 cd23 ct23), sl23⟩) (c23 : PySem.W.codeIn K cd23 "told_of_sum" = true) (k23 : PySem.W.keepIn K (.ref f23) = true)
    (a24 : PySem.W.nsIn K mainGlobals "told_of" = some (some (.ref f24)))
    (l24 : K.lookup f24 = some ⟨oc24, od24, .func (PySem.W.fnOf "told_of" "told_of" (defArgs sToldOf) (defBody sToldOf) (defScope sToldOf) .none kV24 dc24 pm24 an24 cd24 ct24), sl24⟩) (c24 : PySem.W.codeIn K cd24 "told_of" = true) (k24 : PySem.W.keepIn K (.ref f24) = true)
    (a25 : PySem.W.nsIn K mainGlobals "answers" = some (some (.ref f25)))
    (l25 : K.lookup f25 = some ⟨oc25, od25, .func (PySem.W.fnOf "answers" "answers" (defArgs sAnswers) (defBody sAnswers) (defScope sAnswers) .none kV25 dc25 pm25 an25 cd25 ct25), sl25⟩) (c25 : PySem.W.codeIn K cd25 "answers" = true) (k25 : PySem.W.keepIn K (.ref f25) = true)
    (pg : PySem.W.plainGet K C Str.empty = true) (hd : PySem.W.hasDictIn K C = true) (po : PySem.W.plainOver K C = true) (sa : PySem.W.findIn K (.ref C) "__setattr__" = some (some (.builtin "object.__setattr__"))) (mk : PySem.W.makesIn K C = true) (kc : PySem.W.keepIn K (.ref C) = true)
    (nP : PySem.W.findIn K (.ref C) "places" = some none) (nC : PySem.W.findIn K (.ref C) "cams" = some none) (nW : PySem.W.findIn K (.ref C) "wished" = some none)
    (v1 : PySem.W.nsIn K mainGlobals "LEAST_PLACES" = some (some (.int 2 t1))) (v2 : PySem.W.nsIn K mainGlobals "MOST_PLACES" = some (some (.int 8 t2))) (v3 : PySem.W.nsIn K mainGlobals "MOST_CAMS" = some (some (.int 4 t3))) (v4 : PySem.W.nsIn K mainGlobals "HIGHEST_CAM" = some (some (.int 100 t4))) (v5 : PySem.W.nsIn K mainGlobals "HIGHEST_WISH" = some (some (.int 400 t5))) (v6 : PySem.W.nsIn K mainGlobals "DONE" = some (some (.int 0 t6))) (v7 : PySem.W.nsIn K mainGlobals "NOT_SO" = some (some (.int (-1) t7))) (v8 : PySem.W.nsIn K mainGlobals "TOO_MANY" = some (some (.int (-5) t8))) (v9 : PySem.W.nsIn K mainGlobals "BEGINS" = some (some (.int 0 t9))) (v10 : PySem.W.nsIn K mainGlobals "CAM" = some (some (.int 1 t10))) (v11 : PySem.W.nsIn K mainGlobals "WISH" = some (some (.int 2 t11))) (v12 : PySem.W.nsIn K mainGlobals "SUM" = some (some (.int 3 t12))) (v13 : PySem.W.nsIn K mainGlobals "NEAREST" = some (some (.int 4 t13)))
    (z1 : PySem.W.nsIn K mainGlobals "zip" = some none) (z2 : PySem.W.nsIn K mainGlobals "abs" = some none) (z3 : PySem.W.nsIn K mainGlobals "sum" = some none) (z4 : PySem.W.nsIn K mainGlobals "max" = some none) (z5 : PySem.W.nsIn K mainGlobals "min" = some none) (z6 : PySem.W.nsIn K mainGlobals "len" = some none) (z7 : PySem.W.nsIn K mainGlobals "range" = some none) (z8 : PySem.W.nsIn K mainGlobals "enumerate" = some none) (z9 : PySem.W.nsIn K mainGlobals "all" = some none) (z10 : PySem.W.nsIn K mainGlobals "list" = some none) :
    ∃ fd : FuncData, (∀ (s : Shared) (us : List Value), us.length = (["calls"] : List Str).length → BindsTo s fd ⟨us, []⟩ ((["calls"] : List Str).zip us)) ∧ ∀ base : Heap, K.In base → base.Ns mainGlobals mg → FnOk P w K mg base CX0 7 fa fd ["calls"] (spAns K) := by
  have e := hfa.symm.trans (PySem.W.mg_of X G a25)
  cases e
  have T : Txt K mg C := ⟨⟨pg, hd, po, sa⟩, nP, nC, nW, PySem.W.mg_of X G aC⟩
  have N : Nm mg := ⟨PySem.W.mg_none_of X G z1, PySem.W.mg_none_of X G z2, PySem.W.mg_none_of X G z3, PySem.W.mg_none_of X G z4, PySem.W.mg_none_of X G z5, PySem.W.mg_none_of X G z6, PySem.W.mg_none_of X G z7, PySem.W.mg_none_of X G z8, PySem.W.mg_none_of X G z9, PySem.W.mg_none_of X G z10⟩
  have S : Cs mg := ⟨⟨_, PySem.W.mg_of X G v1⟩, ⟨_, PySem.W.mg_of X G v2⟩, ⟨_, PySem.W.mg_of X G v3⟩, ⟨_, PySem.W.mg_of X G v4⟩, ⟨_, PySem.W.mg_of X G v5⟩, ⟨_, PySem.W.mg_of X G v6⟩, ⟨_, PySem.W.mg_of X G v7⟩, ⟨_, PySem.W.mg_of X G v8⟩⟩
  have S2 : Cc mg := ⟨⟨_, PySem.W.mg_of X G v9⟩, ⟨_, PySem.W.mg_of X G v10⟩, ⟨_, PySem.W.mg_of X G v11⟩, ⟨_, PySem.W.mg_of X G v12⟩, ⟨_, PySem.W.mg_of X G v13⟩⟩
  have F1 := fun_mk (st := sOffBy) l1 c1 k1
  have b1 := F1.binds (ps := ["motion", "wished"]) fun _ _ _ _ _ _ us hl => match us, hl with | [_, _], _ => rfl
  have m1 := PySem.W.mg_of X G a1
  have F2 := fun_mk (st := sOffAll) l2 c2 k2
  have b2 := F2.binds (ps := ["motion", "wished"]) fun _ _ _ _ _ _ us hl => match us, hl with | [_, _], _ => rfl
  have m2 := PySem.W.mg_of X G a2
  have F3 := fun_mk (st := sOffWorst) l3 c3 k3
  have b3 := F3.binds (ps := ["motion", "wished"]) fun _ _ _ _ _ _ us hl => match us, hl with | [_, _], _ => rfl
  have m3 := PySem.W.mg_of X G a3
  have F4 := fun_mk (st := sTurned) l4 c4 k4
  have b4 := F4.binds (ps := ["cam", "k"]) fun _ _ _ _ _ _ us hl => match us, hl with | [_, _], _ => rfl
  have m4 := PySem.W.mg_of X G a4
  have F5 := fun_mk (st := sTogether) l5 c5 k5
  have b5 := F5.binds (ps := ["one", "other"]) fun _ _ _ _ _ _ us hl => match us, hl with | [_, _], _ => rfl
  have m5 := PySem.W.mg_of X G a5
  have F6 := fun_mk (st := sStill) l6 c6 k6
  have b6 := F6.binds (ps := ["places"]) fun _ _ _ _ _ _ us hl => match us, hl with | [_], _ => rfl
  have m6 := PySem.W.mg_of X G a6
  have F7 := fun_mk (st := sPartOf) l7 c7 k7
  have b7 := F7.binds (ps := ["cam", "number"]) fun _ _ _ _ _ _ us hl => match us, hl with | [_, _], _ => rfl
  have m7 := PySem.W.mg_of X G a7
  have F8 := fun_mk (st := sMotion) l8 c8 k8
  have b8 := F8.binds (ps := ["cams", "places", "plan"]) fun _ _ _ _ _ _ us hl => match us, hl with | [_, _, _], _ => rfl
  have m8 := PySem.W.mg_of X G a8
  have F9 := fun_mk (st := sGone) l9 c9 k9
  have b9 := F9.binds (ps := ["begun", "cam"]) fun _ _ _ _ _ _ us hl => match us, hl with | [_, _], _ => rfl
  have m9 := PySem.W.mg_of X G a9
  have F10 := fun_mk (st := sAllPlans) l10 c10 k10
  have b10 := F10.binds (ps := ["cams", "places"]) fun _ _ _ _ _ _ us hl => match us, hl with | [_, _], _ => rfl
  have m10 := PySem.W.mg_of X G a10
  have F11 := fun_mk (st := sCamsOn) l11 c11 k11
  have b11 := F11.binds (ps := ["plan", "places"]) fun _ _ _ _ _ _ us hl => match us, hl with | [_, _], _ => rfl
  have m11 := PySem.W.mg_of X G a11
  have F12 := fun_mk (st := sBest) l12 c12 k12
  have b12 := F12.binds (ps := ["rated"]) fun _ _ _ _ _ _ us hl => match us, hl with | [_], _ => rfl
  have m12 := PySem.W.mg_of X G a12
  have F13 := fun_mk (st := sNearest) l13 c13 k13
  have b13 := F13.binds (ps := ["box"]) fun _ _ _ _ _ _ us hl => match us, hl with | [_], _ => rfl
  have m13 := PySem.W.mg_of X G a13
  have F14 := fun_mk (st := sEvenest) l14 c14 k14
  have b14 := F14.binds (ps := ["box"]) fun _ _ _ _ _ _ us hl => match us, hl with | [_], _ => rfl
  have m14 := PySem.W.mg_of X G a14
  have F15 := fun_mk (st := sHeights) l15 c15 k15
  have b15 := F15.binds (ps := ["numbers", "places", "highest"]) fun _ _ _ _ _ _ us hl => match us, hl with | [_, _, _], _ => rfl
  have m15 := PySem.W.mg_of X G a15
  have F16 := fun_mk (st := sInit) l16 c16 k16
  have b16 := F16.binds (ps := ["self"]) fun _ _ _ _ _ _ us hl => match us, hl with | [_], _ => rfl
  have e16 : Meth K C "__init__" f16 := ⟨a16, i16, k16⟩
  have F17 := fun_mk (st := sBegins) l17 c17 k17
  have b17 := F17.binds (ps := ["self", "places"]) fun _ _ _ _ _ _ us hl => match us, hl with | [_, _], _ => rfl
  have e17 : Meth K C "begins" f17 := ⟨a17, i17, k17⟩
  have F18 := fun_mk (st := sTakes) l18 c18 k18
  have b18 := F18.binds (ps := ["self", "heights"]) fun _ _ _ _ _ _ us hl => match us, hl with | [_, _], _ => rfl
  have e18 : Meth K C "takes" f18 := ⟨a18, i18, k18⟩
  have F19 := fun_mk (st := sWishes) l19 c19 k19
  have b19 := F19.binds (ps := ["self", "heights"]) fun _ _ _ _ _ _ us hl => match us, hl with | [_, _], _ => rfl
  have e19 : Meth K C "wishes" f19 := ⟨a19, i19, k19⟩
  have F20 := fun_mk (st := sReadCall) l20 c20 k20
  have b20 := F20.binds (ps := ["calls", "at"]) fun _ _ _ _ _ _ us hl => match us, hl with | [_, _], _ => rfl
  have m20 := PySem.W.mg_of X G a20
  have F21 := fun_mk (st := sReadCalls) l21 c21 k21
  have b21 := F21.binds (ps := ["calls"]) fun _ _ _ _ _ _ us hl => match us, hl with | [_], _ => rfl
  have m21 := PySem.W.mg_of X G a21
  have F22 := fun_mk (st := sIsPlan) l22 c22 k22
  have b22 := F22.binds (ps := ["box", "plan"]) fun _ _ _ _ _ _ us hl => match us, hl with | [_, _], _ => rfl
  have m22 := PySem.W.mg_of X G a22
  have F23 := fun_mk (st := sToldSum) l23 c23 k23
  have b23 := F23.binds (ps := ["box", "plan"]) fun _ _ _ _ _ _ us hl => match us, hl with | [_, _], _ => rfl
  have m23 := PySem.W.mg_of X G a23
  have F24 := fun_mk (st := sToldOf) l24 c24 k24
  have b24 := F24.binds (ps := ["box", "call", "numbers"]) fun _ _ _ _ _ _ us hl => match us, hl with | [_, _, _], _ => rfl
  have m24 := PySem.W.mg_of X G a24
  have F25 := fun_mk (st := sAnswers) l25 c25 k25
  have b25 := F25.binds (ps := ["calls"]) fun _ _ _ _ _ _ us hl => match us, hl with | [_], _ => rfl
  have m25 := PySem.W.mg_of X G a25
  refine ⟨PySem.W.fnOf "answers" "answers" (defArgs sAnswers) (defBody sAnswers) (defScope sAnswers) .none kV25 dc25 pm25 an25 cd25 ct25, fun s us hu => match us, hu with | [_], _ => .of_eq rfl, fun base _ _ => ?_⟩
  have G2 := ok_offall (P := P) (w := w) (base := base) F2 N F1 m1 b1
  have G3 := ok_offworst (P := P) (w := w) (base := base) F3 N F1 m1 b1
  have G7 := ok_part (P := P) (w := w) (base := base) F7 N F4 m4 b4 F6 m6 b6
  have G8 := ok_motion (P := P) (w := w) (base := base) F8 N F4 m4 b4 F6 m6 b6 F7 m7 b7 F5 m5 b5
  have G9 := ok_gone (P := P) (w := w) (base := base) F9 N F7 m7 b7 G7 F5 m5 b5
  have G10 := ok_allplans (P := P) (w := w) (base := base) F10 F6 m6 b6 F9 m9 b9 G9
  have G11 := ok_camson (P := P) (w := w) (base := base) F11 N
  have G12 := ok_best (P := P) (w := w) (base := base) F12 N
  have G13 := ok_nearest (P := P) (w := w) (base := base) F13 T F10 m10 b10 G10 F2 m2 b2 G2 F11 m11 b11 G11 F12 m12 b12 G12
  have G14 := ok_evenest (P := P) (w := w) (base := base) F14 T F10 m10 b10 G10 F3 m3 b3 G3 F11 m11 b11 G11 F12 m12 b12 G12
  have G16 := ok_init (P := P) (w := w) (base := base) F16 T S
  have G17 := ok_begins (P := P) (w := w) (base := base) F17 T S
  have G18 := ok_takes (P := P) (w := w) (base := base) F18 T N S F15 m15 b15
  have G19 := ok_wishes (P := P) (w := w) (base := base) F19 T N S F15 m15 b15
  have G22 := ok_isplan (P := P) (w := w) (base := base) F22 T N
  have G23 := ok_toldsum (P := P) (w := w) (base := base) F23 T S F22 m22 b22 G22 F8 m8 b8 G8 F2 m2 b2 G2 F3 m3 b3 G3
  have G24 := ok_toldof (P := P) (w := w) (base := base) F24 T S2 F17 e17 b17 G17 F18 e18 b18 G18 F19 e19 b19 G19 F23 m23 b23 G23 F13 m13 b13 G13 F14 m14 b14 G14
  have G21 := ok_readcalls (P := P) (w := w) (base := base) F21 N S2 F20 m20 b20
  have G25 := ok_ans (P := P) (w := w) (base := base) F25 N T ⟨mk, a16, i16, kc⟩ b16 G16 F21 m21 b21 G21 F24 m24 b24 G24
  exact G25
end Cam
open PySem PySem.W PyProof.Rows
set_option maxRecDepth 100000 in
set_option maxHeartbeats 0 in
theorem PySem.Challenge.cw_cambox_s01_answers_holds : PySem.Challenge.rw_cambox_s01_answers.Holds := by
  w_on; k_headS; (case hw => exact ⟨[.list [.int 4]], by decide +kernel, by decide +kernel⟩)
  k_fillS
  refine L2.walk_specK (r := PySem.Challenge.rw_cambox_s01_answers) (k := 7) (CX := L2.CX0) (ps := ["calls"]) (sp := Cam.spAns) (by decide +kernel) rfl rfl ⟨rfl, by decide, by decide⟩ (fun w h Y => PySem.W.kIn_of Y) ?F ?S (fun _ _ _ _ z => z)
  case F =>
    intro w mg fa h Y KX G hmg
    refine' Cam.all_mk KX G hmg ?aC ?a1 ?l1 ?c1 ?k1 ?a2 ?l2 ?c2 ?k2 ?a3 ?l3 ?c3 ?k3 ?a4 ?l4 ?c4 ?k4 ?a5 ?l5 ?c5 ?k5 ?a6 ?l6 ?c6 ?k6 ?a7 ?l7 ?c7 ?k7 ?a8 ?l8 ?c8 ?k8 ?a9 ?l9 ?c9 ?k9 ?a10 ?l10 ?c10 ?k10 ?a11 ?l11 ?c11 ?k11 ?a12 ?l12 ?c12 ?k12 ?a13 ?l13 ?c13 ?k13 ?a14 ?l14 ?c14 ?k14 ?a15 ?l15 ?c15 ?k15 ?a16 ?i16 ?l16 ?c16 ?k16 ?a17 ?i17 ?l17 ?c17 ?k17 ?a18 ?i18 ?l18 ?c18 ?k18 ?a19 ?i19 ?l19 ?c19 ?k19 ?a20 ?l20 ?c20 ?k20 ?a21 ?l21 ?c21 ?k21 ?a22 ?l22 ?c22 ?k22 ?a23 ?l23 ?c23 ?k23 ?a24 ?l24 ?c24 ?k24 ?a25 ?l25 ?c25 ?k25 ?pg ?hd ?po ?sa ?mk ?kc ?nP ?nC ?nW ?v1 ?v2 ?v3 ?v4 ?v5 ?v6 ?v7 ?v8 ?v9 ?v10 ?v11 ?v12 ?v13 ?z1 ?z2 ?z3 ?z4 ?z5 ?z6 ?z7 ?z8 ?z9 ?z10
    (case aC => k_is); (case a1 => k_is); (case l1 => k_is); (case c1 => k_is); (case k1 => k_is); (case a2 => k_is)
    (case l2 => k_is); (case c2 => k_is); (case k2 => k_is); (case a3 => k_is); (case l3 => k_is); (case c3 => k_is)
    (case k3 => k_is); (case a4 => k_is); (case l4 => k_is); (case c4 => k_is); (case k4 => k_is); (case a5 => k_is)
    (case l5 => k_is); (case c5 => k_is); (case k5 => k_is); (case a6 => k_is); (case l6 => k_is); (case c6 => k_is)
    (case k6 => k_is); (case a7 => k_is); (case l7 => k_is); (case c7 => k_is); (case k7 => k_is); (case a8 => k_is)
    (case l8 => k_is); (case c8 => k_is); (case k8 => k_is); (case a9 => k_is); (case l9 => k_is); (case c9 => k_is)
    (case k9 => k_is); (case a10 => k_is); (case l10 => k_is); (case c10 => k_is); (case k10 => k_is); (case a11 => k_is)
    (case l11 => k_is); (case c11 => k_is); (case k11 => k_is); (case a12 => k_is); (case l12 => k_is); (case c12 => k_is)
    (case k12 => k_is); (case a13 => k_is); (case l13 => k_is); (case c13 => k_is); (case k13 => k_is); (case a14 => k_is)
    (case l14 => k_is); (case c14 => k_is); (case k14 => k_is); (case a15 => k_is); (case l15 => k_is); (case c15 => k_is)
    (case k15 => k_is); (case a16 => k_is); (case i16 => k_is); (case l16 => k_is); (case c16 => k_is); (case k16 => k_is)
    (case a17 => k_is); (case i17 => k_is); (case l17 => k_is); (case c17 => k_is); (case k17 => k_is); (case a18 => k_is)
    (case i18 => k_is); (case l18 => k_is); (case c18 => k_is); (case k18 => k_is); (case a19 => k_is); (case i19 => k_is)
    (case l19 => k_is); (case c19 => k_is); (case k19 => k_is); (case a20 => k_is); (case l20 => k_is); (case c20 => k_is)
    (case k20 => k_is); (case a21 => k_is); (case l21 => k_is); (case c21 => k_is); (case k21 => k_is); (case a22 => k_is)
    (case l22 => k_is); (case c22 => k_is); (case k22 => k_is); (case a23 => k_is); (case l23 => k_is); (case c23 => k_is)
    (case k23 => k_is); (case a24 => k_is); (case l24 => k_is); (case c24 => k_is); (case k24 => k_is); (case a25 => k_is)
    (case l25 => k_is); (case c25 => k_is); (case k25 => k_is); (case pg => k_is); (case hd => k_is); (case po => k_is)
    (case sa => k_is); (case mk => k_is); (case kc => k_is); (case nP => k_is); (case nC => k_is); (case nW => k_is)
    (case v1 => k_is); (case v2 => k_is); (case v3 => k_is); (case v4 => k_is); (case v5 => k_is); (case v6 => k_is)
    (case v7 => k_is); (case v8 => k_is); (case v9 => k_is); (case v10 => k_is); (case v11 => k_is); (case v12 => k_is)
    (case v13 => k_is); (case z1 => k_is); (case z2 => k_is); (case z3 => k_is); (case z4 => k_is); (case z5 => k_is)
    (case z6 => k_is); (case z7 => k_is); (case z8 => k_is); (case z9 => k_is); (case z10 => k_is)
  case S =>
    intro K H xs a hO hwi hask hx
    cases hx with
    | cons h1 h2 =>
      cases h2
      cases h1 with
      | lst hs ha =>
        have e := L2.ints_dw a.1 _ ha
        subst e
        have q : ((Codec.inLen 0 3000 a.1 && a.1.all (Codec.inInt 0 4294967295)) && true) = true := hwi
        rw [Bool.and_eq_true, Bool.and_eq_true] at q
        exact ⟨_, a.1, rfl, hs, (Codec.inNat_iff.mp q.1.1).2, hask, fun H' p hp => .lst (L2.SqL.of hp) (L2.dw_ints _)⟩
#print axioms PySem.Challenge.cw_cambox_s01_answers_holds
