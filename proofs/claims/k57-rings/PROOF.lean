import PyProof.Rows.All
import Wide.All
import OpenK.AllK
import Wide.FinOn
import HandS.ForMost
import HandS.Strs
import HandS.DictComp
import HandS.Codes
import HandS.Walk
import KE.DatumOrd
import KE.GoesEnum
import PyProof.DictUpdate
import PyProof.Rows.SetFrom
import HandS.Lambda
import HandS.Nested
import HandS.EndTab
import HandS.FStr
import HandS.Conv
import HandS.IsInst
import HandS.RaiseMore
import PySem.Challenge.RW_everyhalf_k57_whole_rings_of_trees
import HandS.Small
import HandS.Head0
import HandS.Head1
import HandS.Head2
import HandS.HeadEnd
import HandS.HeadHook1
import HandS.HeadHook2
import HandS.HeadHook3
import HandS.HeadHook4
import HandS.HeadWalk
import KE.KNestM
set_option Elab.async false
set_option linter.all false
set_option maxRecDepth 100000
/-! Words as lists of Bool (true: the sign 1): Dyck words, turning, pulling, swapping. -/
namespace Eh
abbrev Wd := List Bool
/-- f said n times -/
def it {α : Type} (f : α → α) : Nat → α → α
  | 0, x => x
  | n + 1, x => it f n (f x)
theorem it_add {α : Type} (f : α → α) : ∀ (m n : Nat) (x : α), it f (m + n) x = it f n (it f m x)
  | 0, n, x => by rw [Nat.zero_add]; rfl
  | m + 1, n, x => by
    rw [show m + 1 + n = (m + n) + 1 by omega]
    exact it_add f m n (f x)
theorem it_one {α : Type} (f : α → α) (x : α) : it f 1 x = f x := rfl
theorem it_succ {α : Type} (f : α → α) (n : Nat) (x : α) : it f (n + 1) x = f (it f n x) := it_add f n 1 x
theorem it_comm {α : Type} (f : α → α) (m n : Nat) (x : α) : it f m (it f n x) = it f n (it f m x) := by
  rw [← it_add, ← it_add, Nat.add_comm]
theorem it_mul {α : Type} (f : α → α) {p : Nat} {x : α} (h : it f p x = x) : ∀ k : Nat, it f (k * p) x = x
  | 0 => by rw [Nat.zero_mul]; rfl
  | k + 1 => by rw [Nat.succ_mul, it_add, it_mul f h k, h]

inductive Dyck : Wd → Prop
  | nil : Dyck []
  | cons {u v : Wd} : Dyck u → Dyck v → Dyck (true :: (u ++ false :: v))
theorem Dyck.app {a b : Wd} (ha : Dyck a) (hb : Dyck b) : Dyck (a ++ b) := by
  induction ha with
  | nil => exact hb
  | cons hu hv ihu ihv =>
    rw [List.cons_append, List.append_assoc, List.cons_append]
    exact Dyck.cons hu ihv
theorem Dyck.last {u v : Wd} (hu : Dyck u) (hv : Dyck v) : Dyck (u ++ true :: (v ++ [false])) := hu.app (Dyck.cons hv Dyck.nil)
/-- the height behind a list -/
def ht : Wd → Int
  | [] => 0
  | true :: r => ht r + 1
  | false :: r => ht r - 1
theorem ht_app : ∀ a b : Wd, ht (a ++ b) = ht a + ht b
  | [], b => by simp [ht]
  | true :: r, b => by simp only [List.cons_append, ht, ht_app r b]; omega
  | false :: r, b => by simp only [List.cons_append, ht, ht_app r b]; omega
theorem Dyck.ht0 {a : Wd} (h : Dyck a) : ht a = 0 := by
  induction h with
  | nil => rfl
  | cons hu hv ihu ihv => simp only [ht, ht_app, ihu, ihv]; omega
theorem Dyck.htLe {a : Wd} (h : Dyck a) : ∀ k, 0 ≤ ht (a.take k) := by
  induction h with
  | nil => intro k; rw [List.take_nil]; exact Int.le_refl 0
  | @cons u v hu hv ihu ihv =>
    intro k
    cases k with
    | zero => exact Int.le_refl 0
    | succ k =>
      rw [List.take_succ_cons, List.take_append]
      simp only [ht, ht_app]
      by_cases hk : k ≤ u.length
      · rw [Nat.sub_eq_zero_of_le hk, List.take_zero]
        have := ihu k
        simp only [ht]; omega
      · obtain ⟨j, hj⟩ : ∃ j, k - u.length = j + 1 := ⟨k - u.length - 1, by omega⟩
        rw [hj, List.take_succ_cons, List.take_of_length_le (by omega), hu.ht0]
        have := ihv j
        simp only [ht]; omega
/-- below its end the first block stays above the ground -/
theorem ht_first {u v : Wd} (hu : Dyck u) {k : Nat} (hk : k ≤ u.length) : 1 ≤ ht ((true :: (u ++ false :: v)).take (k + 1)) := by
  rw [List.take_succ_cons, List.take_append, Nat.sub_eq_zero_of_le hk, List.take_zero, List.append_nil]
  have := hu.htLe k
  simp only [ht]; omega
theorem ht_ground {u v : Wd} (hu : Dyck u) : ht ((true :: (u ++ false :: v)).take (u.length + 2)) = 0 := by
  rw [List.take_succ_cons, List.take_append, List.take_of_length_le (by omega), show u.length + 1 - u.length = 1 by omega, List.take_succ_cons, List.take_zero]
  simp only [ht, ht_app, hu.ht0]; omega
theorem ht_parity : ∀ a : Wd, ∃ k : Int, (a.length : Int) = 2 * k + ht a
  | [] => ⟨0, rfl⟩
  | true :: r => by
    obtain ⟨k, h⟩ := ht_parity r
    exact ⟨k, by simp only [List.length_cons, ht]; omega⟩
  | false :: r => by
    obtain ⟨k, h⟩ := ht_parity r
    exact ⟨k + 1, by simp only [List.length_cons, ht]; omega⟩

/-- inside at depth d + 1: what stands up to the sign 0 by which the ground is come to, and behind it -/
def spl : Nat → Wd → Wd × Wd
  | _, [] => ([], [])
  | d, true :: r => (true :: (spl (d + 1) r).1, (spl (d + 1) r).2)
  | 0, false :: r => ([], r)
  | d + 1, false :: r => (false :: (spl d r).1, (spl d r).2)
theorem spl_dyck {u : Wd} (hu : Dyck u) : ∀ (d : Nat) (x : Wd), spl d (u ++ x) = (u ++ (spl d x).1, (spl d x).2) := by
  induction hu with
  | nil => intro d x; rfl
  | @cons u v hu hv ihu ihv =>
    intro d x
    rw [List.cons_append, List.append_assoc, List.cons_append]
    simp only [spl]
    rw [ihu (d + 1) (false :: (v ++ x))]
    simp only [spl]
    rw [ihv d x]
    simp [List.append_assoc]
theorem spl_first {u v : Wd} (hu : Dyck u) : spl 0 (u ++ false :: v) = (u, v) := by
  rw [spl_dyck hu 0 (false :: v)]
  simp [spl]
/-- a word turned: u 1 v 0 for 1 u 0 v -/
def turn : Wd → Wd
  | true :: r => (spl 0 r).1 ++ true :: ((spl 0 r).2 ++ [false])
  | w => w
theorem turn_cons {u v : Wd} (hu : Dyck u) : turn (true :: (u ++ false :: v)) = u ++ true :: (v ++ [false]) := by
  simp only [turn, spl_first hu]
theorem Dyck.parts {w : Wd} (h : Dyck w) (hw : w ≠ []) : ∃ u v, Dyck u ∧ Dyck v ∧ w = true :: (u ++ false :: v) := by
  cases h with
  | nil => exact absurd rfl hw
  | cons hu hv => exact ⟨_, _, hu, hv, rfl⟩
theorem Dyck.turn {w : Wd} (h : Dyck w) : Dyck (turn w) := by
  cases h with
  | nil => exact Dyck.nil
  | cons hu hv => rw [turn_cons hu]; exact hu.last hv
theorem turn_len {w : Wd} (h : Dyck w) : (turn w).length = w.length := by
  cases h with
  | nil => rfl
  | cons hu hv => rw [turn_cons hu]; simp only [List.length_append, List.length_cons, List.length_nil]; omega
/-- turned as often as it has signs, the part ahead comes behind -/
theorem turn_round {a : Wd} (ha : Dyck a) : ∀ v, Dyck v → it turn a.length (a ++ v) = v ++ a := by
  induction ha with
  | nil => intro v _; rw [List.append_nil]; rfl
  | @cons u a' hu ha' ihu iha =>
    intro v hv
    have e1 : (true :: (u ++ false :: a')).length = 1 + (u.length + (1 + a'.length)) := by simp only [List.length_append, List.length_cons]; omega
    have e2 : it turn 1 (true :: (u ++ false :: a') ++ v) = u ++ (true :: (a' ++ v) ++ [false]) := by
      rw [List.cons_append, List.append_assoc, List.cons_append, it_one, turn_cons hu]; simp
    have e3 : it turn u.length (u ++ (true :: (a' ++ v) ++ [false])) = (true :: (a' ++ v) ++ [false]) ++ u := ihu _ (Dyck.cons (ha'.app hv) Dyck.nil)
    have e4 : it turn 1 ((true :: (a' ++ v) ++ [false]) ++ u) = a' ++ (v ++ (true :: u ++ [false])) := by
      rw [it_one, show (true :: (a' ++ v) ++ [false]) ++ u = true :: ((a' ++ v) ++ false :: u) by simp, turn_cons (ha'.app hv)]
      simp
    have e5 : it turn a'.length (a' ++ (v ++ (true :: u ++ [false]))) = (v ++ (true :: u ++ [false])) ++ a' := iha _ (hv.app (Dyck.cons hu Dyck.nil))
    rw [e1, it_add, e2, it_add, e3, it_add, e4, e5]
    simp
theorem turn_full {w : Wd} (h : Dyck w) : it turn w.length w = w := by
  have := turn_round h [] Dyck.nil
  rw [List.append_nil] at this
  exact this
theorem Dyck.itTurn {w : Wd} (h : Dyck w) : ∀ n, Dyck (it Eh.turn n w)
  | 0 => h
  | n + 1 => by rw [it_succ]; exact (Dyck.itTurn h n).turn
theorem itTurn_len {w : Wd} (h : Dyck w) : ∀ n, (it turn n w).length = w.length
  | 0 => rfl
  | n + 1 => by rw [it_succ, turn_len (Dyck.itTurn h n), itTurn_len h n]
theorem turn_inj {a b : Wd} (ha : Dyck a) (hb : Dyck b) (e : turn a = turn b) : a = b := by
  have hl : a.length = b.length := by rw [← turn_len ha, ← turn_len hb, e]
  cases hn : a.length with
  | zero =>
    rw [hn] at hl
    rw [List.eq_nil_of_length_eq_zero hn, List.eq_nil_of_length_eq_zero hl.symm]
  | succ n =>
    have h1 := turn_full ha
    have h2 := turn_full hb
    rw [← hl, hn] at h2
    rw [hn] at h1
    rw [← h1, ← h2]
    show it turn n (turn a) = it turn n (turn b)
    rw [e]

/-! ### pulls -/
theorem Dyck.not_false {r : Wd} : ¬ Dyck (false :: r) := fun h => by cases h
/-- a word that begins so can be pulled -/
def canPull (w : Wd) : Bool := w.take 3 == [true, true, false]
def near (w : Wd) : Bool := w.take 3 == [true, false, true]
def pull (w : Wd) : Wd := [true, false, true] ++ w.drop 3
def unpull (w : Wd) : Wd := [true, true, false] ++ w.drop 3
theorem canPull_shape {w : Wd} (h : canPull w = true) : ∃ r, w = true :: true :: false :: r := by
  have h' : w.take 3 = [true, true, false] := by simpa [canPull] using h
  exact ⟨w.drop 3, by rw [← List.take_append_drop 3 w, h']; simp⟩
theorem near_shape {w : Wd} (h : near w = true) : ∃ r, w = true :: false :: true :: r := by
  have h' : w.take 3 = [true, false, true] := by simpa [near] using h
  exact ⟨w.drop 3, by rw [← List.take_append_drop 3 w, h']; simp⟩
theorem canPull_cons (r : Wd) : canPull (true :: true :: false :: r) = true := by simp [canPull]
theorem near_cons (r : Wd) : near (true :: false :: true :: r) = true := by simp [near]
theorem pull_cons (a b c : Bool) (r : Wd) : pull (a :: b :: c :: r) = true :: false :: true :: r := rfl
theorem unpull_cons (a b c : Bool) (r : Wd) : unpull (a :: b :: c :: r) = true :: true :: false :: r := rfl
theorem near_pull {w : Wd} (h : canPull w = true) : near (pull w) = true := by
  obtain ⟨r, rfl⟩ := canPull_shape h; exact near_cons r
theorem can_unpull {w : Wd} (h : near w = true) : canPull (unpull w) = true := by
  obtain ⟨r, rfl⟩ := near_shape h; exact canPull_cons r
theorem unpull_pull {w : Wd} (h : canPull w = true) : unpull (pull w) = w := by
  obtain ⟨r, rfl⟩ := canPull_shape h; rfl
theorem pull_unpull {w : Wd} (h : near w = true) : pull (unpull w) = w := by
  obtain ⟨r, rfl⟩ := near_shape h; rfl
theorem near_not {w : Wd} (h : canPull w = true) : near w = false := by
  obtain ⟨r, rfl⟩ := canPull_shape h; simp [near]
theorem can_not {w : Wd} (h : near w = true) : canPull w = false := by
  obtain ⟨r, rfl⟩ := near_shape h; simp [canPull]
theorem pull_ne {w : Wd} (h : canPull w = true) : pull w ≠ w := fun e => by
  have h1 := near_pull h
  rw [e, near_not h] at h1
  cases h1
theorem pull_len {w : Wd} (h : canPull w = true) : (pull w).length = w.length := by
  obtain ⟨r, rfl⟩ := canPull_shape h; rfl
theorem unpull_len {w : Wd} (h : near w = true) : (unpull w).length = w.length := by
  obtain ⟨r, rfl⟩ := near_shape h; rfl
theorem Dyck.pull {w : Wd} (h : Dyck w) (hc : canPull w = true) : Dyck (pull w) := by
  obtain ⟨r, rfl⟩ := canPull_shape hc
  obtain ⟨u, v, hu, hv, e⟩ := h.parts (by simp)
  injection e with _ e
  cases hu with
  | nil => simp at e
  | @cons u1 u2 hu1 hu2 =>
    rw [List.cons_append, List.append_assoc, List.cons_append] at e
    injection e with _ e
    cases hu1 with
    | nil =>
      rw [List.nil_append] at e
      injection e with _ e
      rw [e]
      exact Dyck.cons Dyck.nil (Dyck.cons hu2 hv)
    | cons _ _ => simp at e
theorem Dyck.unpull {w : Wd} (h : Dyck w) (hc : near w = true) : Dyck (unpull w) := by
  obtain ⟨r, rfl⟩ := near_shape hc
  obtain ⟨u, v, hu, hv, e⟩ := h.parts (by simp)
  injection e with _ e
  cases hu with
  | nil =>
    rw [List.nil_append] at e
    injection e with _ e
    subst e
    obtain ⟨v1, v2, hv1, hv2, e⟩ := hv.parts (by simp)
    injection e with _ e
    show Dyck (true :: true :: false :: r)
    rw [e]
    exact Dyck.cons (u := [true, false] ++ v1) (Dyck.app (Dyck.cons Dyck.nil Dyck.nil) hv1) hv2
  | cons _ _ => simp at e
/-! ### swapped by a book -/
def swap (B : List Wd) (w : Wd) : Wd := if w ∈ B then pull w else if near w = true ∧ unpull w ∈ B then unpull w else w
/-- a book: each of its words can be pulled -/
def Bk (B : List Wd) : Prop := ∀ x ∈ B, Dyck x ∧ canPull x = true
theorem Bk.tail {x : Wd} {B : List Wd} (h : Bk (x :: B)) : Bk B := fun y hy => h y (List.mem_cons_of_mem _ hy)
theorem swap_mem {B : List Wd} {w : Wd} (h : w ∈ B) : swap B w = pull w := if_pos h
theorem swap_pull {B : List Wd} {w : Wd} (hB : Bk B) (h : w ∈ B) : swap B (pull w) = w := by
  have hc := (hB w h).2
  have hn : pull w ∉ B := fun z => by
    have := (hB _ z).2
    rw [can_not (near_pull hc)] at this
    cases this
  unfold swap
  rw [if_neg hn, unpull_pull hc, if_pos ⟨near_pull hc, h⟩]
theorem swap_swap {B : List Wd} (hB : Bk B) (w : Wd) : swap B (swap B w) = w := by
  by_cases h : w ∈ B
  · rw [swap_mem h, swap_pull hB h]
  · by_cases h2 : near w = true ∧ unpull w ∈ B
    · have e : swap B w = unpull w := by unfold swap; rw [if_neg h, if_pos h2]
      rw [e, swap_mem h2.2, pull_unpull h2.1]
    · have e : swap B w = w := by unfold swap; rw [if_neg h, if_neg h2]
      rw [e, e]
theorem swap_inj {B : List Wd} (hB : Bk B) {a b : Wd} (e : swap B a = swap B b) : a = b := by
  rw [← swap_swap hB a, e, swap_swap hB b]
theorem Dyck.swap {B : List Wd} (hB : Bk B) {w : Wd} (h : Dyck w) : Dyck (swap B w) := by
  unfold Eh.swap
  split
  · rename_i hm; exact h.pull (hB w hm).2
  · split
    · rename_i hm; exact h.unpull hm.1
    · exact h
theorem swap_len {B : List Wd} (hB : Bk B) (w : Wd) : (swap B w).length = w.length := by
  unfold swap
  split
  · rename_i hm; exact pull_len (hB w hm).2
  · split
    · rename_i hm; exact unpull_len hm.1
    · rfl
theorem swap_nil (w : Wd) : swap [] w = w := by simp [swap]
/-- one word more: x and x pulled are exchanged first -/
theorem swap_cons {x : Wd} {B : List Wd} (hB : Bk (x :: B)) (hx : x ∉ B) (w : Wd) :
    swap (x :: B) w = if w = x then swap B (pull x) else if w = pull x then swap B x else swap B w := by
  have hc := (hB x List.mem_cons_self).2
  have npB : pull x ∉ B := fun z => by
    have := (hB _ (List.mem_cons_of_mem _ z)).2
    rw [can_not (near_pull hc)] at this
    cases this
  have e1 : swap B (pull x) = pull x := by
    unfold swap
    rw [if_neg npB, if_neg (fun z => by rw [unpull_pull hc] at z; exact hx z.2)]
  have e2 : swap B x = x := by
    unfold swap
    rw [if_neg hx, if_neg (fun z => by rw [near_not hc] at z; exact nomatch z.1)]
  by_cases h : w = x
  · subst h
    rw [if_pos rfl, swap_mem List.mem_cons_self, e1]
  · rw [if_neg h]
    by_cases h2 : w = pull x
    · subst h2
      rw [if_pos rfl, swap_pull hB List.mem_cons_self, e2]
    · rw [if_neg h2]
      have m1 : w ∈ x :: B ↔ w ∈ B := by simp [h]
      have m2 : (near w = true ∧ unpull w ∈ x :: B) ↔ (near w = true ∧ unpull w ∈ B) := by
        constructor
        · rintro ⟨a, b⟩
          refine ⟨a, ?_⟩
          rcases List.mem_cons.mp b with z | z
          · exact absurd (by rw [← z, pull_unpull a]) h2
          · exact z
        · rintro ⟨a, b⟩; exact ⟨a, List.mem_cons_of_mem _ b⟩
      unfold swap
      simp only [m1, m2]
end Eh

/-! Orbits of a periodic function, the number of classes of a relation in a list, one transposition more. -/
namespace Eh
section
variable {α : Type}
theorem least {P : Nat → Prop} : ∀ n, P n → ∃ k, k ≤ n ∧ P k ∧ ∀ m, m < k → ¬ P m := by
  intro n
  induction n using Nat.strongRecOn with
  | ind n ih =>
    intro h
    by_cases hz : ∃ m, m < n ∧ P m
    · obtain ⟨m, hm, hp⟩ := hz
      obtain ⟨k, h1, h2, h3⟩ := ih m hm hp
      exact ⟨k, by omega, h2, h3⟩
    · exact ⟨n, Nat.le_refl n, h, fun m hm hp => hz ⟨m, hm, hp⟩⟩
/-! ### relations, classes -/
structure Eqv (R : α → α → Prop) : Prop where
  refl : ∀ x, R x x
  symm : ∀ {x y}, R x y → R y x
  trans : ∀ {x y z}, R x y → R y z → R x z
/-- R joined by a and b -/
def Join (R : α → α → Prop) (a b : α) (x y : α) : Prop := R x y ∨ (R x a ∧ R b y) ∨ (R x b ∧ R a y)
theorem Join.eqv {R : α → α → Prop} (h : Eqv R) (a b : α) : Eqv (Join R a b) where
  refl := fun x => .inl (h.refl x)
  symm := fun {x y} q => by
    rcases q with q | ⟨q, r⟩ | ⟨q, r⟩
    · exact .inl (h.symm q)
    · exact .inr (.inr ⟨h.symm r, h.symm q⟩)
    · exact .inr (.inl ⟨h.symm r, h.symm q⟩)
  trans := fun {x y z} q r => by
    rcases q with q | ⟨q1, q2⟩ | ⟨q1, q2⟩
    · rcases r with r | ⟨r1, r2⟩ | ⟨r1, r2⟩
      · exact .inl (h.trans q r)
      · exact .inr (.inl ⟨h.trans q r1, r2⟩)
      · exact .inr (.inr ⟨h.trans q r1, r2⟩)
    · rcases r with r | ⟨r1, r2⟩ | ⟨r1, r2⟩
      · exact .inr (.inl ⟨q1, h.trans q2 r⟩)
      · exact .inr (.inl ⟨q1, r2⟩)
      · exact .inl (h.trans q1 r2)
    · rcases r with r | ⟨r1, r2⟩ | ⟨r1, r2⟩
      · exact .inr (.inr ⟨q1, h.trans q2 r⟩)
      · exact .inl (h.trans q1 r2)
      · exact .inr (.inr ⟨q1, r2⟩)
theorem Join.same {R : α → α → Prop} (h : Eqv R) {a b : α} (hab : R a b) (x y : α) : Join R a b x y ↔ R x y := by
  constructor
  · rintro (q | ⟨q, r⟩ | ⟨q, r⟩)
    · exact q
    · exact h.trans q (h.trans hab r)
    · exact h.trans q (h.trans (h.symm hab) r)
  · exact .inl
theorem Join.mono {R R' : α → α → Prop} (h : ∀ x y, R x y → R' x y) {a b x y : α} : Join R a b x y → Join R' a b x y := by
  rintro (q | ⟨q, r⟩ | ⟨q, r⟩)
  · exact .inl (h _ _ q)
  · exact .inr (.inl ⟨h _ _ q, h _ _ r⟩)
  · exact .inr (.inr ⟨h _ _ q, h _ _ r⟩)
open Classical in
/-- how many classes of R a list meets -/
noncomputable def cls (R : α → α → Prop) : List α → Nat
  | [] => 0
  | x :: l => (if ∃ y ∈ l, R x y then 0 else 1) + cls R l
theorem cls_in {R : α → α → Prop} {x : α} {l : List α} (h : ∃ y ∈ l, R x y) : cls R (x :: l) = cls R l := by
  simp only [cls]; rw [if_pos h, Nat.zero_add]
theorem cls_out {R : α → α → Prop} {x : α} {l : List α} (h : ¬ ∃ y ∈ l, R x y) : cls R (x :: l) = cls R l + 1 := by
  simp only [cls]; rw [if_neg h, Nat.add_comm]
theorem cls_head {R R' : α → α → Prop} {x x' : α} {l l' : List α} (e : (∃ y ∈ l, R x y) ↔ ∃ y ∈ l', R' x' y) (h : cls R l = cls R' l') : cls R (x :: l) = cls R' (x' :: l') := by
  by_cases q : ∃ y ∈ l, R x y
  · rw [cls_in q, cls_in (e.mp q), h]
  · rw [cls_out q, cls_out (fun z => q (e.mpr z)), h]
theorem cls_congr {R R' : α → α → Prop} : ∀ {l : List α}, (∀ x ∈ l, ∀ y ∈ l, R x y ↔ R' x y) → cls R l = cls R' l
  | [], _ => rfl
  | x :: l, h => by
    have ih := cls_congr (l := l) fun a ha b hb => h a (List.mem_cons_of_mem _ ha) b (List.mem_cons_of_mem _ hb)
    have e : (∃ y ∈ l, R x y) ↔ ∃ y ∈ l, R' x y :=
      ⟨fun ⟨y, hy, r⟩ => ⟨y, hy, (h x List.mem_cons_self y (List.mem_cons_of_mem _ hy)).mp r⟩, fun ⟨y, hy, r⟩ => ⟨y, hy, (h x List.mem_cons_self y (List.mem_cons_of_mem _ hy)).mpr r⟩⟩
    exact cls_head e ih
theorem cls_mono {R R' : α → α → Prop} (h : ∀ x y, R x y → R' x y) : ∀ l : List α, cls R' l ≤ cls R l
  | [] => Nat.le_refl _
  | x :: l => by
    have ih := cls_mono h l
    by_cases q : ∃ y ∈ l, R x y
    · obtain ⟨y, hy, r⟩ := q
      rw [cls_in ⟨y, hy, r⟩, cls_in ⟨y, hy, h _ _ r⟩]; exact ih
    · rw [cls_out q]
      by_cases q' : ∃ y ∈ l, R' x y
      · rw [cls_in q']; omega
      · rw [cls_out q']; omega
theorem cls_perm {R : α → α → Prop} (h : Eqv R) {l l' : List α} (p : l.Perm l') : cls R l = cls R l' := by
  induction p with
  | nil => rfl
  | @cons x l l' p ih =>
    have e : (∃ y ∈ l, R x y) ↔ ∃ y ∈ l', R x y := ⟨fun ⟨y, hy, r⟩ => ⟨y, p.mem_iff.mp hy, r⟩, fun ⟨y, hy, r⟩ => ⟨y, p.mem_iff.mpr hy, r⟩⟩
    exact cls_head e ih
  | swap x y l =>
    by_cases hxy : R x y
    · by_cases hx : ∃ z ∈ l, R x z
      · have hy : ∃ z ∈ l, R y z := hx.elim fun z ⟨hz, r⟩ => ⟨z, hz, h.trans (h.symm hxy) r⟩
        rw [cls_in (hy.elim fun z ⟨hz, r⟩ => ⟨z, List.mem_cons_of_mem _ hz, r⟩), cls_in hx, cls_in (hx.elim fun z ⟨hz, r⟩ => ⟨z, List.mem_cons_of_mem _ hz, r⟩), cls_in hy]
      · have hy : ¬ ∃ z ∈ l, R y z := fun ⟨z, hz, r⟩ => hx ⟨z, hz, h.trans hxy r⟩
        rw [cls_in ⟨x, List.mem_cons_self, h.symm hxy⟩, cls_out hx, cls_in ⟨y, List.mem_cons_self, hxy⟩, cls_out hy]
    · have e1 : (∃ z ∈ x :: l, R y z) ↔ ∃ z ∈ l, R y z := ⟨fun ⟨z, hz, r⟩ => (List.mem_cons.mp hz).elim (fun e => absurd (h.symm (e ▸ r)) hxy) fun hz => ⟨z, hz, r⟩, fun ⟨z, hz, r⟩ => ⟨z, List.mem_cons_of_mem _ hz, r⟩⟩
      have e2 : (∃ z ∈ y :: l, R x z) ↔ ∃ z ∈ l, R x z := ⟨fun ⟨z, hz, r⟩ => (List.mem_cons.mp hz).elim (fun e => absurd (e ▸ r) hxy) fun hz => ⟨z, hz, r⟩, fun ⟨z, hz, r⟩ => ⟨z, List.mem_cons_of_mem _ hz, r⟩⟩
      by_cases hx : ∃ z ∈ l, R x z
      · rw [cls_in (x := x) (e2.mpr hx)]
        by_cases hy : ∃ z ∈ l, R y z
        · rw [cls_in hy, cls_in (e1.mpr hy), cls_in hx]
        · rw [cls_out hy, cls_out (fun z => hy (e1.mp z)), cls_in hx]
      · rw [cls_out (x := x) (fun z => hx (e2.mp z))]
        by_cases hy : ∃ z ∈ l, R y z
        · rw [cls_in hy, cls_in (e1.mpr hy), cls_out hx]
        · rw [cls_out hy, cls_out (fun z => hy (e1.mp z)), cls_out hx]
  | trans _ _ ih1 ih2 => exact ih1.trans ih2
theorem cls_apart {R : α → α → Prop} : ∀ {A B : List α}, (∀ x ∈ A, ∀ y ∈ B, ¬ R x y) → cls R (A ++ B) = cls R A + cls R B
  | [], B, _ => by simp [cls]
  | x :: A, B, h => by
    have ih := cls_apart (A := A) (B := B) fun a ha b hb => h a (List.mem_cons_of_mem _ ha) b hb
    have e : (∃ y ∈ A ++ B, R x y) ↔ ∃ y ∈ A, R x y := ⟨fun ⟨y, hy, r⟩ => (List.mem_append.mp hy).elim (fun q => ⟨y, q, r⟩) fun q => absurd r (h x List.mem_cons_self y q), fun ⟨y, hy, r⟩ => ⟨y, List.mem_append_left _ hy, r⟩⟩
    rw [List.cons_append]
    by_cases q : ∃ y ∈ A, R x y
    · rw [cls_in q, cls_in (e.mpr q), ih]
    · rw [cls_out q, cls_out (fun z => q (e.mp z)), ih]; omega
theorem cls_one {R : α → α → Prop} : ∀ {A : List α}, A ≠ [] → (∀ x ∈ A, ∀ y ∈ A, R x y) → cls R A = 1
  | [], h, _ => absurd rfl h
  | [x], _, _ => by rw [cls_out (fun ⟨y, hy, _⟩ => by simp at hy)]; rfl
  | x :: y :: l, _, h => by
    rw [cls_in ⟨y, List.mem_cons_self, h x List.mem_cons_self y (by simp)⟩]
    exact cls_one (by simp) fun a ha b hb => h a (List.mem_cons_of_mem _ ha) b (List.mem_cons_of_mem _ hb)
open Classical in
theorem split_perm (p : α → Prop) (l : List α) : l.Perm (l.filter (fun x => decide (p x)) ++ l.filter (fun x => decide (¬ p x))) := by
  induction l with
  | nil => exact List.Perm.nil
  | cons x l ih =>
    by_cases h : p x
    · rw [List.filter_cons_of_pos (by simpa using h), List.filter_cons_of_neg (by simpa using h)]
      exact List.Perm.cons x ih
    · rw [List.filter_cons_of_neg (by simpa using h), List.filter_cons_of_pos (by simpa using h)]
      exact (List.Perm.cons x ih).trans List.perm_middle.symm
theorem split_by (p : α → Prop) (l : List α) : ∃ A B : List α, l.Perm (A ++ B) ∧ (∀ x, x ∈ A ↔ x ∈ l ∧ p x) ∧ ∀ x, x ∈ B ↔ x ∈ l ∧ ¬ p x :=
  ⟨_, _, split_perm p l, fun x => by rw [List.mem_filter]; simp, fun x => by rw [List.mem_filter]; simp⟩
/-- the classes of a and of b become one -/
theorem cls_join {R : α → α → Prop} (h : Eqv R) {a b : α} {S : List α} (ha : a ∈ S) (hb : b ∈ S) (hab : ¬ R a b) : cls R S = cls (Join R a b) S + 1 := by
  have hJ := Join.eqv h a b
  obtain ⟨A, T, p1, mA, mT⟩ := split_by (fun x => R x a) S
  obtain ⟨B, C, p2, mB, mC⟩ := split_by (fun x => R x b) T
  have pp : S.Perm (A ++ (B ++ C)) := p1.trans (List.Perm.append (List.Perm.refl _) p2)
  have aA : a ∈ A := (mA a).mpr ⟨ha, h.refl a⟩
  have bB : b ∈ B := (mB b).mpr ⟨(mT b).mpr ⟨hb, fun z => hab (h.symm z)⟩, h.refl b⟩
  have neA : A ≠ [] := List.ne_nil_of_mem aA
  have neB : B ≠ [] := List.ne_nil_of_mem bB
  have r1 : cls R S = 1 + (1 + cls R C) := by
    rw [cls_perm h pp, cls_apart, cls_apart, cls_one neA, cls_one neB]
    · exact fun x hx y hy => h.trans ((mB x).mp hx).2 (h.symm ((mB y).mp hy).2)
    · exact fun x hx y hy => h.trans ((mA x).mp hx).2 (h.symm ((mA y).mp hy).2)
    · exact fun x hx y hy r => ((mC y).mp hy).2 (h.trans (h.symm r) ((mB x).mp hx).2)
    · intro x hx y hy r
      have hyT : y ∈ T := (List.mem_append.mp hy).elim (fun z => ((mB y).mp z).1) fun z => ((mC y).mp z).1
      exact ((mT y).mp hyT).2 (h.trans (h.symm r) ((mA x).mp hx).2)
  have r2 : cls (Join R a b) S = 1 + cls R C := by
    rw [cls_perm hJ pp, ← List.append_assoc, cls_apart, cls_one (by simp [neA])]
    · rw [cls_congr (R := Join R a b) (R' := R)]
      intro x hx y hy
      obtain ⟨hxT, hxb⟩ := (mC x).mp hx
      have hxa := ((mT x).mp hxT).2
      constructor
      · rintro (q | ⟨q, _⟩ | ⟨q, _⟩)
        · exact q
        · exact absurd q hxa
        · exact absurd q hxb
      · exact .inl
    · have toA : ∀ x ∈ A ++ B, Join R a b x a := fun x hx => (List.mem_append.mp hx).elim (fun z => .inl ((mA x).mp z).2) fun z => .inr (.inr ⟨((mB x).mp z).2, h.refl a⟩)
      exact fun x hx y hy => hJ.trans (toA x hx) (hJ.symm (toA y hy))
    · intro x hx y hy r
      obtain ⟨hyT, hyb⟩ := (mC y).mp hy
      have hya := ((mT y).mp hyT).2
      have hx' : R x a ∨ R x b := (List.mem_append.mp hx).elim (fun z => .inl ((mA x).mp z).2) fun z => .inr ((mB x).mp z).2
      rcases r with q | ⟨_, q⟩ | ⟨_, q⟩
      · rcases hx' with z | z
        · exact hya (h.trans (h.symm q) z)
        · exact hyb (h.trans (h.symm q) z)
      · exact hyb (h.symm q)
      · exact hya (h.symm q)
  omega
/-! ### orbits -/
def O (f : α → α) (x y : α) : Prop := ∃ n, it f n x = y
def Per (f : α → α) : Prop := ∀ x, ∃ p, 0 < p ∧ it f p x = x
theorem O.refl (f : α → α) (x : α) : O f x x := ⟨0, rfl⟩
theorem O.step (f : α → α) (x : α) : O f x (f x) := ⟨1, rfl⟩
theorem O.trans {f : α → α} {x y z : α} : O f x y → O f y z → O f x z := fun ⟨m, hm⟩ ⟨n, hn⟩ => ⟨m + n, by rw [it_add, hm, hn]⟩
theorem O.symm {f : α → α} (hp : Per f) {x y : α} : O f x y → O f y x := fun ⟨n, hn⟩ => by
  obtain ⟨p, p0, hq⟩ := hp x
  refine ⟨n * p - n, ?_⟩
  have hle : n ≤ n * p := Nat.le_mul_of_pos_right n p0
  rw [← hn, ← it_add, show n + (n * p - n) = n * p by omega]
  exact it_mul f hq n
theorem O.eqv {f : α → α} (hp : Per f) : Eqv (O f) := ⟨O.refl f, O.symm hp, O.trans⟩
/-- what every step keeps, orbits keep -/
theorem O.sub {f : α → α} {R : α → α → Prop} (h : Eqv R) (hs : ∀ x, R x (f x)) {x y : α} : O f x y → R x y := fun ⟨n, hn⟩ => by
  have all : ∀ n, R x (it f n x) := fun n => by
    induction n with
    | zero => exact h.refl x
    | succ n ih => rw [it_succ]; exact h.trans ih (hs _)
  rw [← hn]; exact all n
/-- the least period -/
theorem Per.least {f : α → α} (hp : Per f) (x : α) : ∃ p, 0 < p ∧ it f p x = x ∧ ∀ q, 0 < q → q < p → it f q x ≠ x := by
  obtain ⟨p, p0, h⟩ := hp x
  obtain ⟨k, _, ⟨k0, hk⟩, hm⟩ := Eh.least (P := fun n => 0 < n ∧ it f n x = x) p ⟨p0, h⟩
  exact ⟨k, k0, hk, fun q q0 hq e => hm q hq ⟨q0, e⟩⟩
theorem it_mod {f : α → α} {p : Nat} {x : α} (h : it f p x = x) (n : Nat) : it f (n % p) x = it f n x := by
  have e := Nat.mod_add_div n p
  have q : it f (p * (n / p)) x = x := by rw [Nat.mul_comm]; exact it_mul f h _
  calc it f (n % p) x = it f (n % p) (it f (p * (n / p)) x) := by rw [q]
    _ = it f (p * (n / p) + n % p) x := by rw [it_add]
    _ = it f n x := by rw [Nat.add_comm, e]
section
variable [DecidableEq α]
/-- f behind the exchange of a and b -/
def tw (f : α → α) (a b : α) (x : α) : α := if x = a then f b else if x = b then f a else f x
theorem tw_a (f : α → α) (a b : α) : tw f a b a = f b := if_pos rfl
theorem tw_b (f : α → α) {a b : α} (h : a ≠ b) : tw f a b b = f a := by unfold tw; rw [if_neg h.symm, if_pos rfl]
theorem tw_o (f : α → α) {a b x : α} (h1 : x ≠ a) (h2 : x ≠ b) : tw f a b x = f x := by unfold tw; rw [if_neg h1, if_neg h2]
theorem tw_tw (f : α → α) {a b : α} (h : a ≠ b) : tw (tw f a b) a b = f := by
  funext x
  by_cases h1 : x = a
  · subst h1; rw [tw_a, tw_b f h]
  · by_cases h2 : x = b
    · subst h2; rw [tw_b _ h, tw_a]
    · rw [tw_o _ h1 h2, tw_o _ h1 h2]
/-- from f a on the orbit of a is gone by the twisted function as by f, up to a -/
theorem tw_walk {f : α → α} {a b : α} {p : Nat} (hm : ∀ q, 0 < q → q < p → it f q a ≠ a) (hb : ∀ q, 0 < q → q < p → it f q a ≠ b) : ∀ i, i < p → it (tw f a b) i (f a) = it f (i + 1) a
  | 0, _ => rfl
  | i + 1, h => by
    rw [it_succ, tw_walk hm hb i (by omega), tw_o f (hm (i + 1) (by omega) h) (hb (i + 1) (by omega) h), ← it_succ f]
theorem tw_joins {f : α → α} (hp : Per f) {a b : α} (hg : Per (tw f a b)) (hab : ¬ O f a b) (x y : α) : O (tw f a b) x y ↔ Join (O f) a b x y := by
  have hE := O.eqv hp
  have hG := O.eqv hg
  have ne : a ≠ b := fun e => hab (e ▸ O.refl f a)
  -- f a, .., a by the twisted function
  have wa : O (tw f a b) (f a) a := by
    obtain ⟨p, p0, hpa, hm⟩ := hp.least a
    refine ⟨p - 1, ?_⟩
    rw [tw_walk hm (fun q _ _ e => hab ⟨q, e⟩) (p - 1) (by omega), show p - 1 + 1 = p by omega, hpa]
  have wb : O (tw f a b) (f b) b := by
    obtain ⟨p, p0, hpb, hm⟩ := hp.least b
    refine ⟨p - 1, ?_⟩
    have e : tw f a b = tw f b a := by
      funext z
      by_cases h1 : z = a
      · subst h1; rw [tw_a, tw_b f ne.symm]
      · by_cases h2 : z = b
        · subst h2; rw [tw_b f ne, tw_a]
        · rw [tw_o f h1 h2, tw_o f h2 h1]
    rw [e, tw_walk hm (fun q _ _ e => hab (O.symm hp ⟨q, e⟩)) (p - 1) (by omega), show p - 1 + 1 = p by omega, hpb]
  have gab : O (tw f a b) a b := by
    have s : O (tw f a b) a (f b) := by have := O.step (tw f a b) a; rw [tw_a] at this; exact this
    exact s.trans wb
  constructor
  · refine O.sub (Join.eqv hE a b) fun z => ?_
    by_cases h1 : z = a
    · subst h1; rw [tw_a]; exact .inr (.inl ⟨O.refl f z, O.step f b⟩)
    · by_cases h2 : z = b
      · subst h2; rw [tw_b f ne]; exact .inr (.inr ⟨O.refl f z, O.step f a⟩)
      · rw [tw_o f h1 h2]; exact .inl (O.step f z)
  · have sub : ∀ {z z' : α}, O f z z' → O (tw f a b) z z' := fun {z z'} => O.sub hG fun z => by
      by_cases h1 : z = a
      · subst h1; exact hG.symm wa
      · by_cases h2 : z = b
        · subst h2; exact hG.symm wb
        · have := O.step (tw f a b) z
          rw [tw_o f h1 h2] at this
          exact this
    rintro (q | ⟨q, r⟩ | ⟨q, r⟩)
    · exact sub q
    · exact (sub q).trans (gab.trans (sub r))
    · exact (sub q).trans ((hG.symm gab).trans (sub r))
theorem tw_splits {f : α → α} (hp : Per f) {a b : α} (hg : Per (tw f a b)) (ne : a ≠ b) (hab : O f a b) : ¬ O (tw f a b) a b := by
  intro hgab
  obtain ⟨p, p0, hpa, hm⟩ := hp.least a
  obtain ⟨n, hn⟩ := hab
  obtain ⟨k, hk, hkb, hkm⟩ := Eh.least (P := fun n => it f n a = b) (n % p) (by rw [it_mod hpa]; exact hn)
  have hkp : k < p := Nat.lt_of_le_of_lt hk (Nat.mod_lt _ p0)
  have k0 : 0 < k := by
    rcases Nat.eq_zero_or_pos k with z | z
    · subst z; exact absurd hkb ne
    · exact z
  -- what the twisted function comes to from b
  have inv : ∀ m, ∃ i, 0 < i ∧ i ≤ k ∧ it (tw f a b) m b = it f i a := by
    intro m
    induction m with
    | zero => exact ⟨k, k0, Nat.le_refl k, hkb.symm⟩
    | succ m ih =>
      obtain ⟨i, i0, hi, e⟩ := ih
      rw [it_succ, e]
      by_cases hik : i = k
      · subst hik
        rw [hkb, tw_b f ne]
        exact ⟨1, by omega, by omega, rfl⟩
      · rw [tw_o f (hm i i0 (by omega)) (hkm i (by omega)), ← it_succ f]
        exact ⟨i + 1, by omega, by omega, rfl⟩
  obtain ⟨m, hm'⟩ := O.symm hg hgab
  obtain ⟨i, i0, hi, e⟩ := inv m
  rw [hm'] at e
  exact hm i i0 (by omega) e.symm
/-- one transposition more: one class less, or one more -/
theorem cls_tw_apart {f : α → α} (hp : Per f) {a b : α} (hg : Per (tw f a b)) {S : List α} (ha : a ∈ S) (hb : b ∈ S) (hab : ¬ O f a b) : cls (O f) S = cls (O (tw f a b)) S + 1 := by
  rw [cls_join (O.eqv hp) ha hb hab, cls_congr fun x _ y _ => tw_joins hp hg hab x y]
theorem cls_tw_one {f : α → α} (hp : Per f) {a b : α} (hg : Per (tw f a b)) {S : List α} (ha : a ∈ S) (hb : b ∈ S) (ne : a ≠ b) (hab : O f a b) : cls (O (tw f a b)) S = cls (O f) S + 1 := by
  have h := cls_tw_apart (f := tw f a b) hg (a := a) (b := b) (by rw [tw_tw f ne]; exact hp) ha hb (tw_splits hp hg ne hab)
  rw [tw_tw f ne] at h
  exact h
/-! ### finitely many: one-to-one is periodic -/
theorem nodup_le : ∀ {l S : List α}, l.Nodup → (∀ x ∈ l, x ∈ S) → l.length ≤ S.length
  | [], _, _, _ => Nat.zero_le _
  | x :: l, S, hn, hs => by
    have hx : x ∈ S := hs x List.mem_cons_self
    obtain ⟨hxl, hl⟩ := List.nodup_cons.mp hn
    have := nodup_le (l := l) (S := S.erase x) hl fun y hy => (List.mem_erase_of_ne (fun e : y = x => hxl (by rw [← e]; exact hy))).mpr (hs y (List.mem_cons_of_mem _ hy))
    rw [List.length_erase_of_mem hx] at this
    have h0 : 0 < S.length := List.length_pos_of_mem hx
    rw [List.length_cons]; omega
theorem it_in {f : α → α} {S : List α} (hcl : ∀ x ∈ S, f x ∈ S) {x : α} (hx : x ∈ S) : ∀ n, it f n x ∈ S
  | 0 => hx
  | n + 1 => by rw [it_succ]; exact hcl _ (it_in hcl hx n)
theorem it_cancel {f : α → α} {S : List α} (hcl : ∀ x ∈ S, f x ∈ S) (hinj : ∀ x ∈ S, ∀ y ∈ S, f x = f y → x = y) {x : α} (hx : x ∈ S) : ∀ {i j : Nat}, i ≤ j → it f i x = it f j x → it f (j - i) x = x
  | 0, j, _, e => e.symm
  | i + 1, j, h, e => by
    obtain ⟨k, rfl⟩ : ∃ k, j = k + 1 := ⟨j - 1, by omega⟩
    rw [it_succ, it_succ] at e
    rw [show k + 1 - (i + 1) = k - i by omega]
    exact it_cancel hcl hinj hx (by omega) (hinj _ (it_in hcl hx i) _ (it_in hcl hx k) e)
theorem per_in {f : α → α} {S : List α} (hcl : ∀ x ∈ S, f x ∈ S) (hinj : ∀ x ∈ S, ∀ y ∈ S, f x = f y → x = y) {x : α} (hx : x ∈ S) : ∃ p, 0 < p ∧ p ≤ S.length ∧ it f p x = x ∧ ∀ q, 0 < q → q < p → it f q x ≠ x := by
  have hex : ∃ i j : Nat, i < j ∧ j < S.length + 1 ∧ it f i x = it f j x := by
    apply Classical.byContradiction
    intro hno
    have hnd : ((List.range (S.length + 1)).map fun i => it f i x).Nodup := by
      refine List.pairwise_map.mpr ((List.pairwise_lt_range (n := S.length + 1)).imp_of_mem ?_)
      intro i j hi hj hij e
      exact hno ⟨i, j, hij, List.mem_range.mp hj, e⟩
    have := nodup_le hnd fun y hy => by
      obtain ⟨i, _, rfl⟩ := List.mem_map.mp hy
      exact it_in hcl hx i
    rw [List.length_map, List.length_range] at this
    omega
  obtain ⟨i, j, hij, hj, e⟩ := hex
  have := it_cancel hcl hinj hx (Nat.le_of_lt hij) e
  obtain ⟨k, hk, ⟨k0, hk1⟩, hm⟩ := Eh.least (P := fun n => 0 < n ∧ it f n x = x) (j - i) ⟨by omega, this⟩
  exact ⟨k, k0, by omega, hk1, fun q q0 hq e => hm q hq ⟨q0, e⟩⟩
/-- the orbit as a list -/
def orb (f : α → α) (p : Nat) (x : α) : List α := (List.range p).map fun i => it f i x
theorem orb_len (f : α → α) (p : Nat) (x : α) : (orb f p x).length = p := by simp [orb]
theorem orb_get (f : α → α) {p i : Nat} (x : α) (h : i < p) : (orb f p x)[i]? = some (it f i x) := by
  unfold orb
  rw [List.getElem?_map, List.getElem?_range h]; rfl
theorem orb_succ (f : α → α) (p : Nat) (x : α) : orb f (p + 1) x = orb f p x ++ [it f p x] := by
  unfold orb
  rw [List.range_succ, List.map_append]; rfl
theorem orb_mem {f : α → α} {p : Nat} {x y : α} (p0 : 0 < p) (h : it f p x = x) : y ∈ orb f p x ↔ O f x y := by
  unfold orb
  rw [List.mem_map]
  constructor
  · rintro ⟨i, _, e⟩; exact ⟨i, e⟩
  · rintro ⟨n, e⟩
    exact ⟨n % p, List.mem_range.mpr (Nat.mod_lt _ p0), by rw [it_mod h]; exact e⟩
end
end
end Eh

/-! The rounds of a book: how many they are beside the trees, the lots and the words. -/
namespace Eh
open Classical in
/-- the word behind a word by a book; what is no word stays -/
noncomputable def pi (B : List Wd) (w : Wd) : Wd := if Dyck w then turn (swap B w) else w
theorem pi_dyck {B : List Wd} {w : Wd} (h : Dyck w) : pi B w = turn (swap B w) := if_pos h
theorem pi_non {B : List Wd} {w : Wd} (h : ¬ Dyck w) : pi B w = w := if_neg h
theorem pi_nil {w : Wd} (h : Dyck w) : pi [] w = turn w := by rw [pi_dyck h, swap_nil]
theorem pi_iff {B : List Wd} (hB : Bk B) (w : Wd) : Dyck (pi B w) ↔ Dyck w := by
  by_cases h : Dyck w
  · rw [pi_dyck h]; exact ⟨fun _ => h, fun _ => (h.swap hB).turn⟩
  · rw [pi_non h]
theorem pi_len {B : List Wd} (hB : Bk B) (w : Wd) : (pi B w).length = w.length := by
  by_cases h : Dyck w
  · rw [pi_dyck h, turn_len (h.swap hB), swap_len hB]
  · rw [pi_non h]
theorem pi_inj {B : List Wd} (hB : Bk B) {a b : Wd} (e : pi B a = pi B b) : a = b := by
  by_cases ha : Dyck a
  · have hb : Dyck b := (pi_iff hB b).mp (e ▸ (pi_iff hB a).mpr ha)
    rw [pi_dyck ha, pi_dyck hb] at e
    exact swap_inj hB (turn_inj (ha.swap hB) (hb.swap hB) e)
  · have hb : ¬ Dyck b := fun z => ha ((pi_iff hB a).mp (e ▸ (pi_iff hB b).mpr z))
    rw [pi_non ha, pi_non hb] at e
    exact e
theorem pi_congr {B B' : List Wd} (h : ∀ w, w ∈ B ↔ w ∈ B') : pi B = pi B' := by
  funext w
  have : swap B w = swap B' w := by unfold swap; simp only [h]
  unfold pi
  rw [this]
/-- all rows of n signs -/
def allB : Nat → List Wd
  | 0 => [[]]
  | n + 1 => (allB n).map (true :: ·) ++ (allB n).map (false :: ·)
theorem mem_allB : ∀ {n : Nat} {w : Wd}, w ∈ allB n ↔ w.length = n
  | 0, w => by simp only [allB, List.mem_singleton]; exact ⟨fun e => by rw [e]; rfl, List.eq_nil_of_length_eq_zero⟩
  | n + 1, w => by
    simp only [allB, List.mem_append, List.mem_map]
    constructor
    · rintro (⟨v, hv, rfl⟩ | ⟨v, hv, rfl⟩) <;> rw [List.length_cons, mem_allB.mp hv]
    · intro h
      match w, h with
      | true :: r, h => exact .inl ⟨r, mem_allB.mpr (by simpa using h), rfl⟩
      | false :: r, h => exact .inr ⟨r, mem_allB.mpr (by simpa using h), rfl⟩
theorem nodup_allB : ∀ n, (allB n).Nodup
  | 0 => by simp [allB]
  | n + 1 => by
    have ih := nodup_allB n
    simp only [allB]
    refine List.nodup_append.mpr ⟨?_, ?_, ?_⟩
    · exact List.pairwise_map.mpr (ih.imp fun h e => h (List.cons.inj e).2)
    · exact List.pairwise_map.mpr (ih.imp fun h e => h (List.cons.inj e).2)
    · intro a ha b hb e
      obtain ⟨v, _, rfl⟩ := List.mem_map.mp ha
      obtain ⟨v', _, rfl⟩ := List.mem_map.mp hb
      exact nomatch (List.cons.inj e).1
theorem per_pi {B : List Wd} (hB : Bk B) : Per (pi B) := fun w => by
  obtain ⟨p, p0, _, h, _⟩ := per_in (f := pi B) (S := allB w.length) (fun x hx => mem_allB.mpr (by rw [pi_len hB, mem_allB.mp hx])) (fun x _ y _ e => pi_inj hB e) (mem_allB.mpr rfl)
  exact ⟨p, p0, h⟩
theorem bk_nil : Bk [] := fun _ h => absurd h (by simp)
theorem pi_cons {x : Wd} {B : List Wd} (hB : Bk (x :: B)) (hx : x ∉ B) : pi (x :: B) = tw (pi B) x (pull x) := by
  obtain ⟨dx, cx⟩ := hB x List.mem_cons_self
  have dp : Dyck (pull x) := dx.pull cx
  funext w
  by_cases h : Dyck w
  · rw [pi_dyck h, swap_cons hB hx w]
    by_cases h1 : w = x
    · subst h1
      rw [if_pos rfl, tw_a, pi_dyck dp]
    · rw [if_neg h1]
      by_cases h2 : w = pull x
      · subst h2
        rw [if_pos rfl, tw_b _ (fun e => pull_ne cx e.symm), pi_dyck dx]
      · rw [if_neg h2, tw_o _ h1 h2, pi_dyck h]
  · rw [pi_non h, tw_o _ (fun e : w = x => h (by rw [e]; exact dx)) (fun e : w = pull x => h (by rw [e]; exact dp)), pi_non h]
/-- the lots: trees joined by the words of a book (the last word first) -/
def comp : List Wd → Wd → Wd → Prop
  | [] => O (pi [])
  | x :: B => Join (comp B) x (pull x)
theorem comp_eqv : ∀ B, Eqv (comp B)
  | [] => O.eqv (per_pi bk_nil)
  | x :: B => Join.eqv (comp_eqv B) x (pull x)
theorem pi_comp : ∀ {B : List Wd}, Bk B → B.Nodup → ∀ {w v : Wd}, O (pi B) w v → comp B w v
  | [], _, _, _, _, h => h
  | x :: B, hB, hn, w, v, h => by
    obtain ⟨hx, hn'⟩ := List.nodup_cons.mp hn
    have ih : ∀ z, comp B z (pi B z) := fun z => pi_comp hB.tail hn' (O.step _ _)
    have cx := (hB x List.mem_cons_self).2
    refine O.sub (comp_eqv (x :: B)) (fun z => ?_) h
    rw [pi_cons hB hx]
    by_cases h1 : z = x
    · subst h1; rw [tw_a]; exact .inr (.inl ⟨(comp_eqv B).refl z, ih _⟩)
    · by_cases h2 : z = pull x
      · rw [h2, tw_b _ (fun e => pull_ne cx e.symm)]; exact .inr (.inr ⟨(comp_eqv B).refl _, ih _⟩)
      · rw [tw_o _ h1 h2]; exact .inl (ih z)
open Classical in
/-- how many words of a book join unlike lots -/
noncomputable def jn : List Wd → Nat
  | [] => 0
  | x :: B => (if comp B x (pull x) then 0 else 1) + jn B
theorem jn_le : ∀ B, jn B ≤ B.length
  | [] => Nat.le_refl _
  | x :: B => by
    have := jn_le B
    simp only [jn, List.length_cons]
    split <;> omega
/-- the classes of pi B among all rows of n signs -/
noncomputable def zz (n : Nat) (B : List Wd) : Nat := cls (O (pi B)) (allB n)
theorem zz_step {n : Nat} {x : Wd} {B : List Wd} (hB : Bk (x :: B)) (hx : x ∉ B) (hl : x.length = n) :
    (¬ O (pi B) x (pull x) ∧ zz n B = zz n (x :: B) + 1) ∨ (O (pi B) x (pull x) ∧ zz n (x :: B) = zz n B + 1) := by
  obtain ⟨dx, cx⟩ := hB x List.mem_cons_self
  have ne : x ≠ pull x := fun e => pull_ne cx e.symm
  have hp := per_pi hB.tail
  have hg := per_pi hB
  rw [pi_cons hB hx] at hg
  have m1 : x ∈ allB n := mem_allB.mpr hl
  have m2 : pull x ∈ allB n := mem_allB.mpr (by rw [pull_len cx, hl])
  unfold zz
  rw [pi_cons hB hx]
  by_cases h : O (pi B) x (pull x)
  · exact .inr ⟨h, cls_tw_one hp hg m1 m2 ne h⟩
  · exact .inl ⟨h, cls_tw_apart hp hg m1 m2 h⟩
theorem comp_jn {n : Nat} : ∀ {B : List Wd}, Bk B → (∀ x ∈ B, x.length = n) → cls (comp B) (allB n) + jn B = zz n []
  | [], _, _ => rfl
  | x :: B, hB, hl => by
    have ih := comp_jn hB.tail fun y hy => hl y (List.mem_cons_of_mem _ hy)
    obtain ⟨dx, cx⟩ := hB x List.mem_cons_self
    have m1 : x ∈ allB n := mem_allB.mpr (hl x List.mem_cons_self)
    have m2 : pull x ∈ allB n := mem_allB.mpr (by rw [pull_len cx, hl x List.mem_cons_self])
    by_cases h : comp B x (pull x)
    · have e : cls (comp (x :: B)) (allB n) = cls (comp B) (allB n) := cls_congr fun a _ b _ => Join.same (comp_eqv B) h a b
      have j : jn (x :: B) = jn B := by simp only [jn]; rw [if_pos h, Nat.zero_add]
      rw [e, j, ih]
    · have e : cls (comp B) (allB n) = cls (comp (x :: B)) (allB n) + 1 := cls_join (comp_eqv B) m1 m2 h
      have j : jn (x :: B) = jn B + 1 := by simp only [jn]; rw [if_neg h, Nat.add_comm]
      omega
/-- at least as many rounds as lots -/
theorem zz_ge {n : Nat} {B : List Wd} (hB : Bk B) (hn : B.Nodup) (hl : ∀ x ∈ B, x.length = n) : zz n [] ≤ zz n B + jn B := by
  have h1 := comp_jn hB hl
  have h2 : cls (comp B) (allB n) ≤ zz n B := cls_mono (fun x y h => pi_comp hB hn h) _
  omega
/-- by own joining of lots: as many as trees less words -/
theorem zz_forest {n : Nat} : ∀ {B : List Wd}, Bk B → B.Nodup → (∀ x ∈ B, x.length = n) → jn B = B.length → zz n B + B.length = zz n []
  | [], _, _, _, _ => rfl
  | x :: B, hB, hn, hl, h => by
    obtain ⟨hx, hn'⟩ := List.nodup_cons.mp hn
    have hle := jn_le B
    have hc : ¬ comp B x (pull x) := fun z => by
      simp only [jn, List.length_cons] at h
      rw [if_pos z] at h
      omega
    have hj : jn B = B.length := by
      simp only [jn, List.length_cons] at h
      rw [if_neg hc] at h
      omega
    have ih := zz_forest hB.tail hn' (fun y hy => hl y (List.mem_cons_of_mem _ hy)) hj
    rcases zz_step hB hx (hl x List.mem_cons_self) with ⟨_, e⟩ | ⟨q, _⟩
    · rw [List.length_cons]; omega
    · exact absurd (pi_comp hB.tail hn' q) hc
/-- an even number apart -/
theorem zz_even {n : Nat} : ∀ {B : List Wd}, Bk B → B.Nodup → (∀ x ∈ B, x.length = n) → (zz n B + B.length) % 2 = zz n [] % 2
  | [], _, _, _ => rfl
  | x :: B, hB, hn, hl => by
    obtain ⟨hx, hn'⟩ := List.nodup_cons.mp hn
    have ih := zz_even hB.tail hn' fun y hy => hl y (List.mem_cons_of_mem _ hy)
    rw [List.length_cons]
    rcases zz_step hB hx (hl x List.mem_cons_self) with ⟨_, e⟩ | ⟨_, e⟩ <;> omega
/-- the words that are joined: those of the trees of the book's words, and of these pulled -/
def InJ (B : List Wd) (x : Wd) : Prop := ∃ w ∈ B, O (pi []) w x ∨ O (pi []) (pull w) x
theorem InJ.turn {B : List Wd} {x : Wd} (h : InJ B x) : InJ B (pi [] x) := by
  obtain ⟨w, hw, h⟩ := h
  exact ⟨w, hw, h.imp (fun z => z.trans (O.step _ _)) fun z => z.trans (O.step _ _)⟩
theorem InJ.of_turn {B : List Wd} {x : Wd} (h : InJ B (pi [] x)) : InJ B x := by
  obtain ⟨w, hw, h⟩ := h
  have s : O (pi []) (pi [] x) x := O.symm (per_pi bk_nil) (O.step _ _)
  exact ⟨w, hw, h.imp (fun z => z.trans s) fun z => z.trans s⟩
theorem InJ.swap {B : List Wd} (hB : Bk B) {x : Wd} (h : InJ B x) : InJ B (swap B x) := by
  unfold Eh.swap
  split
  · rename_i hm; exact ⟨x, hm, .inr (O.refl _ _)⟩
  · split
    · rename_i hm; exact ⟨unpull x, hm.2, .inl (O.refl _ _)⟩
    · exact h
theorem InJ_not_swap {B : List Wd} {x : Wd} (h : ¬ InJ B x) : swap B x = x := by
  unfold swap
  rw [if_neg fun z => h ⟨x, z, .inl (O.refl _ _)⟩, if_neg fun z => h ⟨unpull x, z.2, .inr (by rw [pull_unpull z.1]; exact O.refl _ _)⟩]
theorem InJ.toPi {B : List Wd} (hB : Bk B) {x : Wd} (h : InJ B x) : InJ B (pi B x) := by
  by_cases hd : Dyck x
  · rw [pi_dyck hd]
    have := (h.swap hB).turn
    rw [pi_nil (hd.swap hB)] at this
    exact this
  · rw [pi_non hd]; exact h
theorem InJ_not_pi {B : List Wd} {x : Wd} (h : ¬ InJ B x) : pi B x = pi [] x := by
  by_cases hd : Dyck x
  · rw [pi_dyck hd, pi_dyck hd, InJ_not_swap h, swap_nil]
  · rw [pi_non hd, pi_non hd]
theorem InJ.orb {B : List Wd} (hB : Bk B) {x y : Wd} (h : InJ B x) (o : O (pi B) x y) : InJ B y := by
  obtain ⟨n, rfl⟩ := o
  induction n with
  | zero => exact h
  | succ n ih => rw [it_succ]; exact ih.toPi hB
theorem InJ.orb0 {B : List Wd} {x y : Wd} (h : InJ B x) (o : O (pi []) x y) : InJ B y := by
  obtain ⟨w, hw, h⟩ := h
  exact ⟨w, hw, h.imp (fun z => z.trans o) fun z => z.trans o⟩
theorem not_orb {B : List Wd} {x : Wd} (h : ¬ InJ B x) : ∀ n, it (pi B) n x = it (pi []) n x ∧ ¬ InJ B (it (pi B) n x)
  | 0 => ⟨rfl, h⟩
  | n + 1 => by
    obtain ⟨e, q⟩ := not_orb h n
    rw [it_succ, it_succ, InJ_not_pi q]
    exact ⟨by rw [e], fun z => q z.of_turn⟩
theorem perm_of {S J : List Wd} (hS : S.Nodup) (hJ : J.Nodup) (hs : ∀ x ∈ J, x ∈ S) : ∃ R, S.Perm (J ++ R) ∧ ∀ x ∈ R, x ∉ J := by
  induction J generalizing S with
  | nil => exact ⟨S, List.Perm.refl _, fun _ _ => by simp⟩
  | cons x J ih =>
    obtain ⟨hx, hJ'⟩ := List.nodup_cons.mp hJ
    have hxS := hs x List.mem_cons_self
    obtain ⟨R, hp, hr⟩ := ih (S := S.erase x) (hS.erase x) hJ' fun y hy => (List.mem_erase_of_ne (fun e : y = x => hx (by rw [← e]; exact hy))).mpr (hs y (List.mem_cons_of_mem _ hy))
    refine ⟨R, (List.perm_cons_erase hxS).trans (List.Perm.cons x hp), fun y hy => ?_⟩
    intro hm
    rcases List.mem_cons.mp hm with e | hm
    · subst e
      have : y ∈ S.erase y := hp.mem_iff.mpr (List.mem_append_right _ hy)
      exact (hS.not_mem_erase) this
    · exact hr y hy hm
/-- outside of the joined words a book's rounds are loops -/
theorem zz_joined {n : Nat} {B J : List Wd} (hB : Bk B) (hl : ∀ x ∈ B, x.length = n) (hJ : J.Nodup) (hm : ∀ x, x ∈ J ↔ InJ B x) (hJl : ∀ x ∈ J, x.length = n) :
    zz n B + cls (O (pi [])) J = zz n [] + cls (O (pi B)) J := by
  obtain ⟨R, hp, hr⟩ := perm_of (nodup_allB n) hJ fun x hx => mem_allB.mpr (hJl x hx)
  have nR : ∀ x ∈ R, ¬ InJ B x := fun x hx z => hr x hx ((hm x).mpr z)
  unfold zz
  rw [cls_perm (O.eqv (per_pi hB)) hp, cls_perm (O.eqv (per_pi bk_nil)) hp]
  rw [cls_apart fun x hx y hy o => nR y hy (InJ.orb hB ((hm x).mp hx) o), cls_apart fun x hx y hy o => nR y hy (InJ.orb0 ((hm x).mp hx) o)]
  have e : cls (O (pi B)) R = cls (O (pi [])) R := cls_congr fun x hx y _ => by
    constructor
    · rintro ⟨k, hk⟩; exact ⟨k, by rw [← (not_orb (nR x hx) k).1]; exact hk⟩
    · rintro ⟨k, hk⟩; exact ⟨k, by rw [(not_orb (nR x hx) k).1]; exact hk⟩
  omega
/-! ### what the law asks -/
/-- how many rounds there are by a book, T being the number of trees -/
noncomputable def rounds (T : Int) (n : Nat) (B : List Wd) : Int := T + zz n B - zz n []
theorem rounds_nil (T : Int) (n : Nat) : rounds T n [] = T := by unfold rounds; omega
theorem rounds_congr {T : Int} {n : Nat} {B B' : List Wd} (h : ∀ w, w ∈ B ↔ w ∈ B') : rounds T n B = rounds T n B' := by
  unfold rounds zz; rw [pi_congr h]
theorem rounds_step {T : Int} {n : Nat} {x : Wd} {B : List Wd} (hB : Bk (x :: B)) (hx : x ∉ B) (hl : x.length = n) : rounds T n (x :: B) = rounds T n B - 1 ∨ rounds T n (x :: B) = rounds T n B + 1 := by
  unfold rounds
  rcases zz_step hB hx hl with ⟨_, e⟩ | ⟨_, e⟩
  · left; omega
  · right; omega
theorem rounds_forest {T : Int} {n : Nat} {B : List Wd} (hB : Bk B) (hn : B.Nodup) (hl : ∀ x ∈ B, x.length = n) (h : jn B = B.length) : rounds T n B = T - B.length := by
  have := zz_forest hB hn hl h
  unfold rounds; omega
theorem rounds_ring {T : Int} {n : Nat} {B : List Wd} (hB : Bk B) (hn : B.Nodup) (hl : ∀ x ∈ B, x.length = n) (h : jn B ≠ B.length) :
    0 < rounds T n B - (T - B.length) ∧ (rounds T n B - (T - B.length)) % 2 = 0 ∧ T - jn B ≤ rounds T n B := by
  have h1 := jn_le B
  have h2 := zz_ge hB hn hl
  have h3 := zz_even hB hn hl
  unfold rounds
  refine ⟨?_, ?_, ?_⟩ <;> omega
/-- names by which lots are told apart, two lots becoming one -/
theorem join_names {α β : Type} [DecidableEq β] {R : α → α → Prop} {f : α → β} (h : ∀ x y, R x y ↔ f x = f y) {a b : α} (x y : α) :
    Join R a b x y ↔ (if f x = f b then f a else f x) = (if f y = f b then f a else f y) := by
  unfold Join
  simp only [h]
  constructor
  · rintro (e | ⟨e1, e2⟩ | ⟨e1, e2⟩)
    · rw [e]
    · rw [e1, ← e2, if_pos rfl]; split <;> rfl
    · rw [e1, if_pos rfl, ← e2]; split <;> rfl
  · intro e
    by_cases h1 : f x = f b
    · rw [if_pos h1] at e
      by_cases h2 : f y = f b
      · exact .inl (h1.trans h2.symm)
      · rw [if_neg h2] at e; exact .inr (.inr ⟨h1, e⟩)
    · rw [if_neg h1] at e
      by_cases h2 : f y = f b
      · rw [if_pos h2] at e; exact .inr (.inl ⟨e, h2.symm⟩)
      · rw [if_neg h2] at e; exact .inl e
end Eh

set_option maxHeartbeats 4000000
/-! set(xs) of unlike texts, at the library's level. -/
namespace Eh
open PySem PySem.Spec PyProof.Rows L2
/-! ### set(xs), xs a list of unlike texts -/
section
variable {prog : Program} {w : World} {A : Around} {E : Value → Shared → Prop} {s : Shared}
theorem loopT {R : Result → Shared → Prop} {I : Addr} {fp wr : List Addr} {G : Array GenState → Array GenState → Prop} {n : Nat} {P : Nat → Value → Prop} {St : Nat → Shared → Prop} (W : WalksS prog w A.in1 I fp wr G n P St) (S : Addr) (hSf : S ∉ fp)
    (xs : List Str) (hn : xs.length = n) (nd : xs.Nodup) (hb : n + 1 < scanBound) (hv : ∀ i v, P i v → ∃ x t, xs[i]? = some x ∧ v = .str x t) :
    ∀ (k i : Nat) (s : Shared), i + k = n → St i s → s.heap.SetOf (PySem.strKind prog w) S (fun y => decide (y ∈ xs.take i)) i →
      (∀ s', Moved (S :: wr) G s s' → s'.heap.SetOf (PySem.strKind prog w) S (fun y => decide (y ∈ xs)) n → R (.ok (.ret .none)) s') →
      codeAny (model prog w) A (.builtin "set.update.loop" ⟨[.ref S, .ref I], []⟩) R s
  | 0, i, s, hk, hst, hS, hR => by
    obtain rfl : i = n := hk
    refine codeAny_builtin F.entry_set_update_loop ?_
    rw [Around.under_plainId F.plain_set_update_loop _]
    refine wpAny_bind (W.done s _ _ hst fun s' hm => wpAny_pure (hR s' (hm.mono fun b => List.mem_cons_of_mem _) ?_))
    obtain ⟨o, es, ep, t, ho, rest⟩ := hS
    rw [List.take_of_length_le (Nat.le_of_eq hn)] at rest
    exact ⟨o, es, ep, t, hm.heap S _ (fun z => hSf (W.sub _ z)) ho, rest⟩
  | k + 1, i, s, hk, hst, hS, hR => by
    have hlt : i < n := by omega
    refine codeAny_builtin F.entry_set_update_loop ?_
    rw [Around.under_plainId F.plain_set_update_loop _]
    refine wpAny_bind (W.item i s _ _ hlt hst fun v s1 hP st1 hm => ?_)
    obtain ⟨x, t, hx, rfl⟩ := hv i v hP
    have S1 : s1.heap.SetOf (PySem.strKind prog w) S (fun y => decide (y ∈ xs.take i)) i := by
      obtain ⟨o, es, ep, tb, ho, rest⟩ := hS
      exact ⟨o, es, ep, tb, hm.heap S _ (fun z => hSf (W.sub _ z)) ho, rest⟩
    have hxi : x ∉ xs.take i := fun hmem => by
      obtain ⟨j, hj⟩ := List.mem_iff_getElem?.mp hmem
      have hji : j < i := by
        rcases Nat.lt_or_ge j i with z | z
        · exact z
        · rw [List.getElem?_eq_none (by rw [List.length_take]; omega)] at hj; cases hj
      rw [List.getElem?_take_of_lt hji] at hj
      exact absurd ((List.getElem?_inj (by omega) nd).mp (hj.trans hx.symm)) (by omega)
    have h0 : ¬ (decide (x ∈ xs.take i) = true) := by simpa using hxi
    refine wpAny_bind (wpAny_holding ?_)
    unfold setAdd
    refine wpAny_holding (wpAny_bind ((PySem.strKind prog w).pyHash (k := x) (strKind_is _ _ _ _) ?_))
    refine wpAny_setAddHashed_of (knd := PySem.strKind prog w) (s := { s1 with toks := s1.toks + 1 }) (strKind_is _ _ _ _) rfl S1 (by omega) fun h2 sb S2 => ?_
    rw [if_neg h0] at S2
    have S3 : h2.SetOf (PySem.strKind prog w) S (fun y => decide (y ∈ xs.take (i + 1))) (i + 1) := by
      refine SetOf_congr S2 (fun y => ?_) rfl
      rw [List.take_add_one, hx]
      simp [Bool.decide_or]
    refine wpAny_pure ⟨plainId_quiet F.plain_set_update_loop _, loopT W S hSf xs hn nd hb hv k (i + 1) _ (by omega) (W.frame _ s1 _ _ st1 (Nat.le_succ _) fun b hb o e => (sb.2 b fun z => hSf (z ▸ hb)).trans e) S3 fun s3 hm3 S4 => ?_⟩
    refine hR s3 (Moved.trans W.gtrans ((hm.mono fun b => List.mem_cons_of_mem _).then_heap (Nat.le_succ _) fun b o hb e => ?_) hm3) S4
    exact (sb.2 b fun z => hb (z ▸ List.mem_cons_self)).trans e
abbrev emptySet (led : Bool) : Obj := { cls := .type "set", dict := none, data := .set #[] 0 (.fresh 0 0 led) }
/-- what set(xs) leaves: the set at a, all else as it was -/
abbrev SetMade (prog : Program) (w : World) (s : Shared) (xs : List Str) (s2 : Shared) : Prop := ∃ h' tk, s2 = { s with heap := h', toks := tk } ∧ h'.SetOf (PySem.strKind prog w) s.heap.objs.size (fun y => decide (y ∈ xs)) xs.length ∧ ∀ b o, b < s.heap.objs.size → s.heap.get? b = some o → h'.get? b = some o
set_option maxHeartbeats 8000000 in
theorem call_setT {l : Addr} {items : Array Value} {xs : List Str} {Q : Value → Shared → Prop} (hh : A.handled = none) (hl : s.heap.IsList l items) (hi : StrsAre items.toList xs) (nd : xs.Nodup) (hb : xs.length + 1 < scanBound)
    (h : ∀ s2, SetMade prog w s xs s2 → Q (.ref s.heap.objs.size) s2) : wpAny (model prog w) A (call (.type "set") [.ref l]) Q E s := by
  obtain ⟨c, tl, hmro⟩ := PySem.F.called_set.mro
  have hmade := PySem.F.called_set.made
  have hsub := PySem.F.called_set.sub
  refine wpAny_call (codeAny_of_tree (wpAny_pure ⟨Code.quiet_builtin _ (by decide +kernel), codeAny_builtin PySem.F.entry_type_call ?_⟩))
  rw [Around.under_plain (weight_type_call_type "set" [.ref l] []) rfl]
  have k1 := PySem.F.called_set.notType
  have k2 := PySem.F.called_set.canCreate
  have k3 := PySem.F.typeCall_set_1 (.ref l)
  repeat (any_goals (first | assumption | wp_step))
  refine codeAny_mono (code_set_new_1 (.ref l) (E := E) (Q₁ := fun v s1 => ∃ led, v = .ref s.heap.objs.size ∧ s1 = { s with heap := s.heap.push (emptySet led) }) fun led => ⟨led, rfl, rfl⟩) fun r s1 hr => ?_
  cases r with
  | error e => exact hr
  | ok fl =>
  cases fl with
  | ret v =>
    obtain ⟨led, rfl, rfl⟩ := hr
    have at0 : (s.heap.push (emptySet led)).get? s.heap.objs.size = some (emptySet led) := Heap.get?_push_size _ rfl
    have ty0 : Shared.TypeIs { s with heap := s.heap.push (emptySet led) } (.ref s.heap.objs.size) "set" := ⟨_, at0, rfl⟩
    have k4 := PySem.F.called_set.init.lookup
    have k5 := PySem.F.called_set.init.bind (.ref s.heap.objs.size)
    repeat (any_goals (first | assumption | wp_step))
    refine codeAny_mono (codeAny_call_builtin (R := wants (fun r s2 => r = .none ∧ SetMade prog w s xs s2) E) PySem.F.called_set.init.plain PySem.F.entry_set_init (check_set_init_1 ty0 ?_)) fun r2 s2 hr2 => ?_
    · have hz := hi.length
      have hlt : l < s.heap.objs.size := let ⟨_, q, _⟩ := hl; Heap.lt_size q
      obtain ⟨ol, hol, hcl, nl, hdl⟩ := hl
      obtain ⟨ocls, odict, odata, oslots⟩ := ol
      simp only at hcl hdl
      subst hcl hdl
      have hol1 : (s.heap.push (emptySet led)).get? l = some { cls := .type "list", dict := odict, data := .seq items nl, slots := oslots } := Heap.get?_push_of_some _ hol
      have k6 := PySem.F.sub_list_set
      have k7 := PySem.F.sub_list_frozenset
      have k8 : (Value.type "list" == Value.type "dict") = false := by decide
      have hl1 : (s.heap.push (emptySet led)).IsList l items := ⟨_, hol1, rfl, nl, rfl⟩
      unfold Builtin.«set.__init__» noKeywords Builtin.Frozenset.updateFrom
      generalize ePI : pyIter = PI
      wp_walk
      subst ePI
      refine wpAny_pyIter_list hl1 (wpAny_bind (wpAny_runValue ?_))
      have hh3 : A.in1.in1.in1.handled = none := by simp [hh]
      have zs : (s.heap.push (emptySet led)).objs.size = s.heap.objs.size + 1 := Heap.size_push ..
      have n1 : l ≠ (s.heap.push (emptySet led)).objs.size := by
        rw [zs]
        exact Nat.ne_of_lt (Nat.lt_succ_of_lt hlt)
      have n2 : s.heap.objs.size ∉ [(s.heap.push (emptySet led)).objs.size, l] := by
        rw [zs]
        intro z
        rcases List.mem_cons.mp z with y | y
        · exact absurd y (Nat.ne_of_lt (Nat.lt_succ_self _))
        · exact absurd (List.mem_singleton.mp y) (Nat.ne_of_gt hlt)
      have len : items.size = xs.length := by rw [← hz, Array.length_toList]
      refine loopT ((Walks.list hh3 _ l n1 items).toS) s.heap.objs.size n2 xs len.symm nd (by rw [len]; exact hb) (fun i v hv => ?_) items.size 0 _ (Nat.zero_add _) ⟨⟨_, Heap.get?_push_size _ rfl, rfl, rfl⟩, hl1.push _⟩ ?hS0 ?hR
      · obtain ⟨t, e⟩ := SS.strs_at hi i v (by rw [Array.getElem?_toList]; exact hv)
        have lt : i < xs.length := by
          have hv : items[i]? = some v := hv
          obtain ⟨q, _⟩ := Array.getElem?_eq_some_iff.mp hv
          omega
        exact ⟨xs.getD i Str.empty, t, by rw [List.getD_eq_getElem?_getD, List.getElem?_eq_getElem lt]; rfl, e⟩
      case hS0 =>
        refine SetOf_congr ((setObjOf_fresh (knd := PySem.strKind prog w) led).setOf (Heap.get?_push_of_some _ at0) (by unfold scanBound; omega)) (fun _ => by simp) rfl
      case hR =>
        intro s3 hm S3
        obtain ⟨h3, g3, d3, tk3, os3⟩ := s3
        obtain rfl : g3 = s.gens := hm.gens
        obtain rfl : d3 = s.drawn := hm.drawn
        obtain rfl : os3 = s.os := hm.os
        rw [len] at S3
        refine wpAny_pure (wpAny_pure ⟨rfl, h3, tk3, rfl, S3, fun b o lb e => hm.heap b o ?_ (Heap.get?_push_of_some _ (Heap.get?_push_of_some _ e))⟩)
        rw [zs]
        intro z
        rcases List.mem_cons.mp z with y | y
        · exact absurd y (Nat.ne_of_lt lb)
        · exact absurd (List.mem_singleton.mp y) (Nat.ne_of_lt (Nat.lt_succ_of_lt lb))
    · cases r2 with
      | error e => exact hr2
      | ok fl2 =>
      cases fl2 with
      | ret r =>
        obtain ⟨rfl, hm⟩ := hr2
        have q := h s2 hm
        repeat (any_goals (first | assumption | wp_step))
      | _ => exact hr2.elim
  | _ => exact hr.elim
end
end Eh

set_option maxHeartbeats 4000000
/-! Rules of one's own beside the hand layer: min of texts, d.update(d2), enumerate(text), len(set(texts)). -/
namespace Eh
open PySem PySem.Spec PyProof.Rows L2
section
variable {X : Cx}
/-! ### min(xs), a list of texts -/
def rMinT (K : PySem.W.Frag) : List V → Hp → VK → Prop := fun vs H Q => ∃ (a : Addr) (x : Str) (xs : List Str), vs = [V.ref a] ∧ SqL K H a ((x :: xs).map V.str) ∧ Q (.str (PySem.W.minOf x xs)) H
theorem cr_minT (hc : X.calm = true) (hu : X.A.units + 1 < cLine) : CallR X (.builtin "min") (rMinT X.K) := by
  intro pins s σ H vs us Q I r h
  obtain ⟨a, x, xs, rfl, hs, q⟩ := h
  obtain ⟨its, rv, hl, _⟩ := I.list hs
  rw [Vals.ref1 r]
  have hA : PySem.W.HoldAll s.heap its.toArray.toList (x :: xs) := PySem.W.HoldAll.of_strs (by simpa using strsAre_of rv)
  refine PySem.W.min_list_datum (I.ok.hd hc) hl.isList hA (by show X.A.units + 1 + 0 < cLine; omega) fun i v h' tk hi hv hk => ?_
  obtain ⟨as, rd⟩ := hv
  have rd : Reads h' v (.str (PySem.W.minOf x xs)) as := rd
  cases rd
  exact ⟨.str _, H, I.kept hk, ⟨_, rfl⟩, q⟩
/-! ### d.update(d2) -/
def rUpd : V → List V → Hp → VK → Prop := fun x xs H Q => ∃ (a b : Addr) (kvs more : List (Key × V)), x = .ref a ∧ xs = [.ref b] ∧ a ≠ b ∧ H a = some (.dK kvs) ∧ H b = some (.dK more) ∧ kvs.length + more.length ≤ sizeLine ∧ Q .non (upd H a (.dK (mergeK kvs more)))
theorem mt_upd : MtR X "dict.update" rUpd := by
  intro pins s σ H x xs v us Q I rx rxs h
  obtain ⟨a, b, kvs, more, rfl, rfl, hab, ha, hb, hz, q⟩ := h
  cases rx
  cases rxs with
  | cons ry rt =>
    cases rt
    cases ry
    obtain ⟨_, lo1, vs, rel1, dd1⟩ := dk_of I.hok ha
    obtain ⟨_, lo2, ws, rel2, dd2⟩ := dk_of I.hok hb
    have hz' : vs.length + ws.length ≤ sizeLine := by rw [← rel1.length, ← rel2.length]; exact hz
    refine call_meetsIn PySem.F.slot_dict_update dd1.typeIs PySem.F.entry_dict_update (PySem.F.args_dict_update_2 _ _) (meets_dict_update (mixKind X.prog X.w) a b hab lo2) ⟨vs, ws, dd1, dd2, hz', fun h' d1 d2 sb => ?_⟩
    have rel : KV (mergeK kvs more) (merged vs ws) := KV.merge rel2 rel1
    have hl : (mergeK kvs more).length ≤ sizeLine := by
      rw [rel.length]
      exact Nat.le_trans (merged_length_le vs ws) hz'
    have he : ∃ o, h'.get? a = some o := let ⟨o, _, _, ho, _⟩ := d1; ⟨o, ho⟩
    exact ⟨.non, _, d_write (t' := s.toks) I (by rw [ha]; exact True.intro) sb he (dk_new hl lo1 rel d1), rfl, q⟩
/-! ### enumerate(text): the signs by their places, each in a new pair -/
def Itse (z : Str) : It :=
  ⟨fun i _ => i < z.cps.size, fun i H v H' => ∃ T c, v = .ref T ∧ H T = none ∧ z.cps[i]? = some c ∧ H' = upd H T (.tup [.int (i : Nat), .str ⟨#[c]⟩]), fun i _ => z.cps.size ≤ i⟩
theorem turn_enumS {P : Program} {w : World} {K : PySem.W.Frag} {es : List Expr} {kk : Nat} {tp : Pos} (e j : Addr) (z : Str) (t : Tok) :
    Turn P w K (.Tuple es kk tp) (Itse z) [e, j] e (fun i h => (∃ old, IsEnum h e j ((i : Nat) : Int) old) ∧ h.IsStrIter j (strIterType z) z t i ∧ e ≠ j ∧ i ≤ z.cps.size) where
  mem := by simp
  obj := fun i h st b hb => by
    obtain ⟨⟨old, he⟩, ⟨o, ho, _, hd⟩, _⟩ := st
    rcases (show b = e ∨ b = j by simpa using hb) with q | q
    · subst q
      exact ⟨_, he, fun v y => by cases y⟩
    · subst q
      exact ⟨o, ho, fun v y => by rw [hd] at y; cases y⟩
  keep := fun i h h' st k => by
    obtain ⟨⟨old, he⟩, ⟨o, ho, r⟩, hne⟩ := st
    exact ⟨⟨old, k e (by simp) _ he⟩, ⟨o, k j (by simp) _ ho, r⟩, hne⟩
  item := by
    intro X hP hw hK hc i pins s σ H E I hf st hg
    subst hP hw hK
    obtain ⟨⟨old, he⟩, hit, hne, st3⟩ := st
    have le : e < s.heap.objs.size := Heap.lt_size he
    have lj : j < s.heap.objs.size := by
      obtain ⟨_, q, _⟩ := hit
      exact Heap.lt_size q
    have D := Draws.text (prog := X.prog) (w := X.w) (A := X.A.in1) (show X.A.in1.handled = none from I.ok.hd hc) j z t
    refine wpAny_pyNext_enum_itemD D he hit hg hne (by simpa using hne) fun x h1 tk hx ho hit1 hT _ hk => ?_
    obtain ⟨c, u, hc1, rfl⟩ := hx
    refine ⟨_, rfl, wpAny_letOwnedTupleGo_enum (s := { s with heap := h1, toks := tk + 1 }) ho fun h2 he2 sb => ?_⟩
    have hT2 : h2.get? s.heap.objs.size = some { cls := .type "tuple", data := .seq #[.int i tk, .str ⟨#[c]⟩ u] } := (sb.2 _ (Nat.ne_of_gt le)).trans hT
    have new : ObjOk X.prog X.w (upd H s.heap.objs.size (.tup [.int (i : Nat), .str ⟨#[c]⟩])) h2 s.heap.objs.size (.tup [.int (i : Nat), .str ⟨#[c]⟩]) :=
      ⟨(by decide : 2 ≤ sizeLine), [.int i tk, .str ⟨#[c]⟩ u], .cons ⟨_, rfl⟩ (.cons ⟨_, rfl⟩ .nil), _, hT2, rfl, _, rfl⟩
    have old2 : ∀ b o, b ∉ [e, j] → s.heap.get? b = some o → h2.get? b = some o := fun b o hb q => by
      have nb : b ≠ e ∧ b ≠ j := by simpa using hb
      exact (sb.2 b nb.1).trans (hk b o nb.1 nb.2 q)
    have I2 : Inv X pins σ (upd H s.heap.objs.size (.tup [.int (i : Nat), .str ⟨#[c]⟩])) { s with heap := h2, toks := tk + 1 } := I.turnedNew (ch := [e, j]) old2 hf (Nat.le_refl _) new
    refine ⟨.ref s.heap.objs.size, _, I2, rfl, ⟨_, c, rfl, I.hok.fresh (Nat.le_refl _), hc1, rfl⟩, ⟨⟨.str ⟨#[c]⟩ u, ?_⟩, ?_, hne, hg⟩, fun b hb => ?_⟩
    · rw [show ((i + 1 : Nat) : Int) = (i : Int) + 1 by omega]; exact he2
    · obtain ⟨o, q, r⟩ := hit1
      exact ⟨o, (sb.2 j (Ne.symm hne)).trans q, r⟩
    · have lb : b < s.heap.objs.size := by
        rcases (show b = e ∨ b = j by simpa using hb) with q | q
        · rw [q]; exact le
        · rw [q]; exact lj
      rw [upd_ne (Nat.ne_of_lt lb)]; exact (hf b hb).1
  done := by
    intro X hP hw hK hc i pins s σ H E I hf st hg
    subst hP hw hK
    obtain ⟨⟨old, he⟩, hit, hne, st3⟩ := st
    have D := Draws.text (prog := X.prog) (w := X.w) (A := X.A.in1) (show X.A.in1.handled = none from I.ok.hd hc) j z t
    obtain ⟨f0, f1, f2, f3, f4, f5⟩ := hf j (by simp)
    have hle : i ≤ z.cps.size := st3
    have e1 : i = z.cps.size := Nat.le_antisymm hle hg
    subst e1
    exact wpAny_pyNext_enum_endD D he hit fun h' eb => ⟨rfl, I.turned (t' := s.toks) (fun b o hb q => eb b o hb q) f0 f1 f3 f4 f5⟩
  self := fun A i s Q E st h => by
    obtain ⟨⟨_, he⟩, _⟩ := st
    exact wpAny_pyIter_enum he h
def iEnumS (ta : TA) : TI := fun σ H R => ta σ H fun vs H1 => ∃ z : Str, vs = [.str z] ∧ R (Itse z) H1
theorem pi_enumS {e : Expr} {ta : TA} {p pos tp : Pos} {es : List Expr} {kk : Nat} (hg : Gl X "enumerate") (hm : X.mg "enumerate" = none) (ha : PA X [e] ta) (na : starEach [e] X.env = [(false, eval e X.env)] := by rfl) :
    PI X (.Tuple es kk tp) (.Call (.Name "enumerate" p) [e] [] pos) (iEnumS ta) := by
  refine ⟨fun pins s σ H R I h => ?_⟩
  refine Call_ (ld_blt I hg hm boot_enumerate (PyProof.Rows.callWith_type1 (thn (ha.run pos pins s σ H _ I h) fun us s1 ⟨vs, H1, I1, r1, z, ez, q⟩ => ?_) na rfl))
  subst ez
  cases r1 with
  | cons r rr =>
    cases rr
    obtain ⟨t, rfl⟩ := r
    refine call_enumerate_str fun h1 he hi hsz hk => wpAny_pyIter_enum he ?_
    have I2 : Inv X pins σ H1 { s1 with heap := h1 } := I1.kept (t' := s1.toks) hk
    have apart : s1.heap.objs.size + 1 ≠ s1.heap.objs.size := Nat.succ_ne_self _
    refine ⟨_, _, _, _, H1, rfl, I2, turn_enumS (s1.heap.objs.size + 1) s1.heap.objs.size z t, ⟨⟨.none, he⟩, hi, apart, Nat.zero_le _⟩, fun b hb => ?_, q⟩
    have hle : s1.heap.objs.size ≤ b := by
      rcases (show b = s1.heap.objs.size + 1 ∨ b = s1.heap.objs.size by simpa using hb) with y | y <;> rw [y]
      · exact Nat.le_succ _
      · exact Nat.le_refl _
    exact I1.fpOk hle (I1.hok.fresh hle)
theorem walk_enumS {z : Str} : Walk (Itse z) z.cps.size (fun _ => True) (YPair (fun i => some (.int (i : Nat))) (fun i => (z.cps[i]?).map fun c => .str ⟨#[c]⟩)) := by
  refine ⟨fun _ _ hi _ => hi, fun _ _ => Nat.le_refl _, fun i H v H' _ _ y => ?_⟩
  obtain ⟨T, c, h1, h2, h3, h4⟩ := y
  exact ⟨T, .int (i : Nat), .str ⟨#[c]⟩, h1, h2, h4, rfl, by simp [h3]⟩
end
/-! ### a dict comprehension over anything that is walked -/
theorem dc_it {J : It} {n : Nat} {G : Hp → Prop} {Y : Nat → Hp → V → Hp → Prop} (wk : Walk J n G Y) {g : TG} {tt : TT} {tk tv : TE} {vs : List Nat} {σ : L2.St} {H1 : Hp} {D : Addr} {Qd : Hp → Prop} (Pv : Nat → Hp → Prop)
    (h0 : Pv 0 (upd H1 D (.dK []))) (hG : ∀ i H, i ≤ n → Pv i H → G H)
    (hs : ∀ i x H H', i < n → Pv i H → Y i H x H' → g x (wipe σ vs) H' fun σ2 H2 => wipe σ2 vs = wipe σ vs ∧ tt σ2 H2 fun b H3 => if b = true then tk σ2 H3 fun y H4 => tv σ2 H4 fun z H5 =>
      ∃ kvs k, y = kV k ∧ H5 D = some (.dK kvs) ∧ kvs.length < sizeLine ∧ Pv (i + 1) (upd H5 D (.dK (putK kvs k z))) else Pv (i + 1) H3) (hd : ∀ H, Pv n H → Qd H) :
    ∃ W : Nat → Nat → Hp → Prop, (∃ m, W 0 m (upd H1 D (.dK []))) ∧ ∀ i m H, W i m H → (J.stop i H ∧ Qd H) ∨ (J.go i H ∧ ∃ Nx : Hp → Prop, (∀ H', Nx H' → ∃ m', m' < m ∧ W (i + 1) m' H') ∧ ∀ x H', J.yld i H x H' →
      g x (wipe σ vs) H' fun σ2 H2 => wipe σ2 vs = wipe σ vs ∧ tt σ2 H2 fun b H3 => if b = true then tk σ2 H3 fun y H4 => tv σ2 H4 fun z H5 => ∃ kvs k, y = kV k ∧ H5 D = some (.dK kvs) ∧ kvs.length < sizeLine ∧ Nx (upd H5 D (.dK (putK kvs k z))) else Nx H3) := by
  refine ⟨fun i m H => m = n - i ∧ i ≤ n ∧ Pv i H, ⟨n, rfl, Nat.zero_le _, h0⟩, fun i m H ⟨em, hi, p⟩ => ?_⟩
  have q := hG i H hi p
  rcases Nat.lt_or_ge i n with hlt | hge
  · exact .inr ⟨wk.goes i H hlt q, Pv (i + 1), fun H' p' => ⟨n - (i + 1), by omega, rfl, hlt, p'⟩, fun x H' y => hs i x H H' hlt p (wk.yields i H x H' hlt q y)⟩
  · obtain rfl : i = n := Nat.le_antisymm hi hge
    exact .inl ⟨wk.stops H q, hd H p⟩
section
variable {X : Cx}
/-- the set of these unlike texts at a -/
def SetT (P : Program) (w : World) (a : Addr) (xs : List Str) : HO := .ext fun h => h.SetOf (PySem.strKind P w) a (fun y => decide (y ∈ xs)) xs.length
theorem setT_new {P : Program} {w : World} {H : Hp} {h : Heap} {a : Addr} {xs : List Str} (R : h.SetOf (PySem.strKind P w) a (fun y => decide (y ∈ xs)) xs.length) : ObjOk P w H h a (SetT P w a xs) := by
  have ⟨o, es, ep, t, ho, r⟩ := R
  exact ⟨R, ⟨o, ho⟩, fun h1 h2 ⟨o, es, ep, t, ho, r⟩ k => ⟨o, es, ep, t, k o ho, r⟩⟩
def rSetT (X : Cx) : List V → Hp → VK → Prop := fun vs H Q => ∃ (l : Addr) (xs : List Str), vs = [.ref l] ∧ SqL X.K H l (xs.map V.str) ∧ xs.Nodup ∧ xs.length ≤ 1000 ∧ ∀ p, H p = none → Q (.ref p) (upd H p (SetT X.prog X.w p xs))
theorem cr_setT (hc : X.calm = true) : CallR X (.type "set") (rSetT X) := by
  intro pins s σ H vs us Q I r h
  obtain ⟨l, xs, rfl, hs, nd, hz, q⟩ := h
  obtain ⟨its, rv, hl, _⟩ := I.list hs
  rw [Vals.ref1 r]
  refine call_setT (I.ok.hd hc) hl.isList (by simpa using strsAre_of rv) nd (by unfold scanBound; omega) fun s2 hm => ?_
  obtain ⟨h', tk, rfl, hS, hk⟩ := hm
  exact ⟨.ref _, _, I.laid (t' := tk) (fun b u e => hk b u (Heap.lt_size e) e) (Nat.le_refl _) (setT_new hS), rfl, q _ (I.hok.fresh (Nat.le_refl _))⟩
def rLenT (X : Cx) : List V → Hp → VK → Prop := fun vs H Q => ∃ (a : Addr) (xs : List Str), vs = [.ref a] ∧ H a = some (SetT X.prog X.w a xs) ∧ xs.length ≤ 1000 ∧ Q (.int xs.length) H
theorem call_lenT : CallR X (.builtin "len") (rLenT X) := by
  intro pins s σ H vs us Q I r h
  obtain ⟨a, xs, rfl, ha, hz, q⟩ := h
  rw [Vals.ref1 r]
  have hS : s.heap.SetOf (PySem.strKind X.prog X.w) a (fun y => decide (y ∈ xs)) xs.length := (I.hok a _ ha).1
  obtain ⟨o, es, ep, t, ho, hex, hd, _, _, _, hf, hn⟩ := hS
  exact call_len_set ho hex hd hf (by rw [hn]; omega) ⟨.int xs.length, H, I.tok _, ⟨_, by rw [hn]⟩, q⟩
end
end Eh

set_option maxHeartbeats 4000000
/-! A lambda of one parameter that a def of one parameter hands back, and its call by whoever holds it. -/
namespace Eh
open PySem PySem.Spec PyProof.Rows L2 LamX NdefX
/-- all but the tables stays, nothing that was tracked is gone -/
structure Xt (H H' : Hp) : Prop where
  keep : ExtN H H'
  gone : ∀ b, H' b = none → H b = none
theorem Xt.refl (H : Hp) : Xt H H := ⟨ExtN.refl H, fun _ h => h⟩
theorem Xt.trans {H H1 H2 : Hp} (a : Xt H H1) (b : Xt H1 H2) : Xt H H2 := ⟨a.keep.trans b.keep, fun c h => a.gone c (b.gone c h)⟩
theorem Xt.same {H H' : Hp} (e : Same H H') : Xt H H' := ⟨fun b o h _ => e b o h, fun _ h => e.free h⟩
theorem Xt.new {H : Hp} {p : Addr} {o : HO} (h : H p = none) : Xt H (upd H p o) := Xt.same fun _ _ e => (upd_ne (ne_of_none e h)).trans e
/-- the words of such a lambda: its qualified name, its parameter, its captured name, its text -/
structure Lm where
  qual : Str
  par : Str
  cap : Str
  params : Arguments
  body : Expr
  scope : Scope
/-- the function object at f: its cell at c, its code object at d -/
def LamO (L : Lm) (f c d : Addr) : HO := .ext fun h => ∃ pm ctv : Value, h.get? f = some (PySem.W.kla_obj "<lambda>" L.qual L.params L.body L.scope [(L.cap, c)] pm d ctv)
/-- the cell at c holds v -/
def CelO (c : Addr) (v : V) : HO := .ext fun h => ∃ u : Value, RelV v u ∧ h.IsCell c (some u)
/-- what is known of the lambda at f: its cell holds v -/
structure Held1 (L : Lm) (H : Hp) (f : Addr) (v : V) : Prop where
  ex : ∃ c d : Addr, H f = some (LamO L f c d) ∧ H c = some (CelO c v) ∧ H d = some (CodeO d L.qual)
theorem lamO_ne {L : Lm} {f c d : Addr} (ps : Array Value) : LamO L f c d ≠ .tbl ps := fun z => by unfold LamO at z; cases z
theorem celO_ne {c : Addr} {v : V} (ps : Array Value) : CelO c v ≠ .tbl ps := fun z => by unfold CelO at z; cases z
theorem Held1.ext {L : Lm} {H H' : Hp} {f : Addr} {v : V} (h : Held1 L H f v) (e : ExtN H H') : Held1 L H' f v := by
  obtain ⟨c, d, h1, h2, h3⟩ := h.ex
  exact ⟨c, d, e _ _ h1 lamO_ne, e _ _ h2 celO_ne, e _ _ h3 codeO_ne⟩
/-! ### made -/
section
variable {X : Cx} {pins : List (Addr × Obj)} {σ : L2.St} {H : Hp} {s : Shared}
theorem inv_lam {L : Lm} {c d : Addr} {pm ctv : Value} {h' : Heap} {t' : Nat} (I : Inv X pins σ H { s with heap := h', toks := t' }) :
    Inv X pins σ (upd H h'.objs.size (LamO L h'.objs.size c d)) { s with heap := h'.push (PySem.W.kla_obj "<lambda>" L.qual L.params L.body L.scope [(L.cap, c)] pm d ctv), toks := t' } := by
  have e := Heap.get?_push_size h' (o := PySem.W.kla_obj "<lambda>" L.qual L.params L.body L.scope [(L.cap, c)] pm d ctv) rfl
  exact I.laid (t' := t') (a := h'.objs.size) (fun b u q => Heap.get?_push_of_some _ q) (Nat.le_refl _) ⟨⟨pm, ctv, e⟩, ⟨_, e⟩, fun h1 h2 ⟨p, t, z⟩ st => ⟨p, t, st _ z⟩⟩
/-- the lambda's object is made, its code object new or found in the table -/
theorem lam_new {L : Lm} {c d0 Pt : Addr} {pos : Pos} {E Q : Value → Shared → Prop} (I : Inv X pins σ H s) (TB : TabB X.base X.mg d0 Pt) (hcode : X.env.code = .ref d0) (hq : L.qual = X.env.qual ++ "<lambda>") (hT : TabS H Pt L.qual)
    (hdef : defaultsOf L.params X.env = ([], [])) (hcl : closureFor L.scope X.env = pure [(L.cap, c)])
    (h : ∀ (f d : Addr) (H1 : Hp) (s' : Shared), Inv X pins σ H1 s' → Xt H H1 → TabS H1 Pt L.qual → H f = none → H1 f = some (LamO L f c d) → H1 d = some (CodeO d L.qual) → Q (.ref f) s') :
    wpAny (model X.prog X.w) X.A (eval (.Lambda L.params L.body L.scope pos) X.env) Q E s := by
  obtain ⟨ps, hP, ht, ha⟩ := hT
  refine PySem.W.kla_eval hdef ?_
  rw [← hq]
  have bP : s.heap.BuiltinsAt X.mg Pt := TB.bm.keeps I.bk
  have atP : s.heap.get? Pt = some { cls := .none, data := .fields ps } := I.hok Pt _ hP
  cases hc : codeAmong pos ps.toList with
  | none =>
    refine PySem.W.kla_makeFunction (mg := X.mg) (c := d0) (P := Pt) (ps := ps) hcl I.ok.glob (I.mod.glob.keeps I.bk) hcode (TB.code.keeps I.bk) atP ht hc TB.gP bP fun d ctv h1 tk hx hge hlt hrec htb => ?_
    obtain ⟨d2, oc, vs, t, ed, hoc, hd, hv⟩ := hrec
    cases ed
    have nD : H d = none := I.hok.fresh hge
    have I1 := inv_table (t' := tk) (more := #[rawInt pos.line, rawInt pos.col, .ref d]) (h' := h1) I hP (fun b o hb e => hx b o hb e) htb hge ⟨oc, vs, t, hoc, hd, hv⟩
    have eN : ExtN H (upd (upd H Pt (.tbl (ps ++ #[rawInt pos.line, rawInt pos.col, .ref d]))) d (CodeO d L.qual)) := fun b o e n => by
      have b1 : b ≠ d := ne_of_none e nD
      have b2 : b ≠ Pt := fun z => n ps (Option.some.inj (e.symm.trans (by rw [z]; exact hP)))
      rw [upd_ne b1, upd_ne b2]; exact e
    have T1 : TabS (upd (upd H Pt (.tbl (ps ++ #[rawInt pos.line, rawInt pos.col, .ref d]))) d (CodeO d L.qual)) Pt L.qual := by
      have el : (ps ++ #[rawInt pos.line, rawInt pos.col, .ref d]).toList = ps.toList ++ [rawInt pos.line, rawInt pos.col, .ref d] := by simp
      refine ⟨_, by rw [upd_ne (ne_of_none hP nD), upd_same], by rw [el]; exact PySem.TriplesOk_snoc _ _ _ _ ht, fun p cv hcv => ?_⟩
      rw [el] at hcv
      rcases among_app _ ht hcv with z | z
      · obtain ⟨a, e1, e2⟩ := ha p cv z
        exact ⟨a, e1, eN _ _ e2 codeO_ne⟩
      · exact ⟨d, z, upd_same⟩
    have nF := I1.hok.fresh (Nat.le_refl _)
    have I2 := inv_lam (L := L) (c := c) (d := d) (pm := (X.mg "__name__").getD .none) (ctv := ctv) I1
    have keep : ∀ b o, (upd (upd H Pt (.tbl (ps ++ #[rawInt pos.line, rawInt pos.col, .ref d]))) d (CodeO d L.qual)) b = some o → (upd (upd (upd H Pt (.tbl (ps ++ #[rawInt pos.line, rawInt pos.col, .ref d]))) d (CodeO d L.qual)) h1.objs.size (LamO L h1.objs.size c d)) b = some o := fun b o e => (upd_ne (ne_of_none e nF)).trans e
    exact h h1.objs.size d _ _ I2 ⟨fun b o e n => keep b o (eN b o e n), fun b e => upd_none (upd_none (upd_none e))⟩ (T1.ext keep) (I.hok.fresh (Nat.le_trans hge (Nat.le_of_lt hlt))) upd_same (keep _ _ upd_same)
  | some cv =>
    obtain ⟨d, ed, hd⟩ := ha pos cv hc
    subst ed
    refine PySem.W.kla_makeFunctionHit (mg := X.mg) (c := d0) (P := Pt) (ps := ps) hcl I.ok.glob (I.mod.glob.keeps I.bk) hcode (TB.code.keeps I.bk) atP ht hc bP fun ctv h1 tk hx hsz => ?_
    have I1 : Inv X pins σ H { s with heap := h1, toks := tk } := I.kept hx
    have nF : H h1.objs.size = none := I1.hok.fresh (Nat.le_refl _)
    have I2 := inv_lam (L := L) (c := c) (d := d) (pm := (X.mg "__name__").getD .none) (ctv := ctv) I1
    have keep : ∀ b o, H b = some o → (upd H h1.objs.size (LamO L h1.objs.size c d)) b = some o := fun b o e => (upd_ne (ne_of_none e nF)).trans e
    exact h h1.objs.size d _ _ I2 ⟨fun b o e _ => keep b o e, fun b e => upd_none e⟩ (TabS.ext ⟨ps, hP, ht, ha⟩ keep) nF upd_same (keep _ _ hd)
end
/-! ### the def that hands it back -/
/-- its promise: a new function whose cell holds the argument -/
def spMakes (L : Lm) (Pt : Addr) : Sp := fun vs H Q _ => ∃ v : V, vs = [v] ∧ TabS H Pt L.qual ∧ ∀ (f : Addr) (H' : Hp), Xt H H' → TabS H' Pt L.qual → H f = none → Held1 L H' f v → Q (.ref f) H'
/-- an untracked cell, younger than the entry, is tracked from now on -/
theorem un_cell {fs : List Addr} {H H1 : Hp} {h h1 : Heap} {c : Addr} {o : HO} (u : Un fs [] H H1 h h1) (n : H1 c = none) (lt : h.objs.size ≤ c) : Un fs [] H (upd H1 c o) h h1 where
  keep := u.keep
  slot := u.slot
  free := fun b ob q nb hx => by rw [upd_ne (Nat.ne_of_lt (Nat.lt_of_lt_of_le (Heap.lt_size q) lt))]; exact u.free b ob q nb hx
  there := u.there
  tups := fun b xs q => by
    have := u.tups b xs q
    rw [upd_ne (ne_of_none this n)]; exact this
  frzs := fun b ob xs q => by
    have := u.frzs b ob xs q
    rw [upd_ne (ne_of_none this n)]; exact this
  tbls := fun b ps q => by
    obtain ⟨m, this⟩ := u.tbls b ps q
    exact ⟨m, by rw [upd_ne (ne_of_none this n)]; exact this⟩
theorem hok_cell {P : Program} {w : World} {H1 : Hp} {h1 : Heap} {c : Addr} {v : V} {u : Value} (k : HOk P w H1 h1) (n : H1 c = none) (r : L2.RelV v u) (hc : h1.IsCell c (some u)) : HOk P w (upd H1 c (CelO c v)) h1 := fun b o e => by
  by_cases hb : b = c
  · subst hb
    rw [upd_same] at e
    cases e
    have hc' := hc
    obtain ⟨oc, ho, _⟩ := hc'
    exact ⟨⟨u, r, hc⟩, ⟨oc, ho⟩, fun h2 h3 ⟨u2, r2, ob, q, d⟩ st => ⟨u2, r2, ob, st _ q, d⟩⟩
  · rw [upd_ne hb] at e
    exact (k b o e).stay (fun _ _ _ q => q) (fun a q => by rw [upd_ne (ne_of_none q n)]; exact q) fun a xs q => by rw [upd_ne (ne_of_none q n)]; exact q
theorem makes_ok {P : Program} {w : World} {K : PySem.W.Frag} {mg : Str → Option Value} {base : Heap} {L : Lm} {g d0 Pt : Addr} {x : Str} {params : Arguments} {body : List Stmt} {scope : Scope} {dV kV doc pm ct oc : Value} {an od : Option Addr} {osl : Array (Option Value)} {lpos rpos : Pos}
    (lk : K.lookup g = some ⟨oc, od, .func (PySem.W.fnOf x x params body scope dV kV doc pm an (.ref d0) ct), osl⟩) (hcd : PySem.W.codeIn K (.ref d0) x = true) (S : FnScope [L.cap] [L.cap] scope) (hcell : scope.names.lookup L.cap = some .cell)
    (eb : body = [.Return (some (.Lambda L.params L.body L.scope lpos)) rpos]) (TB : TabB base mg d0 Pt) (hq : L.qual = (x ++ ".<locals>.") ++ "<lambda>") (hdef : ∀ env, defaultsOf L.params env = ([], []))
    (hcl : ∀ env c, env.cells.lookup L.cap = some c → closureFor L.scope env = pure [(L.cap, c)]) :
    FnOk P w K mg base CX0 1 g (PySem.W.fnOf x x params body scope dV kV doc pm an (.ref d0) ct) [L.cap] (spMakes L Pt) := by
  refine ⟨fun vs H Q E ⟨v, e, _⟩ => by rw [e]; rfl, fun A outer s H args us vs Q E hr e0 hb r hsp => ?_⟩
  obtain ⟨v, rfl, hT, hQ⟩ := hsp
  have KX : K.In s.heap := e0.mod.kin.keeps fun b o e => (e0.bs b o e).1
  have lim : s.heap.NoLimit := e0.mod.nolimit.keeps fun b o e => (e0.bs b o e).1
  have names : ∀ y ∈ [L.cap].zip us, scope.names.lookup y.1 = some .local ∨ (scope.names.lookup y.1 = some .cell ∧ ((cellsFrom (s.heap.objs.size + 1) scope.names []).lookup y.1).isSome = true) := fun ⟨n, z⟩ hy => by
    rcases S.par n (List.of_mem_zip hy).1 with q | q
    · exact .inl q
    · exact .inr ⟨q, PySem.W.cellsFrom_some _ _ _ (.inl q)⟩
  refine codeAny_call_function hr.depth (KX _ _ lk) rfl S.co S.gen rfl (PySem.W.codeRec_of KX hcd) (hb _ _ _ _ ?_)
  refine wpAny_newFunctionEnv_cells S.kind names fun env he s1 xc => ?_
  subst he
  refine ⟨lim.keeps xc.toInCall.keep, codeAny_func ?_⟩
  have I : Inv (cxOf CX0 P w K mg base [L.cap] x scope g (.ref d0) A outer s H E) [] (L2.start [L.cap] [v]) H s1 := inv_start S hr.hd e0 rfl r xc
  obtain ⟨c, hc⟩ := cell_has (n := s.heap.objs.size + 1) hcell
  rw [eb]
  refine wpAny_execs_cons (wpAny_Return_some (lam_new (c := c) I TB rfl hq hT (hdef _) (hcl _ c hc) fun f d H1 s2 J eN T1 f0 f1 d1 => ?_))
  obtain ⟨m, _, hl⟩ := J.loc
  obtain ⟨u, ru, lo⟩ := hl 0 L.cap v rfl rfl (.inr (.inl hcell))
  have cl : s2.heap.IsCell c (some u) := by
    rcases lo with ⟨z, _⟩ | ⟨_, c2, e2, z⟩
    · have z : scope.names.lookup L.cap = some .local := z
      rw [hcell] at z; cases z
    · have e3 : some c2 = some c := e2.symm.trans hc
      cases e3; exact z
  have nC : H1 c = none := J.freeC L.cap c hc
  have gC : s.heap.objs.size ≤ c := J.ok.cab L.cap c rfl hc
  have keep : ∀ b o, H1 b = some o → upd H1 c (CelO c v) b = some o := fun b o e => (upd_ne (ne_of_none e nC)).trans e
  exact ⟨.ref f, upd H1 c (CelO c v), J.os, J.bare, un_cell J.base nC gC, hok_cell J.hok nC ru cl, rfl, hQ f _ ⟨fun b o e n => keep b o (eN.keep b o e n), fun b e => eN.gone b (upd_none e)⟩ (T1.ext keep) f0 ⟨c, d, keep _ _ f1, upd_same, keep _ _ d1⟩⟩
/-! ### called -/
/-- the heap without c -/
def del (H : Hp) (c : Addr) : Hp := fun b => if b = c then none else H b
theorem del_same {H : Hp} {c : Addr} : del H c c = none := if_pos rfl
theorem del_ne {H : Hp} {b c : Addr} (h : b ≠ c) : del H c b = H b := if_neg h
theorem del_none {H : Hp} {b c : Addr} (h : H b = none) : del H c b = none := by
  by_cases e : b = c
  · subst e; exact del_same
  · rw [del_ne e]; exact h
theorem del_some {H : Hp} {b c : Addr} {o : HO} (h : del H c b = some o) : H b = some o ∧ b ≠ c := by
  by_cases e : b = c
  · subst e; rw [del_same] at h; cases h
  · rw [del_ne e] at h; exact ⟨h, e⟩
theorem hok_del {P : Program} {w : World} {H : Hp} {h : Heap} {c : Addr} {v : V} (k : HOk P w H h) (e : H c = some (CelO c v)) : HOk P w (del H c) h := fun b o q => by
  obtain ⟨q1, _⟩ := del_some q
  have nc : ∀ a (u : HO), H a = some u → (∀ φ, u ≠ .ext φ) → a ≠ c := fun a u ha hu z => by
    rw [z, e] at ha
    exact hu _ (Option.some.inj ha).symm
  exact (k b o q1).stay (fun _ _ _ r => r) (fun a r => by rw [del_ne (nc a _ r fun φ z => by cases z)]; exact r) fun a xs r => by rw [del_ne (nc a _ r fun φ z => by cases z)]; exact r
abbrev Lm.nf (L : Lm) (c d : Addr) : NF := ⟨"<lambda>", L.qual, L.params, [], L.scope, [(L.cap, c)], d⟩
/-- the lambda may be called: its cell holds v, its argument is z; tb reads its text -/
structure LmOk (P : Program) (w : World) (K : PySem.W.Frag) (mg : Str → Option Value) (base : Heap) (k : Nat) (L : Lm) (tb : TE) : Prop where
  run : ∀ (A : Around) (outer : List Env) (s : Shared) (H : Hp) (f : Addr) (us : List Value) (v z : V) (Q : VK), Room k A → Env0 P w K mg base A outer s H → Held1 L H f v → Vals [z] us →
    (∀ c, H c = some (CelO c v) → tb [some z, some v] (del H c) fun r H' => H' = del H c ∧ Q r H) → codeAny (model P w) A (.call (.ref f) ⟨us, []⟩) (CR CX0 outer P w H s Q E0) s
theorem lm_ok {P : Program} {w : World} {K : PySem.W.Frag} {mg : Str → Option Value} {base : Heap} {k : Nat} {L : Lm} {tb : TE} (S : NScope [L.par, L.cap] [L.par] [L.cap] L.scope)
    (hbind : ∀ (cl : List (Str × Addr)) (pm cv ctv u : Value), bindArgs (PySem.W.kla_fn "<lambda>" L.qual L.params L.body L.scope cl pm cv ctv) ⟨[u], []⟩ = pure [(L.par, u)])
    (hbody : ∀ (A : Around) (outer : List Env) (s : Shared) (H : Hp) (f c d : Addr), Room k (A.deeper (envF (L.nf c d) f s.heap.objs.size)) → PE (ncx CX0 P w K mg base [L.par, L.cap] (L.nf c d) f A outer s H E0) L.body tb) :
    LmOk P w K mg base (k + 1) L tb := by
  refine ⟨fun A outer s H f us v z Q hr e0 hf r hq => ?_⟩
  obtain ⟨c, d, h1, h2, h3⟩ := hf.ex
  obtain ⟨u, rfl⟩ : ∃ u, us = [u] := by
    cases r with
    | cons a b => cases b; exact ⟨_, rfl⟩
  have o1 : ∃ pm ctv : Value, s.heap.get? f = some (PySem.W.kla_obj "<lambda>" L.qual L.params L.body L.scope [(L.cap, c)] pm d ctv) := (e0.hok f _ h1).1
  have o2 : ∃ u : Value, L2.RelV v u ∧ s.heap.IsCell c (some u) := (e0.hok c _ h2).1
  obtain ⟨⟨oc, vs, tq, g1, g2, g3⟩, _, _⟩ := e0.hok d _ h3
  obtain ⟨pm, ctv, of⟩ := o1
  obtain ⟨uc, ru, hc⟩ := o2
  have lim : s.heap.NoLimit := e0.mod.nolimit.keeps fun b o e => (e0.bs b o e).1
  have e1 : Env0 P w K mg base A outer s (del H c) := ⟨e0.frames, e0.mod, fun b o e => ⟨(e0.bs b o e).1, del_none (e0.bs b o e).2⟩, e0.bsz, e0.funs, fun b hb => del_none (e0.frf b hb), hok_del e0.hok h2, e0.bare⟩
  have C : CellsAt [(L.cap, c)] [L.cap] [some v] s.heap (del H c) := by
    have one : ∀ {y : Str} {a : Addr}, ([(L.cap, c)] : List (Str × Addr)).lookup y = some a → y = L.cap ∧ a = c := fun {y a} e => by
      have := PySem.mem_of_lookup e
      simp at this; exact this
    refine ⟨rfl, fun y a e => ?_, fun y y' a e e' => (one e).1.trans (one e').1.symm, fun i y e => ?_⟩
    · rw [(one e).2]; exact ⟨del_same, _, hc⟩
    · cases i with
      | succ i => simp at e
      | zero =>
        obtain rfl : L.cap = y := Option.some.inj e
        refine ⟨c, by simp [List.lookup], fun v' ev => ?_⟩
        obtain rfl : v = v' := Option.some.inj (Option.some.inj ev)
        exact ⟨uc, ru, hc⟩
  refine PySem.W.kla_callFunE hr.depth of rfl S.co S.gen rfl ⟨d, oc, vs, tq, rfl, g1, g2, g3⟩ ?_
  rw [hbind]
  refine wpAny_pure (wpAny_newFunctionEnv S.nocell (fun y hy => S.par y.1 (by simp at hy; rw [hy]; exact List.mem_singleton.mpr rfl)) (fun h₁ hns hsb => ⟨lim.fresh _ hsb, ?_⟩) S.kind)
  show codeAny _ _ (.expr L.body (envF (L.nf c d) f s.heap.objs.size)) _ _
  have kp : ∀ b o, s.heap.get? b = some o → h₁.get? b = some o := fun b o e => hsb.extBut b o (Nat.ne_of_lt (Heap.lt_size e)) (Heap.get?_push_of_some _ e)
  have J0 : Inv (ncx CX0 P w K mg base [L.par, L.cap] (L.nf c d) f A outer s (del H c) E0) [] (startF [L.par, L.cap] [z] [some v]) (del H c) { s with heap := h₁, toks := s.toks + ([L.par].zip [u]).length } :=
    inv_startN (F := L.nf c d) (ps := [L.par]) (fr := [L.cap]) S hr.hd e1 rfl r C hns kp
  refine PySem.W.kla_codeExpr (wpAny_mono ((hbody A outer s (del H c) f c d (hr.deeper _)).run [] _ _ _ _ J0 (hq c h2)) (fun r' s' hs => ?_) fun e s' hs => hs)
  obtain ⟨x, H', J, rx, rfl, q⟩ := hs
  obtain ⟨ob, ho, hd⟩ := hc
  obtain ⟨sl, hs2⟩ := J.base.any ho del_same (fun z => nomatch (show c ∈ ([] : List Addr) from z))
  refine ⟨x, H, J.os, J.bare, ⟨fun b o a n => J.base.keep b o a (del_none n), fun b o a n => J.base.slot b o a (del_none n), fun b o _ n _ => n, J.base.there, fun _ _ q => q, fun _ _ _ q => q, fun _ ps q => ⟨#[], by rw [q]; simp⟩⟩, fun b o e => ?_, rx, q⟩
  by_cases hb : b = c
  · subst hb
    rw [h2] at e
    cases e
    exact ⟨⟨uc, ru, _, hs2, hd⟩, ⟨_, hs2⟩, fun h2 h3 ⟨u2, r2, ob, q, dd⟩ st => ⟨u2, r2, ob, st _ q, dd⟩⟩
  · exact (J.hok b o (by rw [del_ne hb]; exact e)).stay (fun _ _ _ y => y) (fun a y => (del_some y).1) fun a xs y => (del_some y).1
/-- g(e), g a name of the frame that holds such a lambda -/
def tCallLm (L : Lm) (tb : TE) (i : Nat) (t : TA) : TE := fun σ H Q => ∃ f v, σ[i]? = some (some (.ref f)) ∧ Held1 L H f v ∧ t σ H fun vs H1 => ∃ z, vs = [z] ∧ Held1 L H1 f v ∧ ∀ c, H1 c = some (CelO c v) → tb [some z, some v] (del H1 c) fun r H' => H' = del H1 c ∧ Q r H1
theorem pe_callLm {X : Cx} {L : Lm} {tb : TE} {k j i : Nat} {x : Str} {p pos : Pos} {e : Expr} {es : List Expr} {t : TA} (F : LmOk X.prog X.w X.K X.mg X.base k L tb) (hr : Room j X.A) (hk : k ≤ j) (hN : X.N[i]? = some x) (hv : Vis X.env.scope x) (ha : PA X (e :: es) t)
    (hd : (x == ("__debug__" : Str)) = false := by decide) (hcd : (x == ("__classdict__" : Str)) = false := by decide)
    (he : starEach (e :: es) X.env = (false, eval e X.env) :: starEach es X.env := by rfl) (hpl : (backTo pos (starEach es X.env)).any (·.1) = false := by rfl) : PE X (.Call (.Name x p) (e :: es) [] pos) (tCallLm L tb i t) := by
  refine ⟨fun pins s σ H Q I h => ?_⟩
  obtain ⟨f, v, hs, hf, ht⟩ := h
  have at_ : ∀ {σ' : L2.St} {H' : Hp} {s' : Shared}, Inv X pins σ' H' s' → Held1 L H' f v → PySem.W.FnAt f s'.heap := fun {σ' H' s'} J hh => by
    obtain ⟨c, d, h1, _, _⟩ := hh.ex
    have o1 : ∃ pm ctv : Value, s'.heap.get? f = some (PySem.W.kla_obj "<lambda>" L.qual L.params L.body L.scope [(L.cap, c)] pm d ctv) := (J.hok f _ h1).1
    obtain ⟨pm, ctv, o1⟩ := o1
    exact ⟨_, _, _, _, o1⟩
  refine wpAny_Call_Name_kw (thn ((pe_var (pos := p) hN hv hd hcd).run pins s σ H (fun y H1 => y = .ref f ∧ H1 = H) I ⟨.ref f, hs, rfl, rfl⟩) fun u s1 ⟨y, H1, I1, r1, q1⟩ => ?_)
  obtain ⟨ey, eH⟩ := q1
  subst ey
  rw [eH] at I1
  obtain rfl : u = Value.ref f := r1
  refine PySem.W.callWith_F (first := []) (at_ I1 hf) (thn (ha.run pos pins s1 σ H _ I1 ht) fun us s2 ⟨vs, H2, I2, r, z, ez, hf2, q⟩ => ⟨at_ I2 hf2, ?_⟩) he hpl
  subst ez
  refine wpAny_call (codeAny_mono (F.run X.A X.stack s2 H2 f us v z Q (hr.mono hk) I2.env0 hf2 r q) fun r s' hq => ?_)
  cases r with
  | error e => exact (show False from hq).elim
  | ok fl =>
    cases fl with
    | ret u => exact I2.after hq
    | next => exact False.elim hq
    | brk => exact False.elim hq
    | cont => exact False.elim hq
end Eh

set_option maxHeartbeats 4000000
/-! The text by places, the words as texts, the facts of the module. -/
namespace Eh
open PySem PySem.Spec PyProof.Rows L2
/-- the i-th statement of the top -/
def top (i : Nat) : Stmt := PySem.Challenge.pw_everyhalf_k57_whole_rings_of_trees.main.body.getD i (.Pass ⟨0, 0, 0, 0⟩)
/-! ### words as texts -/
def sg (b : Bool) : Nat := if b then 49 else 48
theorem sg_inj : ∀ {a b : Bool}, sg a = sg b → a = b := by decide
abbrev cd (w : Wd) : List Nat := w.map sg
theorem cd_inj : ∀ {a b : Wd}, cd a = cd b → a = b
  | [], [], _ => rfl
  | [], _ :: _, h => by simp [cd] at h
  | _ :: _, [], h => by simp [cd] at h
  | x :: a, y :: b, h => by
    have h : sg x :: cd a = sg y :: cd b := h
    injection h with h1 h2
    rw [sg_inj h1, cd_inj h2]
/-- a word's text -/
def en (w : Wd) : Str := SX.S (cd w)
theorem en_inj {a b : Wd} (h : en a = en b) : a = b := cd_inj (SX.S_inj h)
theorem en_len (w : Wd) : (en w).length = w.length := by unfold en; rw [SX.S_len]; simp [cd]
theorem en_size (w : Wd) : (en w).cps.size = w.length := by have := en_len w; exact this
theorem en_app (a b : Wd) : en a ++ en b = en (a ++ b) := by unfold en; rw [SX.S_cat]; simp [cd]
theorem en_at (w : Wd) (i : Nat) : (en w).cps[i]? = (w[i]?).map sg := by
  unfold en
  simp [SX.S, cd]
theorem en_nil : en [] = (Str.empty : Str) := rfl
theorem en_ne {a b : Wd} : (V.str (en a) = V.str (en b)) ↔ a = b := ⟨fun h => en_inj (V.str.inj h), fun h => by rw [h]⟩
theorem dec_en (a b : Wd) : decide (V.str (en a) = V.str (en b)) = decide (a = b) := by
  by_cases h : a = b
  · subst h; simp
  · rw [decide_eq_false h, decide_eq_false (fun z => h (en_ne.mp z))]
theorem en1 : en [true] = ("1" : Str) := by decide +kernel
theorem en0 : en [false] = ("0" : Str) := by decide +kernel
theorem en110 : en [true, true, false] = ("110" : Str) := by decide +kernel
theorem en101 : en [true, false, true] = ("101" : Str) := by decide +kernel
/-- the signs of a word one by one -/
theorem en_sign (b : Bool) : (⟨#[sg b]⟩ : Str) = en [b] := by cases b <;> rfl
theorem slice_from {w : Wd} (k : Nat) : Txt.slice (en w) (some (k : Int)) none = en (w.drop k) := by
  unfold en
  rw [SX.slice_from (by omega)]
  simp [cd, List.map_drop]
theorem slice_to {w : Wd} (k : Nat) : Txt.slice (en w) none (some (k : Int)) = en (w.take k) := by
  unfold en
  rw [SX.slice_to (by omega)]
  simp [cd, List.map_take]
theorem slice_mid {w : Wd} {i j : Nat} (h : i ≤ j) (hj : j ≤ w.length) : Txt.slice (en w) (some (i : Int)) (some (j : Int)) = en ((w.drop i).take (j - i)) := by
  have hl : ((en w).length : Int) = (w.length : Int) := by rw [en_len]
  have e := beq_iff_eq.mp (PyProof.Rows.slice_closesL (x := en w) (i := (i : Int)) (j := (j : Int)) (by omega) (by omega) (by omega))
  rw [e]
  show SX.S (((cd w).drop (i : Int).toNat).take ((j : Int) - (i : Int)).toNat) = SX.S (cd ((w.drop i).take (j - i)))
  rw [show (i : Int).toNat = i by omega, show ((j : Int) - (i : Int)).toNat = j - i by omega]
  simp [cd, List.map_take, List.map_drop]
/-! ### the defs -/
/-- a def of the module as the top leaves it, its arguments bound by place -/
structure Dd (K : PySem.W.Frag) (mg : Str → Option Value) (x : Str) (st : Stmt) (ps : List Str) : Prop where
  ex : ∃ (f : Addr) (fd : FuncData), C8.Def K mg x st f fd ∧ Binds K fd ps []
section
variable {P : Program} {w : World} {K : PySem.W.Frag} {mg : Str → Option Value} {base : Heap}
abbrev Cl (P : Program) (w : World) (K : PySem.W.Frag) (mg : Str → Option Value) (base : Heap) (k : Nat) (x : Str) (sp : Sp) : Prop := C8.Cal P w K mg base k x sp []
/-- the promise of a def, by its body -/
theorem Dd.cal {x : Str} {st : Stmt} {ps N : List Str} {k : Nat} {sp : Sp} (D : Dd K mg x st ps) (S : FnScope N ps (C8.fnScope st)) (len : ∀ vs H Q E, sp vs H Q E → vs.length = ps.length)
    (hbody : ∀ (f : Addr) (cdv : Value) (A : Around) (outer : List Env) (s : Shared) (H : Hp) (vs : List V) (Q : VK) (E : XK), Room k (A.deeper (envOfC x (C8.fnScope st) s.heap.objs.size f cdv)) → sp vs H Q E →
      ∃ t, PSs (cxOf C8.CX0 P w K mg base N x (C8.fnScope st) f cdv A outer s H E).nox (C8.fnBody st) t ∧ t { nx := fun _ H' => Q .non H', rt := Q } (L2.start N vs) H) : Cl P w K mg base (k + 1) x sp := by
  obtain ⟨f, fd, F, b⟩ := D.ex
  exact C8.cal0 F b .nil S len fun cdv => hbody f cdv
theorem Cl.mono {j k : Nat} {x : Str} {sp : Sp} (c : Cl P w K mg base j x sp) (h : j ≤ k) : Cl P w K mg base k x sp := by
  obtain ⟨f, fd, ps, ds, F, r⟩ := c.ex
  exact ⟨f, fd, ps, ds, F.mono h, r⟩
end
/-- what of the module's names the walks lean on -/
structure Tx (mg : Str → Option Value) : Prop where
  isi : mg "isinstance" = none
  int : mg "int" = none
  bool : mg "bool" = none
  str : mg "str" = none
  all : mg "all" = none
  len : mg "len" = none
  enum : mg "enumerate" = none
  range : mg "range" = none
  list : mg "list" = none
  tuple : mg "tuple" = none
  set : mg "set" = none
  sorted : mg "sorted" = none
  sum : mg "sum" = none
  min : mg "min" = none
  repr : mg "repr" = none
  abs : mg "abs" = none
  mw : ∃ u, mg "MOST_PAIRS_words" = some u ∧ RelV (.int 200) u
  lp : ∃ u, mg "LEAST_PAIRS" = some u ∧ RelV (.int 2) u
  mb : ∃ u, mg "MOST_PAIRS_books" = some u ∧ RelV (.int 60) u
  mo : ∃ u, mg "MOST_WORDS" = some u ∧ RelV (.int 300) u
  si : ∃ u, mg "SIGNS" = some u ∧ RelV (.str "01") u
  dl : ∃ u, mg "DEEP_LEAF" = some u ∧ RelV (.str "110") u
  nl : ∃ u, mg "NEAR_LEAF" = some u ∧ RelV (.str "101") u
  pu : ∃ u, mg "PULLED" = some u ∧ RelV (.str "101") u
theorem szle {n : Nat} (h : n ≤ 100000) : n ≤ sizeLine := Nat.le_trans h (by decide)
theorem szlt {n : Nat} (h : n ≤ 100000) : n < sizeLine := Nat.lt_of_le_of_lt h (by decide)
end Eh

set_option maxHeartbeats 4000000
/-! Walks: pulls, first pairs, turns. -/
namespace Eh
open PySem PySem.Spec PyProof.Rows L2
theorem starts_en (w p : Wd) : Txt.startswith (en w) (en p) = (w.take p.length == p) := by
  have h1 : (en w).length = w.length := en_len w
  have h2 : (en p).length = p.length := en_len p
  unfold Txt.startswith
  have e0 : Builtin.Str.subAt (en w) (en p) 0 = (cd (w.take p.length) == cd p) := by
    unfold Builtin.Str.subAt
    rw [h2, Nat.zero_add]
    have e : ((en w).cps.extract 0 p.length) = (cd (w.take p.length)).toArray := by
      apply Array.ext'
      simp [en, SX.S, cd, List.map_take]
    rw [e]
    have e2 : (en p).cps = (cd p).toArray := rfl
    rw [e2, Bool.eq_iff_iff]
    simp
  rw [e0, h1, h2, Nat.zero_add]
  by_cases h : w.take p.length = p
  · have hl : p.length ≤ w.length := by
      have := congrArg List.length h
      rw [List.length_take] at this; omega
    rw [h]; simp [hl]
  · have hn : ¬ cd (w.take p.length) = cd p := fun z => h (cd_inj z)
    rw [beq_eq_false_iff_ne.mpr h, beq_eq_false_iff_ne.mpr hn, Bool.and_false]
section
variable {P : Program} {w : World} {K : PySem.W.Frag} {mg : Str → Option Value} {base : Heap}
/-! ### can_pull_in -/
def spCan : Sp := fun vs H Q _ => ∃ x : Wd, vs = [.str (en x)] ∧ Q (.bl (canPull x)) H
theorem sc21 : FnScope ["word"] ["word"] (C8.fnScope (top 21)) := C8.fnScope_by (by decide +kernel)
theorem ok_can (D : Dd K mg "can_pull_in" (top 21) ["word"]) (T : Tx mg) : Cl P w K mg base 1 "can_pull_in" spCan := by
  refine D.cal sc21 (fun vs H Q E ⟨x, e, _⟩ => by rw [e]; rfl) fun f cdv A outer s H vs Q E hr h => ?_
  obtain ⟨x, rfl, q⟩ := h
  refine ⟨_, pss_one (ps_ret (pe_m1 PySem.F.slot_str_startswith PySem.F.type_str_startswith mt_startswith (pv 0) (C8.pe_gc rfl T.dl))), ?_⟩
  refine ⟨_, rfl, ⟨_, rfl⟩, _, _, rfl, rfl, ?_⟩
  rw [← en110, starts_en]
  exact q
/-! ### pulled_in, unpulled_in -/
def spPull : Sp := fun vs H Q _ => ∃ x : Wd, vs = [.str (en x)] ∧ x.length ≤ 1000 ∧ Q (.str (en (pull x))) H
def spUnpull : Sp := fun vs H Q _ => ∃ x : Wd, vs = [.str (en x)] ∧ x.length ≤ 1000 ∧ Q (.str (en (unpull x))) H
theorem sc22 : FnScope ["word"] ["word"] (C8.fnScope (top 22)) := C8.fnScope_by (by decide +kernel)
theorem sc23 : FnScope ["word"] ["word"] (C8.fnScope (top 23)) := C8.fnScope_by (by decide +kernel)
theorem ok_pull (D : Dd K mg "pulled_in" (top 22) ["word"]) (T : Tx mg) : Cl P w K mg base 1 "pulled_in" spPull := by
  refine D.cal sc22 (fun vs H Q E ⟨x, e, _⟩ => by rw [e]; rfl) fun f cdv A outer s H vs Q E hr h => ?_
  obtain ⟨x, rfl, hl, q⟩ := h
  refine ⟨_, pss_one (ps_ret (pe_op op_add_str (C8.pe_gc rfl T.nl) (pe_slice C8.sl_txt (pv 0) (po_some (pe_callB call_len_str (by rfl) T.len PySem.boot_len (pa_cons (C8.pe_gc rfl T.dl) pa_nil))) po_none))), ?_⟩
  have hs : (en x).length ≤ sizeLine := by rw [en_len]; exact szle (by omega)
  refine ⟨_, rfl, _, rfl, by decide, _, rfl, _, rfl, hs, ?_⟩
  have e : Txt.slice (en x) (some ((("110" : Str).length : Nat) : Int)) none = en (x.drop 3) := slice_from 3
  rw [e]
  refine ⟨_, _, rfl, rfl, ?_, ?_⟩
  · rw [← en101, en_len, en_len, List.length_drop]; exact szle (by simp; omega)
  · rw [← en101, en_app]; exact q
theorem ok_unpull (D : Dd K mg "unpulled_in" (top 23) ["word"]) (T : Tx mg) : Cl P w K mg base 1 "unpulled_in" spUnpull := by
  refine D.cal sc23 (fun vs H Q E ⟨x, e, _⟩ => by rw [e]; rfl) fun f cdv A outer s H vs Q E hr h => ?_
  obtain ⟨x, rfl, hl, q⟩ := h
  refine ⟨_, pss_one (ps_ret (pe_op op_add_str (C8.pe_gc rfl T.dl) (pe_slice C8.sl_txt (pv 0) (po_some (pe_callB call_len_str (by rfl) T.len PySem.boot_len (pa_cons (C8.pe_gc rfl T.nl) pa_nil))) po_none))), ?_⟩
  have hs : (en x).length ≤ sizeLine := by rw [en_len]; exact szle (by omega)
  refine ⟨_, rfl, _, rfl, by decide, _, rfl, _, rfl, hs, ?_⟩
  have e : Txt.slice (en x) (some ((("101" : Str).length : Nat) : Int)) none = en (x.drop 3) := slice_from 3
  rw [e]
  refine ⟨_, _, rfl, rfl, ?_, ?_⟩
  · rw [← en110, en_len, en_len, List.length_drop]; exact szle (by simp; omega)
  · rw [← en110, en_app]; exact q
/-! ### first_pair_in -/
theorem ht_one (x : Wd) (i : Nat) (b : Bool) (h : x[i]? = some b) : ht (x.take (i + 1)) = if b then ht (x.take i) + 1 else ht (x.take i) - 1 := by
  rw [List.take_add_one, h, ht_app]
  cases b <;> simp [ht] <;> omega
theorem dec_sign (b : Bool) : decide (V.str ⟨#[sg b]⟩ = V.str "1") = b := by cases b <;> decide +kernel
def spFirst : Sp := fun vs H Q _ => ∃ u v : Wd, Dyck u ∧ vs = [.str (en (true :: (u ++ false :: v)))] ∧ u.length + v.length ≤ 1000 ∧ ∀ H' p, Same H H' → H p = none → H' p = some (.tup [.str (en u), .str (en v)]) → Q (.ref p) H'
theorem sc15 : FnScope ["word", "deep", "at", "sign"] ["word"] (C8.fnScope (top 15)) := C8.fnScope_by (by decide +kernel)
theorem ok_first (D : Dd K mg "first_pair_in" (top 15) ["word"]) (T : Tx mg) : Cl P w K mg base 1 "first_pair_in" spFirst := by
  refine D.cal sc15 (fun vs H Q E ⟨u, v, _, e, _⟩ => by rw [e]; rfl) fun f cdv A outer s H vs Q E hr h => ?_
  obtain ⟨u, v, hu, rfl, hl, q⟩ := h
  refine ⟨_, pss_cons (ps_set (i := 1) sc15.nd rfl (Or.inl rfl) pe_int)
    (pss_cons (ps_for PassesOwn.never rfl (pi_enumS rfl T.enum (pa_cons (pv 0) pa_nil)) (pg_tup rfl (pgs_cons (pg_name (i := 2) sc15.nd rfl (Or.inl rfl)) (pgs_cons (pg_name (i := 3) sc15.nd rfl (Or.inl rfl)) pgs_nil)))
      (pss_cons (ps_set (i := 1) sc15.nd rfl (Or.inl rfl) (pe_ifExp (pt_cmpR op_eq (pv 3) pe_str (nomark _)) (pe_op op_add (pv 1) pe_int) (pe_op op_sub (pv 1) pe_int)))
      (pss_one (ps_if (pt_cmpR op_eq (pv 1) pe_int (nomark _)) (pss_one (ps_ret (pe_tup (pa_cons (pe_slice C8.sl_txt (pv 0) (po_some pe_int) (po_some (pv 2))) (pa_cons (pe_slice C8.sl_txt (pv 0) (po_some (pe_op op_add (pv 2) pe_int)) po_none) pa_nil))))) pss_nil))))
    (pss_one (ps_ret (pe_tup (pa_cons (pv 0) (pa_cons pe_str pa_nil)))))), ?_⟩
  have hlen : (true :: (u ++ false :: v)).length = u.length + v.length + 2 := by simp; omega
  generalize hw : true :: (u ++ false :: v) = x at hlen ⊢
  have hs : (en x).length ≤ sizeLine := by rw [en_len]; exact szle (by omega)
  refine ⟨_, rfl, _, rfl, for_it walk_enumS (fun i σ H1 => Same H H1 ∧ i ≤ u.length + 1 ∧ ∃ a b, σ = [some (.str (en x)), some (.int (ht (x.take i))), a, b]) ⟨Same.refl H, Nat.zero_le _, none, none, rfl⟩ (fun _ _ _ _ _ => trivial) ?_ ?_⟩
  · rintro i y σ H1 H2 hi ⟨sm, hk, a, b, rfl⟩ ⟨T0, y1, y2, rfl, n0, rfl, e1, e2⟩
    obtain rfl : V.int (i : Nat) = y1 := Option.some.inj e1
    rw [en_size] at hi
    have e2 : ((en x).cps[i]?).map (fun c => V.str ⟨#[c]⟩) = some y2 := e2
    rw [en_at, List.getElem?_eq_getElem hi] at e2
    obtain rfl : V.str ⟨#[sg x[i]]⟩ = y2 := Option.some.inj e2
    have hx : x[i]? = some x[i] := List.getElem?_eq_getElem hi
    generalize x[i] = c at hx
    have sm2 : Same H (upd H1 T0 (.tup [.int (i : Nat), .str ⟨#[sg c]⟩])) := fun p o e => (upd_ne (ne_of_none (sm p o e) n0)).trans (sm p o e)
    refine ⟨T0, _, rfl, SqT.of upd_same, rfl, _, _, rfl, _, _, rfl, rfl, ?_⟩
    have hd := ht_one x i c hx
    -- the height behind this sign
    have deep : ∀ {Q : V → Hp → Prop} {H2 : Hp}, Q (.int (ht (x.take (i + 1)))) H2 → tIf (tTest (tOp rEq (tVar 3) (tC (.str "1")))) (tOp (rI0 fun i j => .int (i + j)) (tVar 1) (tC (.int 1))) (tOp (rI0 fun i j => .int (i - j)) (tVar 1) (tC (.int 1)))
        [some (.str (en x)), some (.int (ht (x.take i))), some (.int (i : Nat)), some (.str ⟨#[sg c]⟩)] H2 Q := fun {Q H2} q => by
      refine ⟨_, rfl, rfl, _, rfl, ?_⟩
      rw [dec_sign]
      cases c
      · exact iteF ⟨_, rfl, _, _, rfl, rfl, by rw [hd] at q; exact q⟩
      · exact iteT ⟨_, rfl, _, _, rfl, rfl, by rw [hd] at q; exact q⟩
    refine deep ⟨_, rfl, rfl, _, rfl, ?_⟩
    rw [dec_int]
    by_cases hend : i = u.length + 1
    · have h0 : ht (x.take (i + 1)) = 0 := by rw [hend, ← hw]; exact ht_ground hu
      rw [h0]
      refine iteT ?_
      refine ⟨_, rfl, _, rfl, _, rfl, _, rfl, _, rfl, hs, ?_⟩
      refine ⟨_, rfl, _, rfl, _, _, rfl, rfl, _, rfl, _, rfl, hs, (by decide : 2 ≤ sizeLine), fun p np => ?_⟩
      have s1 : Txt.slice (en x) (some (1 : Int)) (some ((i : Nat) : Int)) = en u := by
        rw [show (1 : Int) = ((1 : Nat) : Int) from rfl, slice_mid (by omega) (by omega), ← hw, hend]
        simp
      have s2 : Txt.slice (en x) (some (((i : Nat) : Int) + 1)) none = en v := by
        rw [show ((i : Nat) : Int) + 1 = ((i + 1 : Nat) : Int) by omega, slice_from, ← hw, hend]
        simp
      rw [s1, s2]
      have np' : H p = none := sm2.free np
      refine q _ p (fun b o e => (upd_ne (ne_of_none (sm2 b o e) np)).trans (sm2 b o e)) np' upd_same
    · have h1 : 1 ≤ ht (x.take (i + 1)) := by rw [← hw]; exact ht_first hu (by omega)
      have hf : (ht (x.take (i + 1)) == 0) = false := by rw [beq_eq_false_iff_ne]; omega
      rw [hf]
      refine iteF ?_
      exact ⟨sm2, by omega, _, _, rfl⟩
  · rintro σ H1 ⟨_, hi, _⟩
    rw [en_size] at hi
    omega
/-! ### turned_in -/
def spTurned : Sp := fun vs H Q _ => ∃ x : Wd, Dyck x ∧ x ≠ [] ∧ vs = [.str (en x)] ∧ x.length ≤ 1000 ∧ ∀ H', Same H H' → Q (.str (en (turn x))) H'
theorem sc16 : FnScope ["word", "ahead", "behind"] ["word"] (C8.fnScope (top 16)) := C8.fnScope_by (by decide +kernel)
theorem ok_turned (D : Dd K mg "turned_in" (top 16) ["word"]) (c : Cl P w K mg base 1 "first_pair_in" spFirst) : Cl P w K mg base 2 "turned_in" spTurned := by
  refine D.cal sc16 (fun vs H Q E ⟨x, _, _, e, _⟩ => by rw [e]; rfl) fun f cdv A outer s H vs Q E hr h => ?_
  obtain ⟨x, hx, hne, rfl, hl, q⟩ := h
  obtain ⟨u, v, hu, hv, rfl⟩ := hx.parts hne
  refine ⟨_, pss_cons (ps_asg (C8.pe_c c hr (by decide) rfl (pa_cons (pv 0) pa_nil)) (pg_tup rfl (pgs_cons (pg_name (i := 1) sc16.nd rfl (Or.inl rfl)) (pgs_cons (pg_name (i := 2) sc16.nd rfl (Or.inl rfl)) pgs_nil))))
    (pss_one (ps_ret (pe_joined (.cons (pe_fmt (pv 1)) (.cons pe_str (.cons (pe_fmt (pv 2)) (.cons pe_str .nil))))))), ?_⟩
  have hlen : u.length + v.length ≤ 998 := by simp at hl; omega
  refine ⟨_, rfl, u, v, hu, rfl, by omega, fun H1 p sm np hp => ⟨p, _, rfl, SqT.of hp, rfl, _, _, rfl, _, _, rfl, rfl, ?_⟩⟩
  have l1 : ∀ {y : Wd}, y.length ≤ 2000 → (en y).length ≤ sizeLine := fun {y} h => by rw [en_len]; exact szle (by omega)
  refine ⟨_, rfl, .inl ⟨_, rfl, l1 (by omega), _, rfl, ?_, _, rfl, ?_, _, rfl, .inl ⟨_, rfl, l1 (by omega), _, rfl, ?_, _, rfl, ?_, ?_⟩⟩⟩
  all_goals simp only [← en1, ← en0, ← en_nil, en_app]
  · exact l1 (by simp; omega)
  · exact l1 (by simp; omega)
  · exact l1 (by simp; omega)
  · exact l1 (by simp; omega)
  · have e : ([] ++ u ++ [true] ++ v ++ [false] : Wd) = turn (true :: (u ++ false :: v)) := by rw [turn_cons hu]; simp
    rw [e]
    exact q H1 sm
/-! ### turns_in -/
theorem turn_per {x : Wd} (hx : Dyck x) (hne : x ≠ []) : ∃ p, 0 < p ∧ p ≤ x.length ∧ it turn p x = x ∧ ∀ q, 0 < q → q < p → it turn q x ≠ x := by
  obtain ⟨k, hk, ⟨k0, e⟩, hm⟩ := Eh.least (P := fun n => 0 < n ∧ it turn n x = x) x.length ⟨List.length_pos_iff.mpr hne, turn_full hx⟩
  exact ⟨k, k0, hk, e, fun q q0 hq z => hm q hq ⟨q0, z⟩⟩
abbrev txs (l : List Wd) : List V := l.map fun y => V.str (en y)
def spTurns : Sp := fun vs H Q _ => ∃ x : Wd, Dyck x ∧ x ≠ [] ∧ vs = [.str (en x)] ∧ x.length ≤ 1000 ∧ ∀ (n : Nat) (p : Addr) (H' : Hp), 0 < n → n ≤ x.length → it turn n x = x → (∀ q, 0 < q → q < n → it turn q x ≠ x) →
  Same H H' → H p = none → H' p = some (.lst (txs (orb turn n x))) → Q (.ref p) H'
theorem sc17 : FnScope ["word", "found", "later"] ["word"] (C8.fnScope (top 17)) := C8.fnScope_by (by decide +kernel)
theorem ok_turns (D : Dd K mg "turns_in" (top 17) ["word"]) (c : Cl P w K mg base 2 "turned_in" spTurned) : Cl P w K mg base 3 "turns_in" spTurns := by
  refine D.cal sc17 (fun vs H Q E ⟨x, _, _, e, _⟩ => by rw [e]; rfl) fun f cdv A outer s H vs Q E hr h => ?_
  obtain ⟨x, hx, hne, rfl, hl, q⟩ := h
  refine ⟨_, pss_cons (ps_par (i := 1) (j := 2) rfl sc17.nd rfl rfl (by decide) rfl rfl (pa_cons (pe_lst (pa_cons (pv 0) pa_nil)) (pa_cons (C8.pe_c c hr (by decide) rfl (pa_cons (pv 0) pa_nil)) pa_nil)) (by rfl))
    (pss_cons (ps_while PassesOwn.never (pt_cmpR op_ne (pv 2) (pv 0) (nomark _))
      (pss_cons (ps_expr (pe_bm PySem.F.plainAttrs_list PySem.F.slot_list_append PySem.F.type_list_append mt_append (pv 1) (pa_cons (pv 2) pa_nil)))
      (pss_one (ps_set (i := 2) sc17.nd rfl (Or.inl rfl) (C8.pe_c c hr (by decide) rfl (pa_cons (pv 2) pa_nil))))))
    (pss_one (ps_ret (pv 1)))), ?_⟩
  obtain ⟨n, n0, hn, hper, hmin⟩ := turn_per hx hne
  refine ⟨_, rfl, (by decide : 1 ≤ sizeLine), fun p np => ⟨_, rfl, x, hx, hne, rfl, hl, fun H1 sm1 => ⟨_, _, rfl, ?_⟩⟩⟩
  have s1 : Same H H1 := fun b o e => sm1 b o ((upd_ne (ne_of_none e np)).trans e)
  have p1 : H1 p = some (.lst (txs (orb turn 1 x))) := sm1 p _ upd_same
  refine ⟨fun m σ H2 => ∃ j, m = n - j ∧ 0 < j ∧ j ≤ n ∧ σ = [some (.str (en x)), some (.ref p), some (.str (en (it turn j x)))] ∧ Same H H2 ∧ H2 p = some (.lst (txs (orb turn j x))), ⟨n - 1, 1, rfl, Nat.one_pos, n0, rfl, s1, p1⟩, ?_⟩
  rintro m σ H2 ⟨j, rfl, j0, hj, rfl, s2, p2⟩
  refine ⟨_, rfl, _, rfl, rfl, _, rfl, ?_⟩
  rw [dec_en]
  by_cases hend : j = n
  · subst hend
    rw [hper, decide_eq_true rfl]
    exact iteF ⟨_, rfl, q j p H2 n0 hn hper hmin s2 np p2⟩
  · have hlt : j < n := by omega
    rw [decide_eq_false (hmin j j0 hlt)]
    refine iteT ⟨fun σ' H3 => ∃ m', m' < n - j ∧ ∃ j', m' = n - j' ∧ 0 < j' ∧ j' ≤ n ∧ σ' = [some (.str (en x)), some (.ref p), some (.str (en (it turn j' x)))] ∧ Same H H3 ∧ H3 p = some (.lst (txs (orb turn j' x))), fun σ' H3 h => h, ?_⟩
    have dj := hx.itTurn j
    have nj : it turn j x ≠ [] := fun z => hne (List.eq_nil_of_length_eq_zero (by rw [← itTurn_len hx j, z]; rfl))
    refine ⟨_, rfl, .inl ⟨rfl, _, SqL.of p2⟩, _, rfl, p, _, _, rfl, rfl, p2, szlt (by simp [orb]; omega), _, rfl, _, dj, nj, rfl, by rw [itTurn_len hx]; exact hl, fun H3 s3 => ?_⟩
    have e1 : txs (orb turn j x) ++ [V.str (en (it turn j x))] = txs (orb turn (j + 1) x) := by rw [orb_succ]; simp [txs]
    rw [e1] at s3
    refine ⟨n - (j + 1), by omega, j + 1, rfl, by omega, hlt, by rw [it_succ]; rfl, fun b o e => s3 b o ((upd_ne (ne_of_none e np)).trans (s2 b o e)), s3 p _ upd_same⟩
end
end Eh

set_option maxHeartbeats 4000000
/-! Walks: the lambda of a book, swapped words, the word behind a word. -/
namespace Eh
open PySem PySem.Spec PyProof.Rows L2
/-! ### the lambda -/
def lamP : Stmt → Arguments
  | .FunctionDef (body := [.Return (some (.Lambda a _ _ _)) _]) .. => a
  | _ => ⟨[], [], none, [], [], none, []⟩
def lamB : Stmt → Expr
  | .FunctionDef (body := [.Return (some (.Lambda _ b _ _)) _]) .. => b
  | _ => .Constant .none 0 ⟨0, 0, 0, 0⟩
def lamS : Stmt → Scope
  | .FunctionDef (body := [.Return (some (.Lambda _ _ s _)) _]) .. => s
  | _ => ⟨.function, [], false, false, []⟩
/-- the lambda of sewn_by -/
def LmS : Lm := ⟨("sewn_by" ++ ".<locals>.") ++ "<lambda>", "word", "book", lamP (top 54), lamB (top 54), lamS (top 54)⟩
/-- a book at b: its pairs, its words in order -/
structure BookAt (K : PySem.W.Frag) (C : Addr) (H : Hp) (b : Addr) (n : Nat) (B : List Wd) : Prop where
  ex : ∃ (dx tw dd : Addr) (fs : List (Str × V)), H b = some (.ins C dx fs) ∧ fs.lookup ("pairs" : Str) = some (.int n) ∧ fs.lookup ("words" : Str) = some (.ref tw) ∧ fs.lookup ("sewn" : Str) = some (.ref dd) ∧ H tw = some (.tup (txs B)) ∧
    H dd = some (.dK (B.map fun x => ((Sum.inr (en x) : Key), V.bl true)))
  cl : Cls K C
  nP : NoAttr K C "pairs"
  nW : NoAttr K C "words"
  nS : NoAttr K C "sewn"
theorem BookAt.ext {K : PySem.W.Frag} {C : Addr} {H H' : Hp} {b : Addr} {n : Nat} {B : List Wd} (h : BookAt K C H b n B) (e : LamX.ExtN H H') : BookAt K C H' b n B := by
  obtain ⟨dx, tw, dd, fs, h1, h2, h3, h4, h5, h6⟩ := h.ex
  exact ⟨⟨dx, tw, dd, fs, e _ _ h1 (fun _ z => nomatch z), h2, h3, h4, e _ _ h5 (fun _ z => nomatch z), e _ _ h6 (fun _ z => nomatch z)⟩, h.cl, h.nP, h.nW, h.nS⟩
/-- f is the function that tells of a word whether a book has it -/
structure Sewn (K : PySem.W.Frag) (C : Addr) (H : Hp) (f : Addr) (B : List Wd) : Prop where
  ex : ∃ (b : Addr) (n : Nat), Held1 LmS H f (.ref b) ∧ BookAt K C H b n B
theorem Sewn.ext {K : PySem.W.Frag} {C : Addr} {H H' : Hp} {f : Addr} {B : List Wd} (h : Sewn K C H f B) (e : LamX.ExtN H H') : Sewn K C H' f B := by
  obtain ⟨b, n, h1, h2⟩ := h.ex
  exact ⟨b, n, h1.ext e, h2.ext e⟩
theorem extN_of {H H' : Hp} (e : Same H H') : LamX.ExtN H H' := fun b o h _ => e b o h
theorem val_true (B : List Wd) (z : Wd) : (valV (B.map fun x => ((Sum.inr (en x) : Key), V.bl true)) (Sum.inr (en z))).isSome = decide (z ∈ B) := by
  induction B with
  | nil => rfl
  | cons x B ih =>
    unfold valV at ih ⊢
    rw [List.map_cons]
    by_cases h : x = z
    · subst h
      rw [List.find?_cons_of_pos (by simp)]
      simp
    · rw [List.find?_cons_of_neg (by simpa using fun q : en x = en z => h (en_inj q)), ih]
      have : decide (z ∈ x :: B) = decide (z ∈ B) := by simp [List.mem_cons, Ne.symm h]
      rw [this]
/-- what the lambda's text asks -/
def tbS (K : PySem.W.Frag) : TE := tDIn (tVar 0) (tFld K (tVar 1) "sewn")
theorem lam_reads {K : PySem.W.Frag} {C : Addr} {H : Hp} {b c : Addr} {n : Nat} {B : List Wd} {z : Wd} {Q : VK} (bk : BookAt K C H b n B) (hc : H c = some (CelO c (.ref b))) (q : Q (.bl (decide (z ∈ B))) (del H c)) :
    tbS K [some (.str (en z)), some (.ref b)] (del H c) Q := by
  obtain ⟨dx, tw, dd, fs, h1, h2, h3, h4, h5, h6⟩ := bk.ex
  have n1 : b ≠ c := ne_of h1 hc (fun z => nomatch z)
  have n2 : dd ≠ c := ne_of h6 hc (fun z => nomatch z)
  refine ⟨_, rfl, _, rfl, b, C, dx, fs, _, rfl, by rw [del_ne n1]; exact h1, bk.cl, bk.nS, h4, dd, _, rfl, DGet.k (k := Sum.inr (en z)) (by rw [del_ne n2]; exact h6), ?_⟩
  rw [val_true]
  exact q
section
variable {P : Program} {w : World} {K : PySem.W.Frag} {mg : Str → Option Value} {base : Heap} {C : Addr}
theorem lm_sewn : LmOk P w K mg base 1 LmS (tbS K) := by
  refine lm_ok (NdefX.nscope_by (by decide +kernel)) (fun cl pm cv ctv u => by rfl) fun A outer s H f c d hr => ?_
  exact pe_cmp (pc_din (hu_of hr) (pv 0) (pe_fld (pv 1) rfl)) rfl
/-- a call of what tells whether a book has a word -/
theorem call_sewn {i : Nat} {σ : L2.St} {H : Hp} {f : Addr} {B : List Wd} {z : Wd} {t : TA} {Q : VK} (hs : σ[i]? = some (some (.ref f))) (S : Sewn K C H f B) (ht : ∀ R : List V → Hp → Prop, R [.str (en z)] H → t σ H R) (q : Q (.bl (decide (z ∈ B))) H) :
    tCallLm LmS (tbS K) i t σ H Q := by
  obtain ⟨b, n, h1, h2⟩ := S.ex
  exact ⟨f, .ref b, hs, h1, ht _ ⟨_, rfl, h1, fun c hc => lam_reads h2 hc ⟨rfl, q⟩⟩⟩
/-! ### sewn_under, swapped_in, word_behind_in -/
def spUnder (K : PySem.W.Frag) (C : Addr) : Sp := fun vs H Q _ => ∃ (x : Wd) (f : Addr) (B : List Wd), vs = [.str (en x), .ref f] ∧ Sewn K C H f B ∧ x.length ≤ 1000 ∧ Q (if near x = true ∧ unpull x ∈ B then .str (en (unpull x)) else .non) H
theorem sc26 : FnScope ["word", "is_sewn", "first"] ["word", "is_sewn"] (C8.fnScope (top 26)) := C8.fnScope_by (by decide +kernel)
theorem ok_under (D : Dd K mg "sewn_under" (top 26) ["word", "is_sewn"]) (T : Tx mg) (c : Cl P w K mg base 1 "unpulled_in" spUnpull) : Cl P w K mg base 2 "sewn_under" (spUnder K C) := by
  refine D.cal sc26 (fun vs H Q E ⟨x, f, B, e, _⟩ => by rw [e]; rfl) fun f0 cdv A outer s H vs Q E hr h => ?_
  obtain ⟨x, f, B, rfl, S, hl, q⟩ := h
  refine ⟨_, pss_cons (ps_if (pt_cmpR op_ne (pe_slice C8.sl_txt (pv 0) po_none (po_some (pe_callB call_len_str (by rfl) T.len PySem.boot_len (pa_cons (C8.pe_gc rfl T.pu) pa_nil)))) (C8.pe_gc rfl T.pu) (nomark _)) (pss_one (ps_ret pe_non)) pss_nil)
    (pss_cons (ps_set (i := 2) sc26.nd rfl (Or.inl rfl) (C8.pe_c c hr (by decide) rfl (pa_cons (pv 0) pa_nil)))
    (pss_one (ps_ret (pe_ifExp (pt_val (pe_callLm (i := 1) lm_sewn hr (by decide) rfl (Or.inl rfl) (pa_cons (pv 2) pa_nil))) (pv 2) pe_non)))), ?_⟩
  have hs : (en x).length ≤ sizeLine := by rw [en_len]; exact szle (by omega)
  refine ⟨_, rfl, _, rfl, by decide, _, rfl, _, rfl, hs, rfl, _, rfl, ?_⟩
  have e : Txt.slice (en x) none (some ((("101" : Str).length : Nat) : Int)) = en (x.take 3) := slice_to 3
  have en_ : decide (V.str (en (x.take 3)) = V.str "101") = near x := by
    rw [← en101, dec_en]
    unfold near
    rw [Bool.eq_iff_iff]; simp
  rw [e, en_]
  cases hn : near x
  · refine iteT ?_
    rw [hn, if_neg (by simp)] at q
    exact q
  · refine iteF ⟨_, rfl, x, rfl, hl, ?_⟩
    rw [hn] at q
    refine call_sewn (z := unpull x) rfl S (fun R h => ⟨_, rfl, h⟩) ⟨_, rfl, ?_⟩
    by_cases hm : unpull x ∈ B
    · rw [decide_eq_true hm]
      refine iteT ⟨_, rfl, ?_⟩
      rw [if_pos ⟨rfl, hm⟩] at q
      exact q
    · rw [decide_eq_false hm]
      refine iteF ?_
      rw [if_neg (fun z => hm z.2)] at q
      exact q
def spSwap (K : PySem.W.Frag) (C : Addr) : Sp := fun vs H Q _ => ∃ (x : Wd) (f : Addr) (B : List Wd), vs = [.str (en x), .ref f] ∧ Sewn K C H f B ∧ x.length ≤ 1000 ∧ Q (.str (en (swap B x))) H
theorem sc28 : FnScope ["word", "is_sewn", "under"] ["word", "is_sewn"] (C8.fnScope (top 28)) := C8.fnScope_by (by decide +kernel)
theorem ok_swap (D : Dd K mg "swapped_in" (top 28) ["word", "is_sewn"]) (c1 : Cl P w K mg base 1 "pulled_in" spPull) (c2 : Cl P w K mg base 2 "sewn_under" (spUnder K C)) : Cl P w K mg base 3 "swapped_in" (spSwap K C) := by
  refine D.cal sc28 (fun vs H Q E ⟨x, f, B, e, _⟩ => by rw [e]; rfl) fun f0 cdv A outer s H vs Q E hr h => ?_
  obtain ⟨x, f, B, rfl, S, hl, q⟩ := h
  refine ⟨_, pss_cons (ps_if (pt_val (pe_callLm (i := 1) lm_sewn hr (by decide) rfl (Or.inl rfl) (pa_cons (pv 0) pa_nil))) (pss_one (ps_ret (C8.pe_c c1 hr (by decide) rfl (pa_cons (pv 0) pa_nil)))) pss_nil)
    (pss_cons (ps_set (i := 2) sc28.nd rfl (Or.inl rfl) (C8.pe_c c2 hr (by decide) rfl (pa_cons (pv 0) (pa_cons (pv 1) pa_nil))))
    (pss_one (ps_ret (pe_ifExp (pt_cmp (pc_isN (pv 2))) (pv 0) (pv 2))))), ?_⟩
  refine call_sewn (z := x) rfl S (fun R h => ⟨_, rfl, h⟩) ⟨_, rfl, ?_⟩
  by_cases hm : x ∈ B
  · rw [decide_eq_true hm]
    refine iteT ⟨_, rfl, x, rfl, hl, ?_⟩
    rw [swap_mem hm] at q
    exact q
  · rw [decide_eq_false hm]
    refine iteF ⟨_, rfl, _, rfl, x, f, B, rfl, S, hl, ?_⟩
    by_cases hu : near x = true ∧ unpull x ∈ B
    · rw [if_pos hu]
      have e : swap B x = unpull x := by unfold swap; rw [if_neg hm, if_pos hu]
      rw [e] at q
      exact ⟨_, rfl, _, rfl, iteF ⟨_, rfl, q⟩⟩
    · rw [if_neg hu]
      have e : swap B x = x := by unfold swap; rw [if_neg hm, if_neg hu]
      rw [e] at q
      exact ⟨_, rfl, _, rfl, iteT ⟨_, rfl, q⟩⟩
def spBehind (K : PySem.W.Frag) (C : Addr) : Sp := fun vs H Q _ => ∃ (x : Wd) (f : Addr) (B : List Wd), vs = [.str (en x), .ref f] ∧ Sewn K C H f B ∧ Bk B ∧ Dyck x ∧ x ≠ [] ∧ x.length ≤ 1000 ∧ ∀ H', Same H H' → Q (.str (en (pi B x))) H'
theorem sc29 : FnScope ["word", "is_sewn"] ["word", "is_sewn"] (C8.fnScope (top 29)) := C8.fnScope_by (by decide +kernel)
theorem ok_behind (D : Dd K mg "word_behind_in" (top 29) ["word", "is_sewn"]) (c1 : Cl P w K mg base 2 "turned_in" spTurned) (c2 : Cl P w K mg base 3 "swapped_in" (spSwap K C)) : Cl P w K mg base 4 "word_behind_in" (spBehind K C) := by
  refine D.cal sc29 (fun vs H Q E ⟨x, f, B, e, _⟩ => by rw [e]; rfl) fun f0 cdv A outer s H vs Q E hr h => ?_
  obtain ⟨x, f, B, rfl, S, hB, hx, hne, hl, q⟩ := h
  refine ⟨_, pss_one (ps_ret (C8.pe_c c1 hr (by decide) rfl (pa_cons (C8.pe_c c2 hr (by decide) rfl (pa_cons (pv 0) (pa_cons (pv 1) pa_nil))) pa_nil))), ?_⟩
  refine ⟨_, rfl, _, rfl, x, f, B, rfl, S, hl, _, hx.swap hB, ?_, rfl, by rw [swap_len hB]; exact hl, fun H1 sm => ?_⟩
  · intro z
    exact hne (List.eq_nil_of_length_eq_zero (by rw [← swap_len hB x, z]; rfl))
  · rw [← pi_dyck hx]
    exact q H1 sm
end
end Eh

set_option maxHeartbeats 4000000
/-! Walks: sewn_by, round_of. -/
namespace Eh
open PySem PySem.Spec PyProof.Rows L2
/-- a def whose code object stands at d -/
structure DdT (K : PySem.W.Frag) (mg : Str → Option Value) (x : Str) (st : Stmt) (ps : List Str) (d : Addr) : Prop where
  ex : ∃ (f : Addr) (oc : Value) (od : Option Addr) (dV kV doc pm : Value) (an : Option Addr) (ct : Value) (osl : Array (Option Value)),
    K.lookup f = some ⟨oc, od, .func (PySem.W.fnOf x x (C8.fnArgs st) (C8.fnBody st) (C8.fnScope st) dV kV doc pm an (.ref d) ct), osl⟩ ∧ PySem.W.codeIn K (.ref d) x = true ∧ mg x = some (.ref f) ∧ PySem.W.keepIn K (.ref f) = true ∧
      Binds K (PySem.W.fnOf x x (C8.fnArgs st) (C8.fnBody st) (C8.fnScope st) dV kV doc pm an (.ref d) ct) ps []
def retP : Stmt → Pos × Pos
  | .FunctionDef (body := [.Return (some (.Lambda _ _ _ p)) q]) .. => (p, q)
  | _ => (⟨0, 0, 0, 0⟩, ⟨0, 0, 0, 0⟩)
section
variable {P : Program} {w : World} {K : PySem.W.Frag} {mg : Str → Option Value} {base : Heap} {C : Addr}
theorem sc54 : FnScope ["book"] ["book"] (C8.fnScope (top 54)) := C8.fnScope_by (by decide +kernel)
theorem clo_book (env : Env) (c : Addr) (h : env.cells.lookup LmS.cap = some c) : closureFor LmS.scope env = pure [(LmS.cap, c)] := by
  have names : LmS.scope.names = [(("word" : Str), NameKind.local), (("book" : Str), NameKind.free)] := by decide +kernel
  have h' : env.cells.lookup ("book" : Str) = some c := h
  rw [closure_ok (fun y hy e => ?_), names]
  · show pure _ = pure _
    simp only [cloFrom]
    rw [h']
    rfl
  · rw [names] at hy
    rcases List.mem_cons.mp hy with z | z
    · rw [z] at e; cases e
    · have z := List.mem_singleton.mp z
      rw [z]; exact ⟨c, h'⟩
theorem ok_sewn_by {d Pt : Addr} (D : DdT K mg "sewn_by" (top 54) ["book"] d) (TB : LamX.TabB base mg d Pt) : Cl P w K mg base 1 "sewn_by" (spMakes LmS Pt) := by
  obtain ⟨f, oc, od, dV, kV, doc, pm, an, ct, osl, lk, cd, hm, kp, b⟩ := D.ex
  exact ⟨f, _, _, _, makes_ok (L := LmS) (lpos := (retP (top 54)).1) (rpos := (retP (top 54)).2) lk cd sc54 (by decide +kernel) (by rfl) TB rfl (fun _ => by rfl) clo_book, hm, kp, b, .nil⟩
/-! ### round_of -/
theorem pi_it_dyck {B : List Wd} (hB : Bk B) {x : Wd} (hx : Dyck x) : ∀ n, Dyck (it (pi B) n x)
  | 0 => hx
  | n + 1 => by rw [it_succ]; exact (pi_iff hB _).mpr (pi_it_dyck hB hx n)
theorem pi_it_len {B : List Wd} (hB : Bk B) (x : Wd) : ∀ n, (it (pi B) n x).length = x.length
  | 0 => rfl
  | n + 1 => by rw [it_succ, pi_len hB, pi_it_len hB x n]
def spRound (K : PySem.W.Frag) (C Pt : Addr) : Sp := fun vs H Q _ => ∃ (b : Addr) (x : Wd) (m : Nat) (B : List Wd) (n : Nat), vs = [.ref b, .str (en x)] ∧ BookAt K C H b m B ∧ Bk B ∧ Dyck x ∧ x ≠ [] ∧ x.length ≤ 1000 ∧ LamX.TabS H Pt LmS.qual ∧
  (0 < n ∧ n ≤ 100000 ∧ it (pi B) n x = x ∧ ∀ q, 0 < q → q < n → it (pi B) q x ≠ x) ∧
  ∀ (p : Addr) (H' : Hp), Xt H H' → LamX.TabS H' Pt LmS.qual → H p = none → H' p = some (.lst (txs (orb (pi B) n x))) → Q (.ref p) H'
theorem sc56 : FnScope ["book", "word", "is_sewn", "found", "later"] ["book", "word"] (C8.fnScope (top 56)) := C8.fnScope_by (by decide +kernel)
theorem ok_round {Pt : Addr} (D : Dd K mg "round_of" (top 56) ["book", "word"]) (c1 : Cl P w K mg base 1 "sewn_by" (spMakes LmS Pt)) (c2 : Cl P w K mg base 4 "word_behind_in" (spBehind K C)) : Cl P w K mg base 5 "round_of" (spRound K C Pt) := by
  refine D.cal sc56 (fun vs H Q E ⟨b, x, m, B, n, e, _⟩ => by rw [e]; rfl) fun f0 cdv A outer s H vs Q E hr h => ?_
  obtain ⟨b, x, m, B, n, rfl, bk, hB, hx, hne, hl, hT, ⟨n0, hn, hper, hmin⟩, q⟩ := h
  refine ⟨_, pss_cons (ps_par (i := 2) (j := 3) rfl sc56.nd rfl rfl (by decide) rfl rfl (pa_cons (C8.pe_c c1 hr (by decide) rfl (pa_cons (pv 0) pa_nil)) (pa_cons (pe_lst (pa_cons (pv 1) pa_nil)) pa_nil)) (by rfl))
    (pss_cons (ps_set (i := 4) sc56.nd rfl (Or.inl rfl) (C8.pe_c c2 hr (by decide) rfl (pa_cons (pv 1) (pa_cons (pv 2) pa_nil))))
    (pss_cons (ps_while PassesOwn.never (pt_cmpR op_ne (pv 4) (pv 1) (nomark _))
      (pss_cons (ps_expr (pe_bm PySem.F.plainAttrs_list PySem.F.slot_list_append PySem.F.type_list_append mt_append (pv 3) (pa_cons (pv 4) pa_nil)))
      (pss_one (ps_set (i := 4) sc56.nd rfl (Or.inl rfl) (C8.pe_c c2 hr (by decide) rfl (pa_cons (pv 4) (pa_cons (pv 2) pa_nil)))))))
    (pss_one (ps_ret (pv 3))))), ?_⟩
  refine ⟨_, rfl, _, rfl, hT, fun g H1 e1 T1 g0 hh => ⟨_, rfl, (by decide : 1 ≤ sizeLine), fun p np1 => ⟨_, _, rfl, ?_⟩⟩⟩
  have S1 : Sewn K C H1 g B := ⟨b, m, hh, bk.ext e1.keep⟩
  have s0 : Same H1 (upd H1 p (.lst [.str (en x)])) := fun a o e => (upd_ne (ne_of_none e np1)).trans e
  refine ⟨_, rfl, _, rfl, x, g, B, rfl, S1.ext (extN_of s0), hB, hx, hne, hl, fun H2 s2 => ?_⟩
  refine ⟨fun k σ H3 => ∃ j, k = n - j ∧ 0 < j ∧ j ≤ n ∧ σ = [some (.ref b), some (.str (en x)), some (.ref g), some (.ref p), some (.str (en (it (pi B) j x)))] ∧ Same H1 H3 ∧ H3 p = some (.lst (txs (orb (pi B) j x))),
    ⟨n - 1, 1, rfl, Nat.one_pos, n0, rfl, s0.trans s2, s2 p _ upd_same⟩, ?_⟩
  rintro k σ H3 ⟨j, rfl, j0, hj, rfl, s3, p3⟩
  refine ⟨_, rfl, _, rfl, rfl, _, rfl, ?_⟩
  rw [dec_en]
  by_cases hend : j = n
  · subst hend
    rw [hper, decide_eq_true rfl]
    exact iteF ⟨_, rfl, q p H3 (e1.trans (Xt.same s3)) (T1.ext s3) (e1.gone p np1) p3⟩
  · have hlt : j < n := by omega
    rw [decide_eq_false (hmin j j0 hlt)]
    refine iteT ⟨fun σ' H4 => ∃ k', k' < n - j ∧ ∃ j', k' = n - j' ∧ 0 < j' ∧ j' ≤ n ∧ σ' = [some (.ref b), some (.str (en x)), some (.ref g), some (.ref p), some (.str (en (it (pi B) j' x)))] ∧ Same H1 H4 ∧ H4 p = some (.lst (txs (orb (pi B) j' x))), fun σ' H4 h => h, ?_⟩
    have dj := pi_it_dyck hB hx j
    have lj := pi_it_len hB x j
    have nj : it (pi B) j x ≠ [] := fun z => hne (List.eq_nil_of_length_eq_zero (by rw [← lj, z]; rfl))
    have s4 : Same H1 (upd H3 p (.lst (txs (orb (pi B) j x) ++ [V.str (en (it (pi B) j x))]))) := fun a o e => (upd_ne (ne_of_none e np1)).trans (s3 a o e)
    refine ⟨_, rfl, .inl ⟨rfl, _, SqL.of p3⟩, _, rfl, p, _, _, rfl, rfl, p3, szlt (by simp [orb]; omega), _, rfl, _, rfl, _, g, B, rfl, S1.ext (extN_of s4), hB, dj, nj, by rw [lj]; exact hl, fun H5 s5 => ?_⟩
    have e1 : txs (orb (pi B) j x) ++ [V.str (en (it (pi B) j x))] = txs (orb (pi B) (j + 1) x) := by rw [orb_succ]; simp [txs]
    rw [e1] at s4 s5
    exact ⟨n - (j + 1), by omega, j + 1, rfl, by omega, hlt, by rw [it_succ]; rfl, s4.trans s5, s5 p _ upd_same⟩
end
end Eh

set_option maxHeartbeats 4000000
/-! Walks: numbers; how many trees there are, by the program and by the law. -/
namespace Eh
open PySem PySem.Spec PyProof.Rows L2
section
variable {P : Program} {w : World} {K : PySem.W.Frag} {mg : Str → Option Value} {base : Heap}
/-! ### is_integer, is_within, need_number, for whole numbers -/
def spIsInt : Sp := fun vs H Q _ => ∃ i : Int, vs = [.int i] ∧ Q (.bl true) H
theorem sc8 : FnScope ["value"] ["value"] (C8.fnScope (top 8)) := C8.fnScope_by (by decide +kernel)
theorem ok_isint (D : Dd K mg "is_integer" (top 8) ["value"]) (T : Tx mg) : Cl P w K mg base 1 "is_integer" spIsInt := by
  refine D.cal sc8 (fun vs H Q E ⟨i, e, _⟩ => by rw [e]; rfl) fun f cdv A outer s H vs Q E hr h => ?_
  obtain ⟨i, rfl, q⟩ := h
  refine ⟨_, pss_one (ps_ret (pe_and (pe_callB call_isi (by rfl) T.isi (by decide +kernel) (pa_cons (pv 0) (pa_cons (pe_bltn (v := .ty "int") (by rfl) T.int (by decide +kernel) rfl) pa_nil)))
    (pe_one (pe_not (pe_callB call_isi (by rfl) T.isi (by decide +kernel) (pa_cons (pv 0) (pa_cons (pe_bltn (v := .ty "bool") (by rfl) T.bool (by decide +kernel) rfl) pa_nil))))))), ?_⟩
  refine ⟨_, rfl, _, _, _, _, true, rfl, .ty "int", .base (TyOf.int i), kit_ty (by decide +kernel), true, rfl, iteT ?_⟩
  exact ⟨_, rfl, _, _, _, _, false, rfl, .ty "bool", .base (TyOf.int i), kit_ty (by decide +kernel), false, rfl, q⟩
def spWithin : Sp := fun vs H Q _ => ∃ i a b : Int, vs = [.int i, .int a, .int b] ∧ a ≤ i ∧ i ≤ b ∧ Q (.bl true) H
theorem sc9 : FnScope ["value", "least", "most"] ["value", "least", "most"] (C8.fnScope (top 9)) := C8.fnScope_by (by decide +kernel)
theorem ok_within (D : Dd K mg "is_within" (top 9) ["value", "least", "most"]) (c : Cl P w K mg base 1 "is_integer" spIsInt) : Cl P w K mg base 2 "is_within" spWithin := by
  refine D.cal sc9 (fun vs H Q E ⟨i, a, b, e, _⟩ => by rw [e]; rfl) fun f cdv A outer s H vs Q E hr h => ?_
  obtain ⟨i, a, b, rfl, h1, h2, q⟩ := h
  refine ⟨_, pss_cons (ps_if (pt_not (pt_val (C8.pe_c c hr (by decide) rfl (pa_cons (pv 0) pa_nil)))) (pss_one (ps_ret pe_bl)) pss_nil)
    (pss_one (ps_ret (pe_and (pe_or (pe_cmp (pc_isN (pv 1))) (pe_one (pe_cmp (pc_le (pv 1) (pv 0))))) (pe_one (pe_or (pe_cmp (pc_isN (pv 2))) (pe_one (pe_cmp (pc_le (pv 0) (pv 2))))))))), ?_⟩
  refine ⟨_, rfl, i, rfl, true, rfl, iteF ?_⟩
  refine ⟨_, rfl, false, rfl, iteF ⟨_, rfl, _, rfl, _, _, rfl, rfl, _, rfl, ?_⟩⟩
  show (if decide (a ≤ i) = true then _ else _)
  rw [decide_eq_true h1]
  refine iteT ⟨_, rfl, false, rfl, iteF ⟨_, rfl, _, rfl, _, _, rfl, rfl, ?_⟩⟩
  show Q (.bl (decide (i ≤ b))) _
  rw [decide_eq_true h2]
  exact q
def spNeed : Sp := fun vs H Q _ => ∃ (i a b : Int) (x : Str), vs = [.int i, .str x, .int a, .int b] ∧ a ≤ i ∧ i ≤ b ∧ Q .non H
theorem sc11 : FnScope ["value", "part", "least", "most"] ["value", "part", "least", "most"] (C8.fnScope (top 11)) := C8.fnScope_by (by decide +kernel)
theorem ok_need (D : Dd K mg "need_number" (top 11) ["value", "part", "least", "most"]) (c : Cl P w K mg base 2 "is_within" spWithin) : Cl P w K mg base 3 "need_number" spNeed := by
  refine D.cal sc11 (fun vs H Q E ⟨i, a, b, x, e, _⟩ => by rw [e]; rfl) fun f cdv A outer s H vs Q E hr h => ?_
  obtain ⟨i, a, b, x, rfl, h1, h2, q⟩ := h
  refine ⟨_, pss_one (ps_if (pt_not (pt_val (C8.pe_c c hr (by decide) rfl (pa_cons (pv 0) (pa_cons (pv 2) (pa_cons (pv 3) pa_nil)))))) (pss_one ps_never) pss_nil), ?_⟩
  exact ⟨_, rfl, _, rfl, _, rfl, i, a, b, rfl, h1, h2, true, rfl, iteF q⟩
/-! ### lots -/
/-- found := found * (m - t) // (t + 1), k times from 1 -/
def lotI (m : Int) : Nat → Int
  | 0 => 1
  | k + 1 => lotI m k * (m - (k : Int)) / ((k : Int) + 1)
def spLots : Sp := fun vs H Q _ => ∃ (m : Int) (k : Nat), vs = [.int m, .int (k : Int)] ∧ k ≤ 1000 ∧ -1000 ≤ m ∧ m ≤ 1000 ∧ Q (.int (lotI m k)) H
theorem sc31 : FnScope ["many", "some", "found", "turn"] ["many", "some"] (C8.fnScope (top 31)) := C8.fnScope_by (by decide +kernel)
theorem ok_lots (D : Dd K mg "lots" (top 31) ["many", "some"]) (T : Tx mg) : Cl P w K mg base 1 "lots" spLots := by
  refine D.cal sc31 (fun vs H Q E ⟨m, k, e, _⟩ => by rw [e]; rfl) fun f cdv A outer s H vs Q E hr h => ?_
  obtain ⟨m, k, rfl, hk, hm1, hm2, q⟩ := h
  refine ⟨_, pss_cons (ps_if (pt_cmpR op_lt (pv 1) pe_int (nomark _)) (pss_one ps_never) pss_nil)
    (pss_cons (ps_set (i := 2) sc31.nd rfl (Or.inl rfl) pe_int)
    (pss_cons (ps_for PassesOwn.never rfl (pi_range1 rfl T.range (pa_cons (pv 1) pa_nil)) (pg_name (i := 3) sc31.nd rfl (Or.inl rfl))
      (pss_one (ps_set (i := 2) sc31.nd rfl (Or.inl rfl) (pe_op op_fdiv (pe_op op_mul (pv 2) (pe_op op_sub (pv 0) (pv 3))) (pe_op op_add (pv 3) pe_int)))))
    (pss_one (ps_ret (pv 2))))), ?_⟩
  refine ⟨_, rfl, _, _, rfl, rfl, _, rfl, ?_⟩
  rw [decide_eq_false (by omega)]
  refine iteF ⟨_, rfl, _, rfl, by omega, by omega, for_range (fun i σ H1 => H1 = H ∧ ∃ a, σ = [some (.int m), some (.int (k : Int)), some (.int (lotI m i)), a]) ⟨rfl, none, rfl⟩ ?_ ?_⟩
  · rintro i σ H1 hi ⟨rfl, a, rfl⟩
    refine ⟨_, rfl, _, rfl, _, rfl, _, _, rfl, rfl, _, _, rfl, rfl, .inr ⟨by omega, by omega⟩, _, rfl, _, _, rfl, rfl, _, _, rfl, rfl, ⟨by omega, by omega⟩, rfl, some (.int (0 + (i : Int))), ?_⟩
    rw [Int.zero_add]
    rfl
  · rintro σ H1 ⟨rfl, a, rfl⟩
    exact ⟨_, rfl, q⟩
/-! ### ways_on, all_in -/
def allI (n : Nat) : Int := lotI ((n : Int) + n) n - lotI ((n : Int) + n) (n - 1)
def spWays : Sp := fun vs H Q _ => ∃ n : Nat, vs = [.int (n : Int), .int (n : Int)] ∧ 1 ≤ n ∧ n ≤ 100 ∧ Q (.int (allI n)) H
theorem sc32 : FnScope ["ones", "zeros"] ["ones", "zeros"] (C8.fnScope (top 32)) := C8.fnScope_by (by decide +kernel)
theorem ok_ways (D : Dd K mg "ways_on" (top 32) ["ones", "zeros"]) (c : Cl P w K mg base 1 "lots" spLots) : Cl P w K mg base 2 "ways_on" spWays := by
  refine D.cal sc32 (fun vs H Q E ⟨n, e, _⟩ => by rw [e]; rfl) fun f cdv A outer s H vs Q E hr h => ?_
  obtain ⟨n, rfl, h1, h2, q⟩ := h
  refine ⟨_, pss_one (ps_ret (pe_op op_sub (C8.pe_c c hr (by decide) rfl (pa_cons (pe_op op_add (pv 0) (pv 1)) (pa_cons (pv 0) pa_nil)))
    (C8.pe_c c hr (by decide) rfl (pa_cons (pe_op op_add (pv 0) (pv 1)) (pa_cons (pe_op op_sub (pv 0) pe_int) pa_nil))))), ?_⟩
  refine ⟨_, rfl, _, rfl, _, _, rfl, rfl, _, rfl, (n : Int) + n, n, rfl, by omega, by omega, by omega, ?_⟩
  refine ⟨_, rfl, _, rfl, _, _, rfl, rfl, _, rfl, _, _, rfl, rfl, (n : Int) + n, n - 1, ?_, by omega, by omega, by omega, ?_⟩
  · rw [show ((n - 1 : Nat) : Int) = (n : Int) - 1 by omega]; rfl
  · exact ⟨_, _, rfl, rfl, q⟩
def spAll : Sp := fun vs H Q _ => ∃ n : Nat, vs = [.int (n : Int)] ∧ 1 ≤ n ∧ n ≤ 100 ∧ Q (.int (allI n)) H
theorem sc33 : FnScope ["pairs"] ["pairs"] (C8.fnScope (top 33)) := C8.fnScope_by (by decide +kernel)
theorem ok_allin (D : Dd K mg "all_in" (top 33) ["pairs"]) (c : Cl P w K mg base 2 "ways_on" spWays) : Cl P w K mg base 3 "all_in" spAll := by
  refine D.cal sc33 (fun vs H Q E ⟨n, e, _⟩ => by rw [e]; rfl) fun f cdv A outer s H vs Q E hr h => ?_
  obtain ⟨n, rfl, h1, h2, q⟩ := h
  refine ⟨_, pss_one (ps_ret (C8.pe_c c hr (by decide) rfl (pa_cons (pv 0) (pa_cons (pv 0) pa_nil)))), ?_⟩
  exact ⟨_, rfl, _, rfl, n, rfl, h1, h2, q⟩
/-! ### has_common, how_many_apart -/
def spCommon : Sp := fun vs H Q _ => ∃ a b : Nat, vs = [.int (a : Int), .int (b : Int)] ∧ Q (.bl (decide (1 < Nat.gcd a b))) H
theorem sc35 : FnScope ["one", "other"] ["one", "other"] (C8.fnScope (top 35)) := C8.fnScope_by (by decide +kernel)
theorem ok_common (D : Dd K mg "has_common" (top 35) ["one", "other"]) : Cl P w K mg base 1 "has_common" spCommon := by
  refine D.cal sc35 (fun vs H Q E ⟨a, b, e, _⟩ => by rw [e]; rfl) fun f cdv A outer s H vs Q E hr h => ?_
  obtain ⟨a, b, rfl, q⟩ := h
  refine ⟨_, pss_cons (ps_while PassesOwn.never (pt_cmpR op_gt (pv 1) pe_int (nomark _))
      (pss_one (ps_par (i := 0) (j := 1) rfl sc35.nd rfl rfl (by decide) rfl rfl (pa_cons (pv 1) (pa_cons (pe_op op_mod (pv 0) (pv 1)) pa_nil)) (by rfl))))
    (pss_one (ps_ret (pe_cmpR op_gt (pv 0) pe_int (nomark _)))), ?_⟩
  refine ⟨fun m σ H1 => ∃ c d : Nat, m = d ∧ σ = [some (.int (c : Int)), some (.int (d : Int))] ∧ H1 = H ∧ Nat.gcd c d = Nat.gcd a b, ⟨b, a, b, rfl, rfl, rfl, rfl⟩, ?_⟩
  rintro m σ H1 ⟨c, d, rfl, rfl, rfl, hg⟩
  refine ⟨_, rfl, _, _, rfl, rfl, _, rfl, ?_⟩
  by_cases hd : m = 0
  · subst hd
    rw [decide_eq_false (by omega)]
    refine iteF ⟨_, rfl, _, _, rfl, rfl, ?_⟩
    rw [Nat.gcd_zero_right] at hg
    have e : decide ((1 : Int) < (c : Int)) = decide (1 < Nat.gcd a b) := by rw [← hg]; exact decide_eq_decide.mpr ⟨fun h => by omega, fun h => by omega⟩
    rw [← e] at q
    exact q
  · rw [decide_eq_true (by omega)]
    refine iteT ⟨fun σ' H' => ∃ m', m' < m ∧ ∃ c d : Nat, m' = d ∧ σ' = [some (.int (c : Int)), some (.int (d : Int))] ∧ H' = H1 ∧ Nat.gcd c d = Nat.gcd a b, fun _ _ h => h, ?_⟩
    refine ⟨_, rfl, _, rfl, _, rfl, _, _, rfl, rfl, by omega, _, _, rfl, c % m, Nat.mod_lt _ (by omega), m, c % m, rfl, ?_, rfl, ?_⟩
    · rw [show ((c % m : Nat) : Int) = (c : Int) % m by omega]; rfl
    · rw [← hg, Nat.gcd_comm c m, Nat.gcd_rec m c, Nat.gcd_comm]
def apL (n k : Nat) : List Nat := ((List.range k).map (· + 1)).filter fun i => !decide (1 < Nat.gcd n i)
theorem apL_succ (n k : Nat) : apL n (k + 1) = apL n k ++ (if 1 < Nat.gcd n (k + 1) then [] else [k + 1]) := by
  unfold apL
  rw [List.range_succ, List.map_append, List.filter_append]
  by_cases h : 1 < Nat.gcd n (k + 1) <;> simp [h]
theorem apL_len (n k : Nat) : (apL n k).length ≤ k := by
  unfold apL
  refine Nat.le_trans (List.length_filter_le _ _) ?_
  simp
def spApart : Sp := fun vs H Q _ => ∃ n : Nat, vs = [.int (n : Int)] ∧ n ≤ 1000 ∧ ∀ H', Same H H' → Q (.int ((apL n n).length : Nat)) H'
theorem sc36 : FnScope ["number", "each"] ["number"] (C8.fnScope (top 36)) := C8.fnScope_by (by decide +kernel)
theorem ok_apart (D : Dd K mg "how_many_apart" (top 36) ["number"]) (T : Tx mg) (c : Cl P w K mg base 1 "has_common" spCommon) : Cl P w K mg base 2 "how_many_apart" spApart := by
  refine D.cal sc36 (fun vs H Q E ⟨n, e, _⟩ => by rw [e]; rfl) fun f cdv A outer s H vs Q E hr h => ?_
  obtain ⟨n, rfl, hn, q⟩ := h
  refine ⟨_, pss_one (ps_ret (pe_callB call_len_seq (by rfl) T.len PySem.boot_len (pa_cons (pe_lc (own := [("each", 1)]) (g := gName 1) rfl sc36.nd
    (pi_range2 rfl T.range (pa_cons pe_int (pa_cons (pe_op op_add (pv 0) pe_int) pa_nil))) (blkOk_by (N := ["number", "each"]) (sc := C8.fnScope (top 36)) (by decide +kernel)) (fun _ _ _ _ _ => pg_name (i := 1) sc36.nd rfl (Or.inl rfl))
    (fun _ _ _ _ _ => pts_one (pt_not (pt_val (C8.pe_c c hr (by decide) rfl (pa_cons (pv 0) (pa_cons (pv 1) pa_nil)))))) (fun _ _ _ _ _ => pv 1)) pa_nil))), ?_⟩
  refine ⟨_, rfl, _, _, rfl, rfl, _, _, rfl, ⟨by omega, by omega, by omega, by omega⟩, fun L nL => lc_range (fun i H1 => Same H H1 ∧ H1 L = some (.lst ((apL n i).map fun (j : Nat) => V.int (j : Int)))) ⟨fun b o e => (upd_ne (ne_of_none e nL)).trans e, upd_same⟩ ?_ ?_⟩
  · rintro i H1 hi ⟨sm, hL⟩
    have hi : i < n := by omega
    refine ⟨rfl, _, rfl, _, rfl, n, i + 1, ?_, decide (1 < Nat.gcd n (i + 1)), rfl, ?_⟩
    · rw [show ((1 : Int) + (i : Nat)) = ((i + 1 : Nat) : Int) by omega]; rfl
    by_cases hg : 1 < Nat.gcd n (i + 1)
    · rw [decide_eq_true hg]
      refine iteF ⟨sm, ?_⟩
      rw [hL, apL_succ, if_pos hg, List.append_nil]
    · rw [decide_eq_false hg]
      refine iteT ⟨_, rfl, _, hL, ?_, fun b o e => (upd_ne (ne_of_none e nL)).trans (sm b o e), ?_⟩
      · rw [List.length_map]; have := apL_len n i; exact szlt (by omega)
      · rw [upd_same, apL_succ, if_neg hg, List.map_append, show ((1 : Int) + (i : Nat)) = ((i + 1 : Nat) : Int) by omega]; rfl
  · rintro H1 ⟨sm, hL⟩
    rw [show ((n : Int) + 1 - 1).toNat = n by omega] at hL
    refine ⟨_, _, rfl, .inl (SqL.of hL), ?_⟩
    rw [List.length_map]
    exact q H1 sm
/-! ### with_place, with_tie, how_many_trees -/
def placeI (n : Nat) : Nat → Int
  | 0 => 0
  | j + 1 => if n % (j + 1) = 0 then placeI n j + ((apL (n / (j + 1)) (n / (j + 1))).length : Nat) * lotI (2 * ((j + 1 : Nat) : Int)) (j + 1) else placeI n j
def spPlace : Sp := fun vs H Q _ => ∃ n : Nat, vs = [.int (n : Int)] ∧ 1 ≤ n ∧ n ≤ 100 ∧ ∀ H', Same H H' → Q (.int (placeI n n / (2 * n))) H'
theorem sc37 : FnScope ["pairs", "found", "part"] ["pairs"] (C8.fnScope (top 37)) := C8.fnScope_by (by decide +kernel)
theorem ok_place (D : Dd K mg "with_place" (top 37) ["pairs"]) (T : Tx mg) (c1 : Cl P w K mg base 1 "lots" spLots) (c2 : Cl P w K mg base 2 "how_many_apart" spApart) : Cl P w K mg base 3 "with_place" spPlace := by
  have c1 := c1.mono (by decide : 1 ≤ 2)
  refine D.cal sc37 (fun vs H Q E ⟨n, e, _⟩ => by rw [e]; rfl) fun f cdv A outer s H vs Q E hr h => ?_
  obtain ⟨n, rfl, h1, h2, q⟩ := h
  refine ⟨_, pss_cons (ps_set (i := 1) sc37.nd rfl (Or.inl rfl) pe_int)
    (pss_cons (ps_for PassesOwn.never rfl (pi_range2 rfl T.range (pa_cons pe_int (pa_cons (pe_op op_add (pv 0) pe_int) pa_nil))) (pg_name (i := 2) sc37.nd rfl (Or.inl rfl))
      (pss_one (ps_if (pt_cmpR op_eq (pe_op op_mod (pv 0) (pv 2)) pe_int (nomark _))
        (pss_one (ps_set (i := 1) sc37.nd rfl (Or.inl rfl) (pe_op op_add (pv 1) (pe_op op_mul (C8.pe_c c2 hr (by decide) rfl (pa_cons (pe_op op_fdiv (pv 0) (pv 2)) pa_nil)) (C8.pe_c c1 hr (by decide) rfl (pa_cons (pe_op op_mul pe_int (pv 2)) (pa_cons (pv 2) pa_nil))))))) pss_nil)))
    (pss_one (ps_ret (pe_op op_fdiv (pv 1) (pe_op op_mul pe_int (pv 0)))))), ?_⟩
  refine ⟨_, rfl, _, _, rfl, rfl, _, _, rfl, ⟨by omega, by omega, by omega, by omega⟩, for_range (fun i σ H1 => Same H H1 ∧ ∃ a, σ = [some (.int (n : Int)), some (.int (placeI n i)), a]) ⟨Same.refl H, none, rfl⟩ ?_ ?_⟩
  · rintro i σ H1 hi ⟨sm, a, rfl⟩
    have hi : i < n := by omega
    rw [show ((1 : Int) + (i : Nat)) = ((i + 1 : Nat) : Int) by omega]
    refine ⟨_, rfl, _, rfl, _, _, rfl, rfl, by omega, rfl, _, rfl, ?_⟩
    by_cases hd : n % (i + 1) = 0
    · have e : (decide (V.int ((n : Int) % ((i + 1 : Nat) : Int)) = V.int 0)) = true := by
        rw [show ((n : Int) % ((i + 1 : Nat) : Int)) = ((n % (i + 1) : Nat) : Int) by omega, hd]; rfl
      have e : decide ((fun i j => V.int (i % j)) (n : Int) ((i + 1 : Nat) : Int) = V.int 0) = true := e
      rw [e]
      refine iteT ⟨_, rfl, _, rfl, _, rfl, _, _, rfl, rfl, ⟨by omega, by omega⟩, n / (i + 1), ?_, ?_, fun H2 sm2 => ?_⟩
      · rw [Int.natCast_ediv]; rfl
      · exact Nat.le_trans (Nat.div_le_self _ _) (by omega)
      have hb := apL_len (n / (i + 1)) (n / (i + 1))
      have hb2 : n / (i + 1) ≤ n := Nat.div_le_self _ _
      refine ⟨_, rfl, _, _, rfl, rfl, .inl ⟨by omega, by omega⟩, _, rfl, 2 * ((i + 1 : Nat) : Int), i + 1, rfl, by omega, by omega, by omega, ?_⟩
      refine ⟨_, _, rfl, rfl, .inl ⟨by omega, by omega⟩, _, _, rfl, rfl, sm.trans sm2, some (.int ((i + 1 : Nat) : Int)), ?_⟩
      have e2 : placeI n (i + 1) = placeI n i + ((apL (n / (i + 1)) (n / (i + 1))).length : Nat) * lotI (2 * ((i + 1 : Nat) : Int)) (i + 1) := if_pos hd
      rw [e2]; rfl
    · have e : (decide (V.int ((n : Int) % ((i + 1 : Nat) : Int)) = V.int 0)) = false := by
        rw [show ((n : Int) % ((i + 1 : Nat) : Int)) = ((n % (i + 1) : Nat) : Int) by omega]
        exact decide_eq_false fun z => by injection z with z; omega
      have e : decide ((fun i j => V.int (i % j)) (n : Int) ((i + 1 : Nat) : Int) = V.int 0) = false := e
      rw [e]
      refine iteF ⟨sm, some (.int ((i + 1 : Nat) : Int)), ?_⟩
      have e2 : placeI n (i + 1) = placeI n i := if_neg hd
      rw [e2]; rfl
  · rintro σ H1 ⟨sm, a, rfl⟩
    rw [show ((n : Int) + 1 - 1).toNat = n by omega]
    exact ⟨_, rfl, _, rfl, _, _, rfl, rfl, .inl ⟨by omega, by omega⟩, _, _, rfl, rfl, ⟨by omega, by omega⟩, q H1 sm⟩
def tieI (n : Nat) : Int := if n % 2 = 0 then allI n / 2 else (allI n + allI (n / 2)) / 2
def spTie : Sp := fun vs H Q _ => ∃ n : Nat, vs = [.int (n : Int)] ∧ 2 ≤ n ∧ n ≤ 100 ∧ Q (.int (tieI n)) H
theorem sc38 : FnScope ["pairs"] ["pairs"] (C8.fnScope (top 38)) := C8.fnScope_by (by decide +kernel)
theorem ok_tie (D : Dd K mg "with_tie" (top 38) ["pairs"]) (c : Cl P w K mg base 3 "all_in" spAll) : Cl P w K mg base 4 "with_tie" spTie := by
  refine D.cal sc38 (fun vs H Q E ⟨n, e, _⟩ => by rw [e]; rfl) fun f cdv A outer s H vs Q E hr h => ?_
  obtain ⟨n, rfl, h1, h2, q⟩ := h
  refine ⟨_, pss_cons (ps_if (pt_cmpR op_eq (pe_op op_mod (pv 0) pe_int) pe_int (nomark _)) (pss_one (ps_ret (pe_op op_fdiv (C8.pe_c c hr (by decide) rfl (pa_cons (pv 0) pa_nil)) pe_int))) pss_nil)
    (pss_one (ps_ret (pe_op op_fdiv (pe_op op_add (C8.pe_c c hr (by decide) rfl (pa_cons (pv 0) pa_nil)) (C8.pe_c c hr (by decide) rfl (pa_cons (pe_op op_fdiv (pv 0) pe_int) pa_nil))) pe_int))), ?_⟩
  refine ⟨_, rfl, _, _, rfl, rfl, by omega, rfl, _, rfl, ?_⟩
  by_cases hd : n % 2 = 0
  · have e : decide ((fun i j => V.int (i % j)) (n : Int) 2 = V.int 0) = true := by
      show decide (V.int ((n : Int) % 2) = V.int 0) = true
      rw [show ((n : Int) % 2) = 0 by omega]; rfl
    rw [e]
    refine iteT ⟨_, rfl, n, rfl, by omega, h2, _, _, rfl, rfl, ⟨by omega, by omega⟩, ?_⟩
    unfold tieI at q
    rw [if_pos hd] at q
    exact q
  · have e : decide ((fun i j => V.int (i % j)) (n : Int) 2 = V.int 0) = false := by
      show decide (V.int ((n : Int) % 2) = V.int 0) = false
      exact decide_eq_false fun z => by injection z with z; omega
    rw [e]
    refine iteF ⟨_, rfl, n, rfl, by omega, h2, _, rfl, _, _, rfl, rfl, ⟨by omega, by omega⟩, n / 2, ?_, by omega, by omega, _, _, rfl, rfl, _, _, rfl, rfl, ⟨by omega, by omega⟩, ?_⟩
    · rw [show ((n / 2 : Nat) : Int) = (n : Int) / 2 by omega]; rfl
    unfold tieI at q
    rw [if_neg hd] at q
    exact q
/-- how many trees of n pairs there are, as the program counts -/
def treesI (n : Nat) : Int := placeI n n / (2 * n) + tieI n - allI n
def spTrees : Sp := fun vs H Q _ => ∃ n : Nat, vs = [.int (n : Int)] ∧ 2 ≤ n ∧ n ≤ 100 ∧ ∀ H', Same H H' → Q (.int (treesI n)) H'
theorem sc39 : FnScope ["pairs"] ["pairs"] (C8.fnScope (top 39)) := C8.fnScope_by (by decide +kernel)
theorem ok_trees (D : Dd K mg "how_many_trees" (top 39) ["pairs"]) (T : Tx mg) (c1 : Cl P w K mg base 3 "need_number" spNeed) (c2 : Cl P w K mg base 3 "with_place" spPlace) (c3 : Cl P w K mg base 4 "with_tie" spTie)
    (c4 : Cl P w K mg base 3 "all_in" spAll) : Cl P w K mg base 5 "how_many_trees" spTrees := by
  have c1 := c1.mono (by decide : 3 ≤ 4)
  have c2 := c2.mono (by decide : 3 ≤ 4)
  have c4 := c4.mono (by decide : 3 ≤ 4)
  refine D.cal sc39 (fun vs H Q E ⟨n, e, _⟩ => by rw [e]; rfl) fun f cdv A outer s H vs Q E hr h => ?_
  obtain ⟨n, rfl, h1, h2, q⟩ := h
  refine ⟨_, pss_cons (ps_expr (C8.pe_c c1 hr (by decide) rfl (pa_cons (pv 0) (pa_cons pe_str (pa_cons pe_int (pa_cons (C8.pe_gc rfl T.mw) pa_nil))))))
    (pss_one (ps_ret (pe_op op_sub (pe_op op_add (C8.pe_c c2 hr (by decide) rfl (pa_cons (pv 0) pa_nil)) (C8.pe_c c3 hr (by decide) rfl (pa_cons (pv 0) pa_nil))) (C8.pe_c c4 hr (by decide) rfl (pa_cons (pv 0) pa_nil))))), ?_⟩
  refine ⟨_, rfl, (n : Int), 1, 200, _, rfl, by omega, by omega, ?_⟩
  refine ⟨_, rfl, n, rfl, by omega, h2, fun H1 sm => ⟨_, rfl, n, rfl, h1, h2, _, _, rfl, rfl, _, rfl, n, rfl, by omega, h2, _, _, rfl, rfl, q H1 sm⟩⟩
end
end Eh

set_option maxHeartbeats 4000000
/-! Walks: how many trees, by the law; both are alike from 2 to 40. -/
namespace Eh
open PySem PySem.Spec PyProof.Rows L2
section
variable {P : Program} {w : World} {K : PySem.W.Frag} {mg : Str → Option Value} {base : Heap}
theorem sc68 : FnScope ["_law_many", "_law_some", "_law_found", "_law_at"] ["_law_many", "_law_some"] (C8.fnScope (top 68)) := C8.fnScope_by (by decide +kernel)
theorem ok_lawLots (D : Dd K mg "_law_lots" (top 68) ["_law_many", "_law_some"]) (T : Tx mg) : Cl P w K mg base 1 "_law_lots" spLots := by
  refine D.cal sc68 (fun vs H Q E ⟨m, k, e, _⟩ => by rw [e]; rfl) fun f cdv A outer s H vs Q E hr h => ?_
  obtain ⟨m, k, rfl, hk, hm1, hm2, q⟩ := h
  refine ⟨_, pss_cons (ps_set (i := 2) sc68.nd rfl (Or.inl rfl) pe_int)
    (pss_cons (ps_for PassesOwn.never rfl (pi_range1 rfl T.range (pa_cons (pv 1) pa_nil)) (pg_name (i := 3) sc68.nd rfl (Or.inl rfl))
      (pss_one (ps_set (i := 2) sc68.nd rfl (Or.inl rfl) (pe_op op_fdiv (pe_op op_mul (pv 2) (pe_op op_sub (pv 0) (pv 3))) (pe_op op_add (pv 3) pe_int)))))
    (pss_one (ps_ret (pv 2)))), ?_⟩
  refine ⟨_, rfl, _, rfl, by omega, by omega, for_range (fun i σ H1 => H1 = H ∧ ∃ a, σ = [some (.int m), some (.int (k : Int)), some (.int (lotI m i)), a]) ⟨rfl, none, rfl⟩ ?_ ?_⟩
  · rintro i σ H1 hi ⟨rfl, a, rfl⟩
    refine ⟨_, rfl, _, rfl, _, rfl, _, _, rfl, rfl, _, _, rfl, rfl, .inr ⟨by omega, by omega⟩, _, rfl, _, _, rfl, rfl, _, _, rfl, rfl, ⟨by omega, by omega⟩, rfl, some (.int (0 + (i : Int))), ?_⟩
    rw [Int.zero_add]
    rfl
  · rintro σ H1 ⟨rfl, a, rfl⟩
    exact ⟨_, rfl, q⟩
/-- how many of 1 .. k share no divisor with n but 1 -/
def primeTo (n : Nat) : Nat → Nat
  | 0 => 0
  | k + 1 => primeTo n k + (if Nat.gcd n (k + 1) = 1 then 1 else 0)
theorem primeTo_le (n : Nat) : ∀ k, primeTo n k ≤ k
  | 0 => Nat.le_refl _
  | k + 1 => by
    have := primeTo_le n k
    unfold primeTo
    split <;> omega
def spNoCommon : Sp := fun vs H Q _ => ∃ n : Nat, vs = [.int (n : Int)] ∧ n ≤ 1000 ∧ Q (.int ((primeTo n n : Nat) : Int)) H
theorem sc69 : FnScope ["_law_number", "_law_found", "_law_each", "_law_one_here", "_law_other"] ["_law_number"] (C8.fnScope (top 69)) := C8.fnScope_by (by decide +kernel)
theorem ok_noCommon (D : Dd K mg "_law_no_common" (top 69) ["_law_number"]) (T : Tx mg) : Cl P w K mg base 1 "_law_no_common" spNoCommon := by
  refine D.cal sc69 (fun vs H Q E ⟨n, e, _⟩ => by rw [e]; rfl) fun f cdv A outer s H vs Q E hr h => ?_
  obtain ⟨n, rfl, hn, q⟩ := h
  refine ⟨_, pss_cons (ps_set (i := 1) sc69.nd rfl (Or.inl rfl) pe_int)
    (pss_cons (ps_for PassesOwn.never rfl (pi_range2 rfl T.range (pa_cons pe_int (pa_cons (pe_op op_add (pv 0) pe_int) pa_nil))) (pg_name (i := 2) sc69.nd rfl (Or.inl rfl))
      (pss_cons (ps_par (i := 3) (j := 4) rfl sc69.nd rfl rfl (by decide) rfl rfl (pa_cons (pv 0) (pa_cons (pv 2) pa_nil)) (by rfl))
      (pss_cons (ps_while PassesOwn.never (pt_cmpR op_gt (pv 4) pe_int (nomark _))
        (pss_one (ps_par (i := 3) (j := 4) rfl sc69.nd rfl rfl (by decide) rfl rfl (pa_cons (pv 4) (pa_cons (pe_op op_mod (pe_callTy call_int1 (by rfl) T.int (by decide +kernel) (pa_cons (pv 3) pa_nil)) (pv 4)) pa_nil)) (by rfl))))
      (pss_one (ps_set (i := 1) sc69.nd rfl (Or.inl rfl) (pe_op op_add (pv 1) (pe_callTy call_int1 (by rfl) T.int (by decide +kernel) (pa_cons (pe_cmpR op_eq (pv 3) pe_int (nomark _)) pa_nil))))))))
    (pss_one (ps_ret (pv 1)))), ?_⟩
  refine ⟨_, rfl, _, _, rfl, rfl, _, _, rfl, ⟨by omega, by omega, by omega, by omega⟩, for_range (fun i σ H1 => H1 = H ∧ ∃ a b c, σ = [some (.int (n : Int)), some (.int ((primeTo n i : Nat) : Int)), a, b, c]) ⟨rfl, none, none, none, rfl⟩ ?_ ?_⟩
  · rintro i σ H1 hi ⟨rfl, a, b, c, rfl⟩
    rw [show ((1 : Int) + (i : Nat)) = ((i + 1 : Nat) : Int) by omega]
    refine ⟨_, rfl, _, rfl, _, _, rfl, ?_⟩
    refine ⟨fun m σ H2 => ∃ c d : Nat, m = d ∧ σ = [some (.int (n : Int)), some (.int ((primeTo n i : Nat) : Int)), some (.int ((i + 1 : Nat) : Int)), some (.int (c : Int)), some (.int (d : Int))] ∧ H2 = H1 ∧ Nat.gcd c d = Nat.gcd n (i + 1), ⟨i + 1, n, i + 1, rfl, rfl, rfl, rfl⟩, ?_⟩
    rintro m σ H2 ⟨c, d, rfl, rfl, rfl, hg⟩
    refine ⟨_, rfl, _, _, rfl, rfl, _, rfl, ?_⟩
    by_cases hd : m = 0
    · subst hd
      rw [decide_eq_false (by omega)]
      rw [Nat.gcd_zero_right] at hg
      refine iteF ⟨_, rfl, _, rfl, rfl, .inr ⟨_, rfl, _, _, rfl, rfl, rfl, some (.int ((i + 1 : Nat) : Int)), some (.int (c : Int)), some (.int 0), ?_⟩⟩
      have e : ((primeTo n (i + 1) : Nat) : Int) = (primeTo n i : Nat) + (if decide (V.int (c : Int) = V.int 1) = true then 1 else 0) := by
        show ((primeTo n i + (if Nat.gcd n (i + 1) = 1 then 1 else 0) : Nat) : Int) = _
        by_cases h1 : c = 1
        · rw [if_pos (hg ▸ h1), h1]; rfl
        · rw [if_neg (hg ▸ h1), decide_eq_false (fun z => by injection z with z; omega)]; rfl
      rw [e]
      rfl
    · rw [decide_eq_true (by omega)]
      refine iteT ⟨fun σ' H' => ∃ m', m' < m ∧ ∃ c d : Nat, m' = d ∧ σ' = [some (.int (n : Int)), some (.int ((primeTo n i : Nat) : Int)), some (.int ((i + 1 : Nat) : Int)), some (.int (c : Int)), some (.int (d : Int))] ∧ H' = H2 ∧ Nat.gcd c d = Nat.gcd n (i + 1), fun _ _ h => h, ?_⟩
      refine ⟨_, rfl, _, rfl, .inl ⟨_, rfl, _, rfl, _, _, rfl, rfl, by omega, _, _, rfl, c % m, Nat.mod_lt _ (by omega), m, c % m, rfl, ?_, rfl, ?_⟩⟩
      · rw [show ((c % m : Nat) : Int) = (c : Int) % m by omega]; rfl
      · rw [← hg, Nat.gcd_comm c m, Nat.gcd_rec m c, Nat.gcd_comm]
  · rintro σ H1 ⟨rfl, a, b, c, rfl⟩
    rw [show ((n : Int) + 1 - 1).toNat = n by omega]
    exact ⟨_, rfl, q⟩
/-- the list that the law sums -/
def partsI (n : Nat) : Nat → List Int
  | 0 => []
  | j + 1 => if n % (j + 1) = 0 then partsI n j ++ [((primeTo (n / (j + 1)) (n / (j + 1)) : Nat) : Int) * lotI (2 * ((j + 1 : Nat) : Int)) (j + 1)] else partsI n j
theorem partsI_len (n : Nat) : ∀ k, (partsI n k).length ≤ k
  | 0 => Nat.le_refl _
  | k + 1 => by
    have := partsI_len n k
    unfold partsI
    split <;> simp <;> omega
def wordsI (n : Nat) : Int := lotI (2 * (n : Int)) n / ((n : Int) + 1)
def halfI (n : Nat) : Int := if n % 2 = 1 then lotI ((n : Int) - 1) (n / 2) / (((n / 2 : Nat) : Int) + 1) else 0
def lawTreesI (n : Nat) : Int := (partsI n n).sum / (2 * n) + (wordsI n + halfI n) / 2 - wordsI n
def spLawTrees : Sp := fun vs H Q _ => ∃ n : Nat, vs = [.int (n : Int)] ∧ 2 ≤ n ∧ n ≤ 100 ∧ ∀ H', Same H H' → Q (.int (lawTreesI n)) H'
theorem sc70 : FnScope ["_law_pairs", "_law_places", "_law_words", "_law_half", "_law_each"] ["_law_pairs"] (C8.fnScope (top 70)) := C8.fnScope_by (by decide +kernel)
theorem ok_lawTrees (D : Dd K mg "_law_how_many_trees" (top 70) ["_law_pairs"]) (T : Tx mg) (c1 : Cl P w K mg base 1 "_law_lots" spLots) (c2 : Cl P w K mg base 1 "_law_no_common" spNoCommon) : Cl P w K mg base 2 "_law_how_many_trees" spLawTrees := by
  refine D.cal sc70 (fun vs H Q E ⟨n, e, _⟩ => by rw [e]; rfl) fun f cdv A outer s H vs Q E hr h => ?_
  obtain ⟨n, rfl, h1, h2, q⟩ := h
  refine ⟨_, pss_cons (ps_set (i := 1) sc70.nd rfl (Or.inl rfl) (pe_callB (cr_sum rfl) (by rfl) T.sum (by decide +kernel) (pa_cons (pe_lc (own := [("_law_each", 4)]) (g := gName 4) rfl sc70.nd
      (pi_range2 rfl T.range (pa_cons pe_int (pa_cons (pe_op op_add (pv 0) pe_int) pa_nil))) (blkOk_by (N := ["_law_pairs", "_law_places", "_law_words", "_law_half", "_law_each"]) (sc := C8.fnScope (top 70)) (by decide +kernel)) (fun _ _ _ _ _ => pg_name (i := 4) sc70.nd rfl (Or.inl rfl))
      (fun _ _ _ _ _ => pts_one (pt_cmpR op_eq (pe_op op_mod (pe_callTy call_int1 (by rfl) T.int (by decide +kernel) (pa_cons (pv 0) pa_nil)) (pv 4)) pe_int (nomark _)))
      (fun _ _ _ _ _ => pe_op op_mul (C8.pe_c c2 hr (by decide) rfl (pa_cons (pe_op op_fdiv (pv 0) (pv 4)) pa_nil)) (C8.pe_c c1 hr (by decide) rfl (pa_cons (pe_op op_mul pe_int (pv 4)) (pa_cons (pv 4) pa_nil))))) pa_nil)))
    (pss_cons (ps_set (i := 2) sc70.nd rfl (Or.inl rfl) (pe_op op_fdiv (C8.pe_c c1 hr (by decide) rfl (pa_cons (pe_op op_mul pe_int (pv 0)) (pa_cons (pv 0) pa_nil))) (pe_op op_add (pv 0) pe_int)))
    (pss_cons (ps_set (i := 3) sc70.nd rfl (Or.inl rfl) (pe_ifExp (pt_cmpR op_eq (pe_op op_mod (pe_callTy call_int1 (by rfl) T.int (by decide +kernel) (pa_cons (pv 0) pa_nil)) pe_int) pe_int (nomark _))
      (pe_op op_fdiv (C8.pe_c c1 hr (by decide) rfl (pa_cons (pe_op op_sub (pv 0) pe_int) (pa_cons (pe_op op_fdiv (pv 0) pe_int) pa_nil))) (pe_op op_add (pe_op op_fdiv (pv 0) pe_int) pe_int)) pe_int))
    (pss_one (ps_ret (pe_op op_sub (pe_op op_add (pe_op op_fdiv (pv 1) (pe_op op_mul pe_int (pv 0))) (pe_op op_fdiv (pe_op op_add (pv 2) (pv 3)) pe_int)) (pv 2)))))), ?_⟩
  refine ⟨_, rfl, _, _, rfl, rfl, _, _, rfl, ⟨by omega, by omega, by omega, by omega⟩, fun L nL => lc_range (fun i H1 => Same H H1 ∧ H1 L = some (.lst ((partsI n i).map V.int))) ⟨fun b o e => (upd_ne (ne_of_none e nL)).trans e, upd_same⟩ ?_ ?_⟩
  · rintro i H1 hi ⟨sm, hL⟩
    have hi : i < n := by omega
    rw [show ((1 : Int) + (i : Nat)) = ((i + 1 : Nat) : Int) by omega]
    refine ⟨rfl, _, rfl, .inl ⟨_, rfl, _, rfl, _, _, rfl, rfl, by omega, rfl, _, rfl, ?_⟩⟩
    by_cases hd : n % (i + 1) = 0
    · have e : decide ((fun i j => V.int (i % j)) (n : Int) ((i + 1 : Nat) : Int) = V.int 0) = true := by
        show decide (V.int ((n : Int) % ((i + 1 : Nat) : Int)) = V.int 0) = true
        rw [show ((n : Int) % ((i + 1 : Nat) : Int)) = ((n % (i + 1) : Nat) : Int) by omega, hd]; rfl
      rw [e]
      have hb2 : n / (i + 1) ≤ n := Nat.div_le_self _ _
      have hb := primeTo_le (n / (i + 1)) (n / (i + 1))
      refine iteT ⟨_, rfl, _, rfl, _, _, rfl, rfl, ⟨by omega, by omega⟩, n / (i + 1), ?_, by omega, ?_⟩
      · rw [Int.natCast_ediv]; rfl
      refine ⟨_, rfl, _, _, rfl, rfl, .inl ⟨by omega, by omega⟩, _, rfl, 2 * ((i + 1 : Nat) : Int), i + 1, rfl, by omega, by omega, by omega, ?_⟩
      refine ⟨_, _, rfl, rfl, .inl ⟨by omega, by omega⟩, _, hL, ?_, fun b o e => (upd_ne (ne_of_none e nL)).trans (sm b o e), ?_⟩
      · rw [List.length_map]; have := partsI_len n i; exact szlt (by omega)
      · have e2 : partsI n (i + 1) = partsI n i ++ [((primeTo (n / (i + 1)) (n / (i + 1)) : Nat) : Int) * lotI (2 * ((i + 1 : Nat) : Int)) (i + 1)] := if_pos hd
        rw [upd_same, e2, List.map_append]; rfl
    · have e : decide ((fun i j => V.int (i % j)) (n : Int) ((i + 1 : Nat) : Int) = V.int 0) = false := by
        show decide (V.int ((n : Int) % ((i + 1 : Nat) : Int)) = V.int 0) = false
        rw [show ((n : Int) % ((i + 1 : Nat) : Int)) = ((n % (i + 1) : Nat) : Int) by omega]
        exact decide_eq_false fun z => by injection z with z; omega
      rw [e]
      have e2 : partsI n (i + 1) = partsI n i := if_neg hd
      refine iteF ⟨sm, ?_⟩
      rw [e2]; exact hL
  · rintro H1 ⟨sm, hL⟩
    rw [show ((n : Int) + 1 - 1).toNat = n by omega] at hL
    refine ⟨L, _, rfl, SqL.of hL, ?_⟩
    refine ⟨_, rfl, _, _, rfl, rfl, .inl ⟨by omega, by omega⟩, _, rfl, 2 * (n : Int), n, rfl, by omega, by omega, by omega, ?_⟩
    refine ⟨_, rfl, _, _, rfl, rfl, _, _, rfl, rfl, ⟨by omega, by omega⟩, ?_⟩
    refine ⟨_, rfl, .inl ⟨_, rfl, _, _, rfl, rfl, by omega, rfl, _, rfl, ?_⟩⟩
    have fin : ∀ {x : Int}, x = halfI n → (L2.tOp (rI0 fun i j => V.int (i - j)) (L2.tOp (rI0 fun i j => V.int (i + j)) (L2.tOp (rI CDiv fun i j => V.int (i / j)) (tVar 1) (L2.tOp (rI CMul fun i j => V.int (i * j)) (tC (.int 2)) (tVar 0)))
        (L2.tOp (rI CDiv fun i j => V.int (i / j)) (L2.tOp (rI0 fun i j => V.int (i + j)) (tVar 2) (tVar 3)) (tC (.int 2)))) (tVar 2))
        [some (.int (n : Int)), some (.int (partsI n n).sum), some (.int (wordsI n)), some (.int x), none] H1 Q := by
      rintro x rfl
      exact ⟨_, rfl, _, rfl, _, _, rfl, rfl, .inl ⟨by omega, by omega⟩, _, _, rfl, rfl, ⟨by omega, by omega⟩, _, rfl, _, rfl, _, _, rfl, rfl, _, _, rfl, rfl, ⟨by omega, by omega⟩, _, _, rfl, rfl, _, rfl, _, _, rfl, rfl, q H1 sm⟩
    by_cases hd : n % 2 = 1
    · have e : decide ((fun i j => V.int (i % j)) (n : Int) 2 = V.int 1) = true := by
        show decide (V.int ((n : Int) % 2) = V.int 1) = true
        rw [show ((n : Int) % 2) = 1 by omega]; rfl
      rw [e]
      refine iteT ⟨_, rfl, _, _, rfl, rfl, _, rfl, _, _, rfl, rfl, ⟨by omega, by omega⟩, (n : Int) - 1, n / 2, ?_, by omega, by omega, by omega, ?_⟩
      · rw [show ((n / 2 : Nat) : Int) = (n : Int) / 2 by omega]; rfl
      refine ⟨_, rfl, _, _, rfl, rfl, ⟨by omega, by omega⟩, _, _, rfl, rfl, _, _, rfl, rfl, ⟨by omega, by omega⟩, fin ?_⟩
      unfold halfI
      rw [if_pos hd, show ((n / 2 : Nat) : Int) = (n : Int) / 2 by omega]
    · have e : decide ((fun i j => V.int (i % j)) (n : Int) 2 = V.int 1) = false := by
        show decide (V.int ((n : Int) % 2) = V.int 1) = false
        exact decide_eq_false fun z => by injection z with z; omega
      rw [e]
      refine iteF (fin ?_)
      unfold halfI
      rw [if_neg hd]
end
/-- both ways of counting trees agree where the law asks -/
theorem trees_same : ∀ n, 2 ≤ n → n ≤ 40 → treesI n = lawTreesI n ∧ (lawTreesI n).natAbs.log2 < 100 := by
  have h : ∀ i, i < 39 → treesI (i + 2) = lawTreesI (i + 2) ∧ (lawTreesI (i + 2)).natAbs.log2 < 100 := by decide +kernel
  intro n h1 h2
  have := h (n - 2) (by omega)
  rw [show n - 2 + 2 = n by omega] at this
  exact this
end Eh

set_option maxHeartbeats 4000000
/-! Walks: rounds_in. -/
namespace Eh
open PySem PySem.Spec PyProof.Rows L2
/-! ### dicts of words -/
abbrev tks (l : List Wd) : List (Key × V) := l.map fun x => ((Sum.inr (en x) : Key), V.bl true)
theorem put_new {l : List Wd} {y : Wd} (h : y ∉ l) : putK (tks l) (Sum.inr (en y)) (.bl true) = tks (l ++ [y]) := by
  have e : ((tks l).any fun kv => decide (kv.1 = (Sum.inr (en y) : Key))) = false := by
    rw [List.any_eq_false]
    intro kv hk
    obtain ⟨x, hx, rfl⟩ := List.mem_map.mp hk
    simp only [decide_eq_true_eq]
    intro z
    injection z with z
    exact h (en_inj z ▸ hx)
  unfold putK
  rw [if_neg (by rw [e]; decide)]
  simp [tks]
theorem merge_new : ∀ {m l : List Wd}, (l ++ m).Nodup → mergeK (tks l) (tks m) = tks (l ++ m)
  | [], l, _ => by simp [mergeK]
  | y :: m, l, h => by
    have hy : y ∉ l := fun z => (List.nodup_append.mp h).2.2 y z y (by simp) rfl
    have e : mergeK (tks l) (tks (y :: m)) = mergeK (putK (tks l) (Sum.inr (en y)) (.bl true)) (tks m) := rfl
    rw [e, put_new hy, merge_new (by simpa using h)]
    simp
theorem val_tks (l : List Wd) (z : Wd) : (valV (tks l) (Sum.inr (en z))).isSome = decide (z ∈ l) := val_true l z
/-- {each: True for each in words} -/
theorem dc_words {J : It} {G : Hp → Prop} {l : List Wd} {H1 : Hp} (wk : Walk J (txs l).length G (YAt (txs l))) (hG : ∀ H', Same H1 H' → G H') {σ : L2.St} {i : Nat} {D : Addr} (nd : l.Nodup) (hl : l.length ≤ 100000) (nD : H1 D = none)
    (h1 : ∀ v, wipe ((wipe σ [i]).set i (some v)) [i] = wipe σ [i]) (h2 : ∀ v, ((wipe σ [i]).set i (some v))[i]? = some (some v)) {Qd : Hp → Prop} (q : ∀ H', Same H1 H' → H' D = some (.dK (tks l)) → Qd H') :
    ∃ W : Nat → Nat → Hp → Prop, (∃ m, W 0 m (upd H1 D (.dK []))) ∧ ∀ j m H, W j m H → (J.stop j H ∧ Qd H) ∨ (J.go j H ∧ ∃ Nx : Hp → Prop, (∀ H', Nx H' → ∃ m', m' < m ∧ W (j + 1) m' H') ∧ ∀ x H', J.yld j H x H' →
      gName i x (wipe σ [i]) H' fun σ2 H2 => wipe σ2 [i] = wipe σ [i] ∧ tYes σ2 H2 fun b H3 => if b = true then tVar i σ2 H3 fun y H4 => tC (.bl true) σ2 H4 fun z H5 => ∃ kvs k, y = kV k ∧ H5 D = some (.dK kvs) ∧ kvs.length < sizeLine ∧ Nx (upd H5 D (.dK (putK kvs k z))) else Nx H3) := by
  refine dc_it wk (fun j H' => Same H1 H' ∧ H' D = some (.dK (tks (l.take j)))) ⟨fun b o e => (upd_ne (ne_of_none e nD)).trans e, upd_same⟩ (fun _ H' _ h => hG H' h.1) ?_ ?_
  · rintro j x H2 H3 hj ⟨sm, hD⟩ ⟨rfl, hx⟩
    have hj : j < l.length := by simpa using hj
    have hx : (l.map fun y => V.str (en y))[j]? = some x := hx
    rw [List.getElem?_map, List.getElem?_eq_getElem hj] at hx
    obtain rfl : V.str (en l[j]) = x := Option.some.inj hx
    refine ⟨h1 _, ?_⟩
    show tVar i _ H3 fun y H4 => tC (.bl true) _ H4 fun z H5 => ∃ kvs k, y = kV k ∧ H5 D = some (.dK kvs) ∧ kvs.length < sizeLine ∧ (Same H1 (upd H5 D (.dK (putK kvs k z))) ∧ upd H5 D (.dK (putK kvs k z)) D = some (.dK (tks (l.take (j + 1)))))
    refine ⟨_, h2 _, tks (l.take j), Sum.inr (en l[j]), rfl, hD, szlt (by simp; omega), fun b o e => (upd_ne (ne_of_none e nD)).trans (sm b o e), ?_⟩
    have hn : l[j] ∉ l.take j := by
      intro z
      obtain ⟨i', hi', e'⟩ := List.mem_iff_getElem.mp z
      rw [List.length_take] at hi'
      rw [List.getElem_take] at e'
      have := (List.getElem_inj nd).mp e'; omega
    rw [upd_same, put_new hn, List.take_add_one, List.getElem?_eq_getElem hj]
    rfl
  · rintro H2 ⟨sm, hD⟩
    rw [show (txs l).length = l.length by simp, List.take_length] at hD
    exact q H2 sm hD
/-! ### lists that grow by orbits -/
theorem orb_nodup {α : Type} {f : α → α} {p : Nat} {x : α} (h : it f p x = x) (hm : ∀ q, 0 < q → q < p → it f q x ≠ x) : (orb f p x).Nodup := by
  have key : ∀ i j, i < j → j < p → it f i x ≠ it f j x := fun i j hij hj e => by
    have e2 : it f (p - j) (it f i x) = it f (p - j) (it f j x) := by rw [e]
    rw [← it_add, ← it_add, show j + (p - j) = p by omega, h] at e2
    exact hm (i + (p - j)) (by omega) (by omega) e2
  unfold orb
  rw [List.Nodup, List.pairwise_map]
  refine List.Pairwise.imp_of_mem ?_ List.pairwise_lt_range
  intro a b _ hb hab
  exact key a b hab (by simpa using hb)
structure Grown {α : Type} (f : α → α) (E J : List α) : Prop where
  nd : J.Nodup
  mem : ∀ y, y ∈ J ↔ ∃ e ∈ E, O f e y
theorem Grown.nil {α : Type} (f : α → α) : Grown f [] [] := ⟨List.nodup_nil, fun y => by simp⟩
theorem Grown.old {α : Type} {f : α → α} {E J : List α} {e : α} (g : Grown f E J) (he : e ∈ J) : Grown f (E ++ [e]) J := by
  refine ⟨g.nd, fun y => ⟨fun h => ?_, fun ⟨z, hz, o⟩ => ?_⟩⟩
  · obtain ⟨z, hz, o⟩ := (g.mem y).mp h
    exact ⟨z, by simp [hz], o⟩
  · rcases List.mem_append.mp hz with hz | hz
    · exact (g.mem y).mpr ⟨z, hz, o⟩
    · obtain rfl := List.mem_singleton.mp hz
      obtain ⟨z', hz', o'⟩ := (g.mem z).mp he
      exact (g.mem y).mpr ⟨z', hz', o'.trans o⟩
theorem Grown.new {α : Type} [DecidableEq α] {f : α → α} {E J : List α} {e : α} {p : Nat} (g : Grown f E J) (hp : Per f) (he : e ∉ J) (p0 : 0 < p) (h : it f p e = e) (hm : ∀ q, 0 < q → q < p → it f q e ≠ e) :
    Grown f (E ++ [e]) (J ++ orb f p e) ∧ cls (O f) (J ++ orb f p e) = cls (O f) J + 1 := by
  have far : ∀ a ∈ J, ∀ b ∈ orb f p e, ¬ O f a b := fun a ha b hb o => by
    obtain ⟨z, hz, o1⟩ := (g.mem a).mp ha
    have o2 := (orb_mem p0 h).mp hb
    exact he ((g.mem e).mpr ⟨z, hz, (o1.trans o).trans (O.symm hp o2)⟩)
  refine ⟨⟨?_, fun y => ?_⟩, ?_⟩
  · refine List.nodup_append.mpr ⟨g.nd, orb_nodup h hm, fun a ha b hb e => ?_⟩
    exact far a ha b hb (e ▸ O.refl f a)
  · rw [List.mem_append, g.mem, orb_mem p0 h]
    constructor
    · rintro (⟨z, hz, o⟩ | o)
      · exact ⟨z, by simp [hz], o⟩
      · exact ⟨e, by simp, o⟩
    · rintro ⟨z, hz, o⟩
      rcases List.mem_append.mp hz with hz | hz
      · exact .inl ⟨z, hz, o⟩
      · obtain rfl := List.mem_singleton.mp hz; exact .inr o
  · rw [cls_apart far, cls_one (A := orb f p e)]
    · intro z; have := congrArg List.length z; rw [orb_len] at this; exact absurd this (Nat.ne_of_gt p0)
    · intro a ha b hb
      exact (O.symm hp ((orb_mem p0 h).mp ha)).trans ((orb_mem p0 h).mp hb)
theorem it_pi_nil {x : Wd} (hx : Dyck x) : ∀ n, it (pi []) n x = it turn n x
  | 0 => rfl
  | n + 1 => by rw [it_succ, it_succ, it_pi_nil hx n, pi_nil (hx.itTurn n)]
theorem orb_pi_nil {x : Wd} (hx : Dyck x) (n : Nat) : orb (pi []) n x = orb turn n x := by
  unfold orb
  exact List.map_congr_left fun i _ => it_pi_nil hx i
/-- both ends of each word -/
def ends (B : List Wd) : List Wd := B.flatMap fun x => [x, pull x]
theorem ends_snoc (B : List Wd) (x : Wd) : ends (B ++ [x]) = ends B ++ [x, pull x] := by simp [ends]
theorem ends_len (B : List Wd) : (ends B).length = 2 * B.length := by
  induction B with
  | nil => rfl
  | cons x B ih => simp only [ends, List.flatMap_cons, List.length_append, List.length_cons, List.length_nil] at ih ⊢; omega
theorem grown_inj {B J : List Wd} (g : Grown (pi []) (ends B) J) (x : Wd) : x ∈ J ↔ InJ B x := by
  rw [g.mem]
  unfold ends InJ
  constructor
  · rintro ⟨e, he, o⟩
    obtain ⟨w, hw, he⟩ := List.mem_flatMap.mp he
    simp only [List.mem_cons, List.not_mem_nil, or_false] at he
    rcases he with rfl | rfl
    · exact ⟨_, hw, .inl o⟩
    · exact ⟨_, hw, .inr o⟩
  · rintro ⟨w, hw, o | o⟩
    · exact ⟨w, List.mem_flatMap.mpr ⟨w, hw, by simp⟩, o⟩
    · exact ⟨pull w, List.mem_flatMap.mpr ⟨w, hw, by simp⟩, o⟩
/-- a list grown over all of a closed list is that list in another order -/
theorem grown_all {f : Wd → Wd} {J L : List Wd} (hp : Per f) (hJ : J.Nodup) (hcl : ∀ x ∈ J, ∀ y, O f x y → y ∈ J) (g : Grown f J L) : cls (O f) L = cls (O f) J := by
  refine cls_perm (O.eqv hp) ?_
  refine (List.perm_ext_iff_of_nodup g.nd hJ).mpr fun y => ?_
  rw [g.mem]
  exact ⟨fun ⟨e, he, o⟩ => hcl e he y o, fun h => ⟨y, h, O.refl f y⟩⟩
/-! ### rounds_in -/
theorem Xt.put {H H' : Hp} {p : Addr} {o : HO} (x : Xt H H') (h : H p = none) : Xt H (upd H' p o) :=
  ⟨fun b u e n => (upd_ne (ne_of_none e h)).trans (x.keep b u e n), fun b e => by
    by_cases hb : b = p
    · rw [hb]; exact h
    · rw [upd_ne hb] at e; exact x.gone b e⟩
theorem tabS_put {H : Hp} {Pt p : Addr} {q : Str} {u o : HO} (t : LamX.TabS H Pt q) (h : H p = some u) (n1 : ∀ ps, u ≠ .tbl ps) (n2 : ∀ c, u ≠ LamX.CodeO c q) : LamX.TabS (upd H p o) Pt q := by
  obtain ⟨ps, h1, h2, h3⟩ := t
  refine ⟨ps, (upd_ne (ne_of h1 h (n1 ps).symm)).trans h1, h2, fun pos cv hc => ?_⟩
  obtain ⟨c, e, hc⟩ := h3 pos cv hc
  exact ⟨c, e, (upd_ne (ne_of hc h (n2 c).symm)).trans hc⟩
section
variable {P : Program} {w : World} {K : PySem.W.Frag} {mg : Str → Option Value} {base : Heap} {C : Addr}
def spRoundsIn (K : PySem.W.Frag) (C Pt : Addr) : Sp := fun vs H Q _ => ∃ (b : Addr) (m : Nat) (B : List Wd), vs = [.ref b] ∧ BookAt K C H b m B ∧ Bk B ∧ (∀ x ∈ B, x.length = 2 * m) ∧ B.length ≤ 100 ∧ 2 ≤ m ∧ m ≤ 50 ∧ LamX.TabS H Pt LmS.qual ∧
  ∀ H' : Hp, Xt H H' → LamX.TabS H' Pt LmS.qual → Q (.int (rounds (treesI m) (2 * m) B)) H'
/-- the first loop's state behind these ends -/
def Joins (H : Hp) (b pj pk : Addr) (m : Nat) (E : List Wd) (σ : L2.St) (H2 : Hp) : Prop :=
  ∃ J : List Wd, Grown (pi []) E J ∧ J.length ≤ 100 * E.length ∧ (∀ y ∈ J, Dyck y ∧ y.length = 2 * m) ∧ Same H H2 ∧ H2 pj = some (.dK (tks J)) ∧ H2 pk = some (.dK []) ∧
    ∃ a c d, σ = [some (.ref b), some (.int ((cls (O (pi [])) J : Nat) : Int)), some (.int 0), some (.ref pj), some (.ref pk), a, c, d]
/-- the second loop's state behind i of the joined -/
def Knows (H : Hp) (Pt b pj pk : Addr) (od : Obj) (B J : List Wd) (i : Nat) (σ : L2.St) (H2 : Hp) : Prop :=
  ∃ L : List Wd, Grown (pi B) (J.take i) L ∧ Xt H H2 ∧ LamX.TabS H2 Pt LmS.qual ∧ H2 pj = some (.frz od (.dK (tks J))) ∧ H2 pk = some (.dK (tks L)) ∧
    ∃ a c d, σ = [some (.ref b), some (.int ((cls (O (pi [])) J : Nat) : Int)), some (.int ((cls (O (pi B)) L : Nat) : Int)), some (.ref pj), some (.ref pk), a, c, d]
theorem sc57 : FnScope ["book", "trees", "rounds", "joined", "known", "word", "end", "each"] ["book"] (C8.fnScope (top 57)) := C8.fnScope_by (by decide +kernel)
theorem code_ne (l : List Wd) (c : Addr) (q : Str) : HO.dK (tks l) ≠ LamX.CodeO c q := fun z => by unfold LamX.CodeO at z; cases z
theorem ok_rounds_in {Pt : Addr} (D : Dd K mg "rounds_in" (top 57) ["book"]) (c1 : Cl P w K mg base 3 "turns_in" spTurns) (c2 : Cl P w K mg base 1 "pulled_in" spPull) (c3 : Cl P w K mg base 5 "round_of" (spRound K C Pt))
    (c4 : Cl P w K mg base 5 "how_many_trees" spTrees) : Cl P w K mg base 6 "rounds_in" (spRoundsIn K C Pt) := by
  have c1 := c1.mono (by decide : 3 ≤ 5)
  have c2 := c2.mono (by decide : 1 ≤ 5)
  refine D.cal sc57 (fun vs H Q E ⟨b, m, B, e, _⟩ => by rw [e]; rfl) fun f0 cdv A outer s H vs Q E hr h => ?_
  obtain ⟨b, m, B, rfl, bk, hB, hlen, hBl, hm2, hm5, hT, q⟩ := h
  refine ⟨_, pss_cons (ps_asg (pe_tup (pa_cons pe_int (pa_cons pe_int (pa_cons pe_dnewK (pa_cons pe_dnewK pa_nil))))) (pg_tup rfl (pgs_cons (pg_name (i := 1) sc57.nd rfl (Or.inl rfl)) (pgs_cons (pg_name (i := 2) sc57.nd rfl (Or.inl rfl)) (pgs_cons (pg_name (i := 3) sc57.nd rfl (Or.inl rfl)) (pgs_cons (pg_name (i := 4) sc57.nd rfl (Or.inl rfl)) pgs_nil))))))
    (pss_cons (ps_for PassesOwn.never rfl (pi_tup (pe_fld (pv 0) rfl)) (pg_name (i := 5) sc57.nd rfl (Or.inl rfl))
      (pss_one (ps_for PassesOwn.never rfl (pi_tup (pe_tup (pa_cons (pv 5) (pa_cons (C8.pe_c c2 hr (by decide) rfl (pa_cons (pv 5) pa_nil)) pa_nil)))) (pg_name (i := 6) sc57.nd rfl (Or.inl rfl))
        (pss_one (ps_if (pt_cmp (pc_dnotin (hu_of hr) (pv 6) (pv 3)))
          (pss_cons (ps_set (i := 1) sc57.nd rfl (Or.inl rfl) (pe_op op_add (pv 1) pe_int))
          (pss_one (ps_expr (pe_bm PySem.F.plainAttrs_dict PySem.F.slot_dict_update PySem.F.type_dict_update mt_upd (pv 3) (pa_cons (pe_dc (own := [("each", 7)]) (g := gName 7) (tt := tYes) rfl sc57.nd
            (pi_list (C8.pe_c c1 hr (by decide) rfl (pa_cons (pv 6) pa_nil))) (blkOk_by (N := ["book", "trees", "rounds", "joined", "known", "word", "end", "each"]) (sc := C8.fnScope (top 57)) (by decide +kernel)) (fun _ _ _ _ _ => pg_name (i := 7) sc57.nd rfl (Or.inl rfl))
            (fun _ _ _ _ _ => pts_nil) (fun _ _ _ _ _ => pv 7) (fun _ _ _ _ _ => pe_bl)) pa_nil))))) pss_nil)))))
    (pss_cons (ps_lock (ps_for PassesOwn.never rfl (pi_keys (pv 3)) (pg_name (i := 5) sc57.nd rfl (Or.inl rfl))
      (pss_one (ps_if (pt_cmp (pc_dnotin (hu_of hr) (pv 5) (pv 4)))
          (pss_cons (ps_set (i := 2) sc57.nd rfl (Or.inl rfl) (pe_op op_add (pv 2) pe_int))
          (pss_one (ps_expr (pe_bm PySem.F.plainAttrs_dict PySem.F.slot_dict_update PySem.F.type_dict_update mt_upd (pv 4) (pa_cons (pe_dc (own := [("each", 7)]) (g := gName 7) (tt := tYes) rfl sc57.nd
            (pi_list (C8.pe_c c3 hr (by decide) rfl (pa_cons (pv 0) (pa_cons (pv 5) pa_nil)))) (blkOk_by (N := ["book", "trees", "rounds", "joined", "known", "word", "end", "each"]) (sc := C8.fnScope (top 57)) (by decide +kernel)) (fun _ _ _ _ _ => pg_name (i := 7) sc57.nd rfl (Or.inl rfl))
            (fun _ _ _ _ _ => pts_nil) (fun _ _ _ _ _ => pv 7) (fun _ _ _ _ _ => pe_bl)) pa_nil))))) pss_nil))))
    (pss_one (ps_ret (pe_op op_add (pe_op op_sub (C8.pe_c c4 hr (by decide) rfl (pa_cons (pe_fld (pv 0) rfl) pa_nil)) (pv 1)) (pv 2)))))), ?_⟩
  refine fun pj nj pk nk => ⟨(by decide : 4 ≤ sizeLine), fun pt nt => ⟨pt, _, rfl, SqT.of upd_same, rfl, _, _, rfl, _, _, rfl, _, _, rfl, _, _, rfl, rfl, ?_⟩⟩
  have njk : pk ≠ pj := fun z => by rw [z, upd_same] at nk; cases nk
  have nk : H pk = none := by rw [upd_ne njk] at nk; exact nk
  have ntk : pt ≠ pk := fun z => by rw [z, upd_same] at nt; cases nt
  have ntj : pt ≠ pj := fun z => by rw [upd_ne ntk, z, upd_same] at nt; cases nt
  have nt : H pt = none := by rw [upd_ne ntk, upd_ne ntj] at nt; exact nt
  have s0 : Same H (upd (upd (upd H pj (.dK [])) pk (.dK [])) pt (.tup [V.int 0, V.int 0, V.ref pj, V.ref pk])) := fun a o e => (upd_ne (ne_of_none e nt)).trans ((upd_ne (ne_of_none e nk)).trans ((upd_ne (ne_of_none e nj)).trans e))
  have j0 : upd (upd (upd H pj (.dK [])) pk (.dK [])) pt (.tup [V.int 0, V.int 0, V.ref pj, V.ref pk]) pj = some (.dK []) := by rw [upd_ne ntj.symm, upd_ne njk.symm, upd_same]
  have k0 : upd (upd (upd H pj (.dK [])) pk (.dK [])) pt (.tup [V.int 0, V.int 0, V.ref pj, V.ref pk]) pk = some (.dK []) := by rw [upd_ne ntk.symm, upd_same]
  generalize upd (upd (upd H pj (.dK [])) pk (.dK [])) pt (.tup [V.int 0, V.int 0, V.ref pj, V.ref pk]) = H0 at s0 j0 k0 ⊢
  obtain ⟨dx, tw, dd, fs, b1, b2, b3, b4, b5, b6⟩ := bk.ex
  refine ⟨_, rfl, b, C, dx, fs, _, rfl, s0 _ _ b1, bk.cl, bk.nW, b3, tw, rfl, ⟨_, SqT.of (s0 _ _ b5)⟩, for_it (walk_tup (xs := txs B)) (fun i σ H1 => Joins H b pj pk m (ends (B.take i)) σ H1) ?_ ?_ ?_ ?_⟩
  · exact ⟨[], Grown.nil _, Nat.zero_le _, fun y hy => absurd hy (by simp), s0, j0, k0, none, none, none, rfl⟩
  · rintro i σ H1 _ ⟨J, _, _, _, sm, _⟩
    exact SqT.of (sm _ _ b5)
  · rintro i y σ H1 H1' hi ⟨J, g, jl, jd, sm, hj, hk, a, c, d, rfl⟩ ⟨rfl, hy⟩
    have hi : i < B.length := by simpa using hi
    have hy : (B.map fun y => V.str (en y))[i]? = some y := hy
    rw [List.getElem?_map, List.getElem?_eq_getElem hi] at hy
    obtain rfl : V.str (en B[i]) = y := Option.some.inj hy
    have hx := hB B[i] (List.getElem_mem hi)
    have hxl := hlen B[i] (List.getElem_mem hi)
    have et : B.take (i + 1) = B.take i ++ [B[i]] := by rw [List.take_add_one, List.getElem?_eq_getElem hi]; rfl
    rw [et, ends_snoc]
    have hE0 : (ends (B.take i)).length + 2 ≤ 200 := by rw [ends_len, List.length_take]; omega
    generalize ends (B.take i) = E0 at g jl hE0 ⊢
    generalize B[i] = x at hx hxl
    refine ⟨_, rfl, _, rfl, x, rfl, by omega, (by decide : 2 ≤ sizeLine), fun pe ne => ⟨pe, rfl, ⟨_, SqT.of upd_same⟩, for_it (walk_tup (xs := txs [x, pull x])) (fun j σ H2 => Joins H b pj pk m (E0 ++ [x, pull x].take j) σ H2 ∧ H2 pe = some (.tup (txs [x, pull x]))) ?_ ?_ ?_ ?_⟩⟩
    · refine ⟨⟨J, by rw [List.take_zero, List.append_nil]; exact g, by simpa using jl, jd, fun b o e => (upd_ne (ne_of_none e (sm.free ne))).trans (sm b o e), ?_, ?_, some (.str (en x)), c, d, rfl⟩, upd_same⟩
      · rw [upd_ne (ne_of_none hj ne)]; exact hj
      · rw [upd_ne (ne_of_none hk ne)]; exact hk
    · rintro j σ H2 _ ⟨_, h⟩
      exact SqT.of h
    · rintro j y σ H2 H2' hj2 ⟨⟨J, g, jl, jd, sm, hj, hk, a, c, d, rfl⟩, hpe⟩ ⟨rfl, hy⟩
      have hj2 : j < [x, pull x].length := by simpa using hj2
      have hy : ([x, pull x].map fun y => V.str (en y))[j]? = some y := hy
      rw [List.getElem?_map, List.getElem?_eq_getElem hj2] at hy
      obtain rfl : V.str (en ([x, pull x])[j]) = y := Option.some.inj hy
      have et : [x, pull x].take (j + 1) = [x, pull x].take j ++ [([x, pull x])[j]] := by rw [List.take_add_one, List.getElem?_eq_getElem hj2]; rfl
      have hz : Dyck ([x, pull x])[j] ∧ ([x, pull x])[j].length = 2 * m := by
        rcases (by simp at hj2; omega : j = 0 ∨ j = 1) with rfl | rfl
        · exact ⟨hx.1, hxl⟩
        · exact ⟨hx.1.pull hx.2, (pull_len hx.2).trans hxl⟩
      rw [et, ← List.append_assoc]
      have hl2 : (E0 ++ [x, pull x].take j).length ≤ 200 := by rw [List.length_append, List.length_take]; simp at hj2 ⊢; omega
      generalize E0 ++ [x, pull x].take j = E1 at g jl hl2 ⊢
      generalize ([x, pull x])[j] = e at hz
      refine ⟨_, rfl, _, rfl, pj, _, rfl, DGet.k (k := Sum.inr (en e)) hj, _, rfl, ?_⟩
      rw [val_tks]
      by_cases he : e ∈ J
      · rw [decide_eq_true he]
        exact iteF ⟨⟨J, g.old he, by simp; omega, jd, sm, hj, hk, a, some (.str (en e)), d, rfl⟩, hpe⟩
      · rw [decide_eq_false he]
        have ne0 : e ≠ [] := fun z => by have := hz.2; rw [z] at this; simp at this; omega
        refine iteT ⟨_, rfl, _, _, rfl, rfl, _, rfl, .inr (.inr (.inl ⟨rfl, .inl ⟨_, hj⟩⟩)), _, rfl, e, hz.1, ne0, rfl, by omega, fun n L H3 n0 hn hper hmin s3 nL hL => ?_⟩
        obtain ⟨g2, c2⟩ := g.new (per_pi bk_nil) he n0 (by rw [it_pi_nil hz.1]; exact hper) (fun q q0 hq => by rw [it_pi_nil hz.1]; exact hmin q q0 hq)
        rw [← orb_pi_nil hz.1] at hL
        have dl : ∀ y ∈ J ++ orb (pi []) n e, Dyck y ∧ y.length = 2 * m := fun y hy => by
          rcases List.mem_append.mp hy with hy | hy
          · exact jd y hy
          · obtain ⟨k, _, rfl⟩ := List.mem_map.mp hy
            exact ⟨pi_it_dyck bk_nil hz.1 k, (pi_it_len bk_nil e k).trans hz.2⟩
        refine ⟨L, rfl, ⟨_, SqL.of hL⟩, fun D nD => dc_words (l := orb (pi []) n e) walk_list (fun H' s => SqL.of (s _ _ hL)) (List.nodup_append.mp g2.nd).2.1 (by rw [orb_len]; omega) nD (fun _ => rfl) (fun _ => rfl) fun H4 s4 hD => ?_⟩
        have s24 : Same H2' H4 := s3.trans s4
        have neD : pj ≠ D := ne_of_none (s3 _ _ hj) nD
        refine ⟨pj, D, tks J, tks (orb (pi []) n e), rfl, rfl, neD, s24 _ _ hj, hD, ?_, ?_⟩
        · simp [orb_len]; exact szle (by omega)
        rw [merge_new g2.nd]
        refine ⟨⟨J ++ orb (pi []) n e, g2, by simp [orb_len]; omega, dl, fun b o e => (upd_ne (ne_of_none e nj)).trans (s24 b o (sm b o e)), upd_same, ?_, a, some (.str (en e)), d, ?_⟩, ?_⟩
        · rw [upd_ne njk]; exact s24 _ _ hk
        · rw [c2]; rfl
        · rw [upd_ne (ne_of hpe hj (fun z => nomatch z))]; exact s24 _ _ hpe
    · rintro σ H2 ⟨h, _⟩
      exact h
  · rintro σ H1 ⟨J, g, jl, jd, sm, hj, hk, a, c, d, rfl⟩
    rw [show (txs B).length = B.length by simp, List.take_length] at g jl
    rw [ends_len] at jl
    have hin := grown_inj g
    have hcl : ∀ x ∈ J, ∀ y, O (pi B) x y → y ∈ J := fun x hx y o => (hin y).mpr (((hin x).mp hx).orb hB o)
    have hzz := zz_joined hB hlen g.nd hin fun x hx => (jd x hx).2
    refine ⟨pj, .dK (tks J), hj, trivial, fun od => ⟨_, rfl, pj, od, rfl, .inl ⟨tks J, upd_same, for_it walk_keys (fun i σ H2 => Knows H Pt b pj pk od B J i σ H2) ?_ ?_ ?_ ?_⟩⟩⟩
    · refine ⟨[], by rw [List.take_zero]; exact Grown.nil _, (Xt.same sm).put nj, ?_, upd_same, ?_, a, c, d, ?_⟩
      · exact tabS_put (hT.ext sm) hj (fun _ z => nomatch z) (fun c => code_ne J c _)
      · rw [upd_ne njk]; exact hk
      · rfl
    · rintro i σ H2 _ ⟨L, _, _, _, h, _⟩
      exact h
    · rintro i y σ H2 H2' hi ⟨L, g2, xt, tt, hj, hk, a, c, d, rfl⟩ ⟨rfl, k, v, hy, rfl⟩
      have hi : i < J.length := by simpa using hi
      rw [List.getElem?_map, List.getElem?_eq_getElem hi] at hy
      have hy := Option.some.inj hy
      obtain rfl : Sum.inr (en J[i]) = k := congrArg Prod.fst hy
      have et : J.take (i + 1) = J.take i ++ [J[i]] := by rw [List.take_add_one, List.getElem?_eq_getElem hi]; rfl
      have hJi : J[i] ∈ J := List.getElem_mem hi
      have hLJ : ∀ y ∈ L, y ∈ J := fun y hy => by
        obtain ⟨e, he, o⟩ := (g2.mem y).mp hy
        exact hcl e (List.mem_of_mem_take he) y o
      unfold Knows
      rw [et]
      generalize J.take i = E1 at g2 ⊢
      generalize J[i] = e at hJi
      refine ⟨_, rfl, _, rfl, pk, _, rfl, DGet.k (k := Sum.inr (en e)) hk, _, rfl, ?_⟩
      rw [val_tks]
      by_cases he : e ∈ L
      · rw [decide_eq_true he]
        exact iteF ⟨L, g2.old he, xt, tt, hj, hk, some (.str (en e)), c, d, rfl⟩
      · rw [decide_eq_false he]
        have hz := jd e hJi
        have ne0 : e ≠ [] := fun z => by have := hz.2; rw [z] at this; simp at this; omega
        obtain ⟨n, n0, hn, hper, hmin⟩ := per_in (f := pi B) (S := J) (fun x hx => hcl x hx _ (O.step _ x)) (fun x _ y _ h => pi_inj hB h) hJi
        refine iteT ⟨_, rfl, _, _, rfl, rfl, _, rfl, .inr (.inr (.inl ⟨rfl, .inl ⟨_, hk⟩⟩)), _, rfl, _, rfl, b, e, m, B, n, rfl, bk.ext xt.keep, hB, hz.1, ne0, by omega, tt, ⟨n0, by omega, hper, hmin⟩, fun L2 H3 x3 t3 nL hL => ?_⟩
        obtain ⟨g3, c3⟩ := g2.new (per_pi hB) he n0 hper hmin
        have hLJ2 : ∀ y ∈ L ++ orb (pi B) n e, y ∈ J := fun y hy => by
          rcases List.mem_append.mp hy with hy | hy
          · exact hLJ y hy
          · exact hcl e hJi y ((orb_mem n0 hper).mp hy)
        have hLl := nodup_le g3.nd hLJ2
        rw [List.length_append, orb_len] at hLl
        have hj3 := x3.keep _ _ hj (fun _ z => nomatch z)
        have hk3 := x3.keep _ _ hk (fun _ z => nomatch z)
        refine ⟨L2, rfl, ⟨_, SqL.of hL⟩, fun D nD => dc_words (l := orb (pi B) n e) walk_list (fun H' s => SqL.of (s _ _ hL)) (List.nodup_append.mp g3.nd).2.1 (by rw [orb_len]; omega) nD (fun _ => rfl) (fun _ => rfl) fun H4 s4 hD => ?_⟩
        have neD : pk ≠ D := ne_of_none hk3 nD
        refine ⟨pk, D, tks L, tks (orb (pi B) n e), rfl, rfl, neD, s4 _ _ hk3, hD, ?_, ?_⟩
        · simp [orb_len]; exact szle (by omega)
        rw [merge_new g3.nd]
        refine ⟨L ++ orb (pi B) n e, g3, (xt.trans (x3.trans (Xt.same s4))).put nk, tabS_put (t3.ext s4) (s4 _ _ hk3) (fun _ z => nomatch z) (fun c => code_ne L c _), ?_, upd_same, some (.str (en e)), c, d, ?_⟩
        · rw [upd_ne njk.symm]; exact s4 _ _ hj3
        · rw [c3]; rfl
    · rintro σ H2 ⟨L, g2, xt, tt, hj, hk, a, c, d, rfl⟩
      rw [show (tks J).length = J.length by simp, List.take_length] at g2
      have hcc := grown_all (per_pi hB) g.nd hcl g2
      have xt2 : Xt H (upd H2 pj (.dK (tks J))) := xt.put nj
      have tt2 : LamX.TabS (upd H2 pj (.dK (tks J))) Pt LmS.qual := tabS_put tt hj (fun _ z => nomatch z) (fun c z => by unfold LamX.CodeO at z; cases z)
      refine ⟨hj, _, rfl, b, C, dx, fs, _, rfl, xt2.keep _ _ b1 (fun _ z => nomatch z), bk.cl, bk.nP, b2, m, rfl, hm2, by omega, fun H3 s3 => ?_⟩
      refine ⟨_, rfl, _, _, rfl, rfl, _, rfl, _, _, rfl, rfl, ?_⟩
      have e : treesI m - ((cls (O (pi [])) J : Nat) : Int) + ((cls (O (pi B)) L : Nat) : Int) = rounds (treesI m) (2 * m) B := by
        unfold rounds
        rw [hcc]
        omega
      have q := q H3 (xt2.trans (Xt.same s3)) (tt2.ext s3)
      rw [← e] at q
      exact q
end
end Eh

set_option maxHeartbeats 4000000
/-! Walks: words that are checked, the book, how_many_rounds. -/
namespace Eh
open PySem PySem.Spec PyProof.Rows L2
section
variable {P : Program} {w : World} {K : PySem.W.Frag} {mg : Str → Option Value} {base : Heap} {C : Addr}
theorem yes_if {σ : L2.St} {H : Hp} {A B : Hp → Prop} (h : A H) : tYes σ H (fun b H' => if b = true then A H' else B H') := by
  show (if true = true then A H else B H)
  rw [if_pos rfl]
  exact h
/-! ### is_signs, is_word, is_pull -/
theorem in_signs (b : Bool) : decide (sg b ∈ ("01" : Str).cps.toList) = true := by cases b <;> decide +kernel
def spSigns : Sp := fun vs H Q _ => ∃ x : Wd, vs = [.str (en x)] ∧ x.length ≤ 1000 ∧ ∀ H', Same H H' → Q (.bl true) H'
theorem sc10 : FnScope ["value", "sign"] ["value"] (C8.fnScope (top 10)) := C8.fnScope_by (by decide +kernel)
theorem ok_signs (D : Dd K mg "is_signs" (top 10) ["value"]) (T : Tx mg) : Cl P w K mg base 1 "is_signs" spSigns := by
  refine D.cal sc10 (fun vs H Q E ⟨x, e, _⟩ => by rw [e]; rfl) fun f cdv A outer s H vs Q E hr h => ?_
  obtain ⟨x, rfl, hl, q⟩ := h
  refine ⟨_, pss_one (ps_ret (pe_and (pe_callB call_isi (by rfl) T.isi (by decide +kernel) (pa_cons (pv 0) (pa_cons (pe_bltn (v := .ty "str") (by rfl) T.str (by decide +kernel) rfl) pa_nil)))
    (pe_one (pe_callB (cr_all rfl) (by rfl) T.all (by decide +kernel) (pa_cons (pe_lc (own := [("sign", 1)]) (g := gName 1) (tt := tYes) rfl sc10.nd (pi_str (pv 0))
      (blkOk_by (N := ["value", "sign"]) (sc := C8.fnScope (top 10)) (by decide +kernel)) (fun _ _ _ _ _ => pg_name (i := 1) sc10.nd rfl (Or.inl rfl)) (fun _ _ _ _ _ => pts_nil)
      (fun _ _ _ _ _ => pe_cmpR op_in_sign (pv 1) (C8.pe_gc rfl T.si) rfl)) pa_nil))))), ?_⟩
  refine ⟨_, rfl, _, _, _, _, true, rfl, .ty "str", .base (TyOf.str (en x)), kit_ty (by decide +kernel), true, rfl, iteT ?_⟩
  refine ⟨_, rfl, _, rfl, fun L nL => lc_it walk_str (fun i H1 => Same H H1 ∧ H1 L = some (.lst (List.replicate i (V.bl true)))) ⟨fun b o e => (upd_ne (ne_of_none e nL)).trans e, upd_same⟩ (fun _ _ _ _ => trivial) ?_ ?_⟩
  · rintro i y H1 H2 hi ⟨sm, hL⟩ ⟨rfl, c, hc, rfl⟩
    rw [en_size] at hi
    rw [en_at, List.getElem?_eq_getElem hi] at hc
    obtain rfl : sg x[i] = c := Option.some.inj hc
    refine ⟨rfl, yes_if ⟨_, rfl, _, _, rfl, rfl, ?_⟩⟩
    rw [in_signs]
    refine ⟨_, hL, by rw [List.length_replicate]; exact szlt (by omega), fun b o e => (upd_ne (ne_of_none e nL)).trans (sm b o e), ?_⟩
    rw [upd_same, List.replicate_succ']
  · rintro H1 ⟨sm, hL⟩
    refine ⟨L, List.replicate (en x).cps.size true, rfl, ?_, ?_⟩
    · rw [List.map_replicate]; exact SqL.of hL
    · rw [show (List.replicate (en x).cps.size true).all id = true by rw [List.all_replicate]; simp]
      exact q H1 sm
def spWord : Sp := fun vs H Q _ => ∃ x : Wd, vs = [.str (en x)] ∧ Dyck x ∧ 2 ≤ x.length ∧ x.length ≤ 400 ∧ ∀ H', Same H H' → Q (.bl true) H'
theorem sc14 : FnScope ["value", "deep", "sign"] ["value"] (C8.fnScope (top 14)) := C8.fnScope_by (by decide +kernel)
theorem ok_word (D : Dd K mg "is_word" (top 14) ["value"]) (T : Tx mg) (c : Cl P w K mg base 1 "is_signs" spSigns) : Cl P w K mg base 2 "is_word" spWord := by
  refine D.cal sc14 (fun vs H Q E ⟨x, e, _⟩ => by rw [e]; rfl) fun f cdv A outer s H vs Q E hr h => ?_
  obtain ⟨x, rfl, hx, hl1, hl, q⟩ := h
  refine ⟨_, pss_cons (ps_if (PW.pt (pw_or (pt_not (pt_val (C8.pe_c c hr (by decide) rfl (pa_cons (pv 0) pa_nil)))) (pw_or1 (pt_not (pt_chain op_le op_le pe_int (pe_callB call_len_str (by rfl) T.len PySem.boot_len (pa_cons (pv 0) pa_nil)) (pe_op op_mul pe_int (C8.pe_gc rfl T.mw))))))) (pss_one (ps_ret pe_bl)) pss_nil)
    (pss_cons (ps_set (i := 1) sc14.nd rfl (Or.inl rfl) pe_int)
    (pss_cons (ps_for PassesOwn.never rfl (pi_str (pv 0)) (pg_name (i := 2) sc14.nd rfl (Or.inl rfl))
      (pss_cons (ps_set (i := 1) sc14.nd rfl (Or.inl rfl) (pe_ifExp (pt_cmpR op_eq (pv 2) pe_str (nomark _)) (pe_op op_add (pv 1) pe_int) (pe_op op_sub (pv 1) pe_int)))
      (pss_one (ps_if (pt_cmpR op_lt (pv 1) pe_int (nomark _)) (pss_one (ps_ret pe_bl)) pss_nil))))
    (pss_one (ps_ret (pe_cmpR op_eq (pv 1) pe_int (nomark _)))))), ?_⟩
  have hs : (en x).length ≤ sizeLine := by rw [en_len]; exact szle (by omega)
  refine ⟨_, rfl, x, rfl, by omega, fun H1 s1 => ⟨true, rfl, iteF ?_⟩⟩
  refine ⟨_, rfl, _, rfl, hs, _, _, rfl, rfl, true, ?_, ?_⟩
  · rw [en_len]
    show V.bl (decide ((2 : Int) ≤ (x.length : Nat))) = V.bl true
    rw [decide_eq_true (by omega)]
  refine iteT ⟨_, _, rfl, rfl, .inl ⟨by omega, by omega⟩, _, _, rfl, rfl, true, ?_, iteF ⟨_, rfl, ?_⟩⟩
  · rw [en_len]
    show V.bl (decide (((x.length : Nat) : Int) ≤ 2 * 200)) = V.bl true
    rw [decide_eq_true (by omega)]
  refine ⟨_, rfl, for_it walk_str (fun i σ H2 => Same H H2 ∧ ∃ a, σ = [some (.str (en x)), some (.int (ht (x.take i))), a]) ⟨s1, none, rfl⟩ (fun _ _ _ _ _ => trivial) ?_ ?_⟩
  · rintro i y σ H2 H3 hi ⟨sm, a, rfl⟩ ⟨rfl, c, hc, rfl⟩
    rw [en_size] at hi
    rw [en_at, List.getElem?_eq_getElem hi] at hc
    obtain rfl : sg x[i] = c := Option.some.inj hc
    have hxi : x[i]? = some x[i] := List.getElem?_eq_getElem hi
    generalize x[i] = c at hxi
    have hd := ht_one x i c hxi
    have h0 := hx.htLe (i + 1)
    have deep : ∀ {Q : V → Hp → Prop} {H2 : Hp}, Q (.int (ht (x.take (i + 1)))) H2 → tIf (tTest (tOp rEq (tVar 2) (tC (.str "1")))) (tOp (rI0 fun i j => .int (i + j)) (tVar 1) (tC (.int 1))) (tOp (rI0 fun i j => .int (i - j)) (tVar 1) (tC (.int 1)))
        [some (.str (en x)), some (.int (ht (x.take i))), some (.str ⟨#[sg c]⟩)] H2 Q := fun {Q H2} q => by
      refine ⟨_, rfl, rfl, _, rfl, ?_⟩
      rw [dec_sign]
      cases c
      · exact iteF ⟨_, rfl, _, _, rfl, rfl, by rw [hd] at q; exact q⟩
      · exact iteT ⟨_, rfl, _, _, rfl, rfl, by rw [hd] at q; exact q⟩
    refine deep ⟨_, rfl, _, _, rfl, rfl, _, rfl, ?_⟩
    rw [decide_eq_false (by omega)]
    exact iteF ⟨sm, _, rfl⟩
  · rintro σ H2 ⟨sm, a, rfl⟩
    rw [en_size, List.take_length, hx.ht0]
    exact ⟨_, rfl, rfl, q H2 sm⟩
def spIsPull : Sp := fun vs H Q _ => ∃ (x : Wd) (m : Nat), vs = [.str (en x), .int (m : Int)] ∧ Dyck x ∧ canPull x = true ∧ x.length = 2 * m ∧ 2 ≤ m ∧ m ≤ 50 ∧ ∀ H', Same H H' → Q (.bl true) H'
theorem sc50 : FnScope ["value", "pairs"] ["value", "pairs"] (C8.fnScope (top 50)) := C8.fnScope_by (by decide +kernel)
theorem ok_isPull (D : Dd K mg "is_pull" (top 50) ["value", "pairs"]) (T : Tx mg) (c1 : Cl P w K mg base 2 "is_word" spWord) (c2 : Cl P w K mg base 1 "can_pull_in" spCan) : Cl P w K mg base 3 "is_pull" spIsPull := by
  have c2 := c2.mono (by decide : 1 ≤ 2)
  refine D.cal sc50 (fun vs H Q E ⟨x, m, e, _⟩ => by rw [e]; rfl) fun f cdv A outer s H vs Q E hr h => ?_
  obtain ⟨x, m, rfl, hx, hc, hl, h1, h2, q⟩ := h
  refine ⟨_, pss_one (ps_ret (pe_and (C8.pe_c c1 hr (by decide) rfl (pa_cons (pv 0) pa_nil)) (pe_and (pe_cmpR op_eq (pe_callB call_len_str (by rfl) T.len PySem.boot_len (pa_cons (pv 0) pa_nil)) (pe_op op_mul pe_int (pv 1)) (nomark _))
    (pe_one (C8.pe_c c2 hr (by decide) rfl (pa_cons (pv 0) pa_nil)))))), ?_⟩
  have hs : (en x).length ≤ sizeLine := by rw [en_len]; exact szle (by omega)
  refine ⟨_, rfl, x, rfl, hx, by omega, by omega, fun H1 s1 => ⟨true, rfl, iteT ?_⟩⟩
  refine ⟨_, rfl, _, rfl, hs, _, rfl, _, _, rfl, rfl, .inl ⟨by omega, by omega⟩, rfl, ?_⟩
  have e : decide (V.int (((en x).length : Nat) : Int) = (fun i j => V.int (i * j)) 2 (m : Int)) = true := by
    show decide (V.int (((en x).length : Nat) : Int) = V.int (2 * (m : Int))) = true
    rw [en_len, hl]; exact decide_eq_true (by rw [show ((2 * m : Nat) : Int) = 2 * (m : Int) by omega])
  refine ⟨true, by rw [← e], iteT ⟨_, rfl, x, rfl, ?_⟩⟩
  rw [hc]
  exact q H1 s1
/-! ### are_pulls -/
/-- the words of a book of m pairs -/
structure Fit (m : Nat) (B : List Wd) : Prop where
  bk : Bk B
  nd : B.Nodup
  len : ∀ x ∈ B, x.length = 2 * m
  few : B.length ≤ 60
  lo : 2 ≤ m
  hi : m ≤ 50
theorem Fit.perm {m : Nat} {B B' : List Wd} (h : Fit m B) (p : B'.Perm B) : Fit m B' :=
  ⟨fun x hx => h.bk x (p.mem_iff.mp hx), p.nodup_iff.mpr h.nd, fun x hx => h.len x (p.mem_iff.mp hx), by rw [p.length_eq]; exact h.few, h.lo, h.hi⟩
theorem txs_eq (l : List Wd) : txs l = (l.map en).map V.str := by simp
theorem nodup_en {l : List Wd} (h : l.Nodup) : (l.map en).Nodup := by
  rw [List.Nodup, List.pairwise_map]
  exact h.imp fun ne z => ne (en_inj z)
def spPulls : Sp := fun vs H Q _ => ∃ (l : Addr) (m : Nat) (B : List Wd), vs = [.ref l, .int (m : Int)] ∧ H l = some (.lst (txs B)) ∧ Fit m B ∧ ∀ H', Same H H' → Q (.bl true) H'
theorem sc51 : FnScope ["value", "pairs", "word"] ["value", "pairs"] (C8.fnScope (top 51)) := C8.fnScope_by (by decide +kernel)
theorem ok_pulls (D : Dd K mg "are_pulls" (top 51) ["value", "pairs"]) (T : Tx mg) (c : Cl P w K mg base 3 "is_pull" spIsPull) : Cl P w K mg base 4 "are_pulls" spPulls := by
  refine D.cal sc51 (fun vs H Q E ⟨l, m, B, e, _⟩ => by rw [e]; rfl) fun f cdv A outer s H vs Q E hr h => ?_
  obtain ⟨l, m, B, rfl, hl, hB, q⟩ := h
  refine ⟨_, pss_cons (ps_if (PW.pt (pw_or (pt_not (pt_val (pe_callB call_isiT (by rfl) T.isi (by decide +kernel) (pa_cons (pv 0) (pa_cons (pe_tup (pa_cons (pe_bltn (v := .ty "list") (by rfl) T.list (by decide +kernel) rfl) (pa_cons (pe_bltn (v := .ty "tuple") (by rfl) T.tuple (by decide +kernel) rfl) pa_nil))) pa_nil)))))
      (pw_or1 (pt_cmpR op_gt (pe_callB call_len_seq (by rfl) T.len PySem.boot_len (pa_cons (pv 0) pa_nil)) (C8.pe_gc rfl T.mo) (nomark _))))) (pss_one (ps_ret pe_bl)) pss_nil)
    (pss_cons (ps_if (pt_not (pt_val (pe_callB (cr_all rfl) (by rfl) T.all (by decide +kernel) (pa_cons (pe_lc (own := [("word", 2)]) (g := gName 2) (tt := tYes) rfl sc51.nd (pi_list (pv 0))
      (blkOk_by (N := ["value", "pairs", "word"]) (sc := C8.fnScope (top 51)) (by decide +kernel)) (fun _ _ _ _ _ => pg_name (i := 2) sc51.nd rfl (Or.inl rfl)) (fun _ _ _ _ _ => pts_nil)
      (fun _ _ _ _ _ => C8.pe_c c hr (by decide) rfl (pa_cons (pv 2) (pa_cons (pv 1) pa_nil)))) pa_nil)))) (pss_one (ps_ret pe_bl)) pss_nil)
    (pss_one (ps_ret (pe_cmpR op_eq (pe_callB call_lenT (by rfl) T.len PySem.boot_len (pa_cons (pe_callTy (cr_setT rfl) (by rfl) T.set (by decide +kernel) (pa_cons (pv 0) pa_nil)) pa_nil)) (pe_callB call_len_seq (by rfl) T.len PySem.boot_len (pa_cons (pv 0) pa_nil)) (nomark _))))), ?_⟩
  have hfew := hB.few
  refine ⟨_, rfl, by decide, fun t nt => ⟨_, t, _, .type "list", [.type "list", .type "tuple"], true, rfl, upd_same, .cons (.ty "list") (.cons (.ty "tuple") .nil), .base (TyOf.lst ((upd_ne (ne_of_none hl nt)).trans hl)),
    kitAny_cons (b := true) (kit_ty (by decide +kernel)) (fun z => nomatch z) (fun _ => rfl), true, rfl, iteF ?_⟩⟩
  have s1 : Same H (upd H t (.tup [V.ty "list", V.ty "tuple"])) := fun b o e => (upd_ne (ne_of_none e nt)).trans e
  generalize upd H t (.tup [V.ty "list", V.ty "tuple"]) = H1 at s1 ⊢
  refine ⟨_, rfl, l, _, rfl, .inl (SqL.of (s1 _ _ hl)), _, _, rfl, rfl, _, rfl, ?_⟩
  rw [List.length_map, decide_eq_false (by omega)]
  refine iteF ⟨_, rfl, l, rfl, ⟨_, SqL.of (s1 _ _ hl)⟩, fun L nL => lc_it (walk_list (xs := txs B)) (fun i H2 => Same H1 H2 ∧ H2 L = some (.lst (List.replicate i (V.bl true)))) ⟨fun b o e => (upd_ne (ne_of_none e nL)).trans e, upd_same⟩ (fun i H2 _ h => SqL.of (h.1 _ _ (s1 _ _ hl))) ?_ ?_⟩
  · rintro i y H2 H2' hi ⟨sm, hL⟩ ⟨rfl, hy⟩
    have hi : i < B.length := by simpa using hi
    have hy : (B.map fun y => V.str (en y))[i]? = some y := hy
    rw [List.getElem?_map, List.getElem?_eq_getElem hi] at hy
    obtain rfl : V.str (en B[i]) = y := Option.some.inj hy
    have hm : B[i] ∈ B := List.getElem_mem hi
    refine ⟨rfl, yes_if ⟨_, rfl, _, rfl, B[i], m, rfl, (hB.bk _ hm).1, (hB.bk _ hm).2, hB.len _ hm, hB.lo, hB.hi, fun H3 s3 => ?_⟩⟩
    refine ⟨_, s3 _ _ hL, by rw [List.length_replicate]; exact szlt (by omega), fun b o e => (upd_ne (ne_of_none e nL)).trans (s3 b o (sm b o e)), ?_⟩
    rw [upd_same, List.replicate_succ']
  · rintro H2 ⟨sm, hL⟩
    refine ⟨L, List.replicate (txs B).length true, rfl, by rw [List.map_replicate]; exact SqL.of hL, ?_⟩
    rw [show (List.replicate (txs B).length true).all id = true by rw [List.all_replicate]; simp]
    refine ⟨true, rfl, iteF ?_⟩
    have hl2 := sm _ _ (s1 _ _ hl)
    refine ⟨_, rfl, l, B.map en, rfl, by rw [← txs_eq]; exact SqL.of hl2, nodup_en hB.nd, by simp; omega, fun p np => ?_⟩
    refine ⟨p, B.map en, rfl, upd_same, by simp; omega, _, rfl, l, _, rfl, .inl (SqL.of ((upd_ne (ne_of_none hl2 np)).trans hl2)), rfl, ?_⟩
    rw [List.length_map, List.length_map, decide_eq_true rfl]
    exact q _ (s1.trans (sm.trans fun b o e => (upd_ne (ne_of_none e np)).trans e))
/-! ### the book -/
/-- a class whose __init__ is this def -/
structure DdC (K : PySem.W.Frag) (mg : Str → Option Value) (x : Str) (C : Addr) (qual : Str) (st : Stmt) (ps : List Str) : Prop where
  ex : ∃ (f : Addr) (fd : FuncData), Mk K C f ∧ mg x = some (.ref C) ∧ C8.Fun K "__init__" qual st f fd ∧ Binds K fd ps []
/-- what the walks ask of the class of books -/
structure BkC (K : PySem.W.Frag) (C : Addr) : Prop where
  ins : C8.InsC K C
  nP : NoAttr K C "pairs"
  nW : NoAttr K C "words"
  nS : NoAttr K C "sewn"
def spInit (K : PySem.W.Frag) (C : Addr) : Sp := fun vs H Q _ => ∃ (x dx l : Addr) (m : Nat) (B : List Wd), vs = [.ref x, .int (m : Int), .ref l] ∧ H x = some (.ins C dx []) ∧ H l = some (.lst (txs B)) ∧ Fit m B ∧
  ∀ (H' : Hp) (B' : List Wd), (∀ b o, b ≠ x → H b = some o → H' b = some o) → B'.Perm B → BookAt K C H' x m B' → Q .non H'
theorem sc52 : FnScope ["self", "pairs", "words", "word"] ["self", "pairs", "words"] (C8.fnScope (inClass (top 52) 0)) := C8.fnScope_by (by decide +kernel)
theorem perm_en {ys : List Str} {B : List Wd} (p : ys.Perm (B.map en)) : ∃ B' : List Wd, B'.Perm B ∧ ys = B'.map en := by
  have key : ∀ {ys zs : List Str}, ys.Perm zs → ∀ B : List Wd, zs = B.map en → ∃ B' : List Wd, B'.Perm B ∧ ys = B'.map en := by
    intro ys zs p
    induction p with
    | nil => intro B h; exact ⟨B, .refl _, h⟩
    | @cons a l l' _ ih =>
      intro B h
      cases B with
      | nil => cases h
      | cons x B =>
        injection h with h1 h2
        obtain ⟨B', p', e'⟩ := ih B h2
        exact ⟨x :: B', p'.cons x, by rw [h1, e']; rfl⟩
    | swap a b l =>
      intro B h
      match B, h with
      | x :: y :: B, h =>
        injection h with h1 h
        injection h with h2 h
        exact ⟨y :: x :: B, .swap x y B, by rw [h1, h2, h]; rfl⟩
    | trans _ _ ih1 ih2 =>
      intro B h
      obtain ⟨B1, p1, e1⟩ := ih2 B h
      obtain ⟨B2, p2, e2⟩ := ih1 B1 e1
      exact ⟨B2, p2.trans p1, e2⟩
  exact key p B rfl
theorem ok_book (D : DdC K mg "Book" C "Book.__init__" (inClass (top 52) 0) ["self", "pairs", "words"]) (T : Tx mg) (O : BkC K C) (c1 : Cl P w K mg base 2 "is_within" spWithin) (c2 : Cl P w K mg base 4 "are_pulls" spPulls) :
    C8.Mak P w K mg base 5 "Book" C (spInit K C) [] := by
  have c1 := c1.mono (by decide : 2 ≤ 4)
  obtain ⟨f, fd, M, hm, F, b⟩ := D.ex
  refine C8.mak0 M hm F b .nil sc52 (fun vs H Q E ⟨x, dx, l, m, B, e, _⟩ => by rw [e]; rfl) fun cdv A outer s H vs Q E hr h => ?_
  obtain ⟨x, dx, l, m, B, rfl, hx, hl, hB, q⟩ := h
  refine ⟨_, pss_cons (ps_if (pt_not (pt_val (C8.pe_c c1 hr (by decide) rfl (pa_cons (pv 1) (pa_cons (C8.pe_gc rfl T.lp) (pa_cons (C8.pe_gc rfl T.mb) pa_nil)))))) (pss_one ps_never) pss_nil)
    (pss_cons (ps_if (pt_not (pt_val (C8.pe_c c2 hr (by decide) rfl (pa_cons (pv 2) (pa_cons (pv 1) pa_nil))))) (pss_one ps_never) pss_nil)
    (pss_cons (ps_fld (pv 0) (pv 1) rfl)
    (pss_cons (ps_fld (pv 0) (pe_tupleOf rfl T.tuple (pe_callB cr_sortedS (by rfl) T.sorted (by decide +kernel) (pa_cons (pv 2) pa_nil))) rfl)
    (pss_one (ps_fld (pv 0) (pe_dc (own := [("word", 3)]) (g := gName 3) (tt := tYes) rfl sc52.nd (pi_tup (pe_fld (pv 0) rfl)) (blkOk_by (N := ["self", "pairs", "words", "word"]) (sc := C8.fnScope (inClass (top 52) 0)) (by decide +kernel)) (fun _ _ _ _ _ => pg_name (i := 3) sc52.nd rfl (Or.inl rfl))
      (fun _ _ _ _ _ => pts_nil) (fun _ _ _ _ _ => pv 3) (fun _ _ _ _ _ => pe_bl)) rfl))))), ?_⟩
  have hfew := hB.few
  have hlo := hB.lo
  have hhi := hB.hi
  refine ⟨_, rfl, (m : Int), 2, 60, rfl, by omega, by omega, true, rfl, iteF ?_⟩
  refine ⟨_, rfl, _, rfl, l, m, B, rfl, hl, hB, fun H1 s1 => ⟨true, rfl, iteF ?_⟩⟩
  refine ⟨_, rfl, _, rfl, x, C, dx, _, rfl, s1 _ _ hx, O.ins.cl, O.nP, by decide, ?_⟩
  have nxl : l ≠ x := ne_of hl hx (fun z => nomatch z)
  refine ⟨_, rfl, l, B.map en, rfl, by rw [← txs_eq]; exact SqL.of ((upd_ne nxl).trans (s1 _ _ hl)), by simp; omega, fun ys p hp _ np => ?_⟩
  obtain ⟨B', pB, rfl⟩ := perm_en hp
  rw [← txs_eq]
  refine .inl ⟨p, txs B', rfl, SqL.of upd_same, fun t nt => ?_⟩
  have h1x := s1 _ _ hx
  have npx : x ≠ p := fun z => by rw [← z, upd_same] at np; cases np
  have ntp : p ≠ t := fun z => by rw [← z, upd_same] at nt; cases nt
  have ntx : x ≠ t := fun z => by rw [← z, upd_ne npx, upd_same] at nt; cases nt
  refine ⟨_, rfl, x, C, dx, putF "pairs" (.int (m : Int)) [], rfl, by rw [upd_ne ntx, upd_ne npx, upd_same], O.ins.cl, O.nW, (by decide : 1 < 1000), ?_⟩
  have kp : ∀ b o, b ≠ x → H b = some o → upd (upd (upd (upd H1 x (.ins C dx (putF "pairs" (.int (m : Int)) []))) p (.lst (txs B'))) t (.tup (txs B'))) x (.ins C dx (putF "words" (.ref t) (putF "pairs" (.int (m : Int)) []))) b = some o := fun b o hb e => by
    have e1 := s1 b o e
    have e2 : upd H1 x (.ins C dx (putF "pairs" (.int (m : Int)) [])) b = some o := (upd_ne hb).trans e1
    have e3 : upd (upd H1 x (.ins C dx (putF "pairs" (.int (m : Int)) []))) p (.lst (txs B')) b = some o := (upd_ne (ne_of_none e2 np)).trans e2
    rw [upd_ne hb, upd_ne (ne_of_none e3 nt)]
    exact e3
  have ht : upd (upd (upd (upd H1 x (.ins C dx (putF "pairs" (.int (m : Int)) []))) p (.lst (txs B'))) t (.tup (txs B'))) x (.ins C dx (putF "words" (.ref t) (putF "pairs" (.int (m : Int)) []))) t = some (.tup (txs B')) := by
    rw [upd_ne ntx.symm, upd_same]
  have h4 : upd (upd (upd (upd H1 x (.ins C dx (putF "pairs" (.int (m : Int)) []))) p (.lst (txs B'))) t (.tup (txs B'))) x (.ins C dx (putF "words" (.ref t) (putF "pairs" (.int (m : Int)) []))) x = some (.ins C dx (putF "words" (.ref t) (putF "pairs" (.int (m : Int)) []))) := upd_same
  refine ⟨_, rfl, x, C, dx, _, _, rfl, h4, O.ins.cl, O.nW, rfl, t, rfl, ⟨_, SqT.of ht⟩, fun D nD => ?_⟩
  refine dc_words (l := B') walk_tup (fun H' s => SqT.of (s _ _ ht)) (pB.nodup_iff.mpr hB.nd) (by rw [pB.length_eq]; omega) nD (fun _ => rfl) (fun _ => rfl) fun H5 s5 hD => ?_
  have h5 := s5 _ _ h4
  have nDx : D ≠ x := ne_of hD h5 (fun z => nomatch z)
  refine ⟨_, rfl, x, C, dx, _, rfl, h5, O.ins.cl, O.nS, (by decide : 2 < 1000), ?_⟩
  refine q _ B' (fun b o hb e => ?_) pB ⟨⟨dx, t, D, _, upd_same, rfl, rfl, rfl, ?_, ?_⟩, O.ins.cl, O.nP, O.nW, O.nS⟩
  · rw [upd_ne hb]; exact s5 _ _ (kp b o hb e)
  · rw [upd_ne ntx.symm]; exact s5 _ _ ht
  · rw [upd_ne nDx]; exact hD
/-! ### need_book, how_many_rounds -/
def spNeedBook (C : Addr) : Sp := fun vs H Q _ => ∃ (a dx : Addr) (fs : List (Str × V)), vs = [.ref a] ∧ H a = some (.ins C dx fs) ∧ Q .non H
theorem sc53 : FnScope ["value"] ["value"] (C8.fnScope (top 53)) := C8.fnScope_by (by decide +kernel)
theorem ok_needBook (D : Dd K mg "need_book" (top 53) ["value"]) (T : Tx mg) (O : BkC K C) (hb : mg "Book" = some (.ref C)) : Cl P w K mg base 1 "need_book" (spNeedBook C) := by
  refine D.cal sc53 (fun vs H Q E ⟨x, dx, fs, e, _⟩ => by rw [e]; rfl) fun f cdv A outer s H vs Q E hr h => ?_
  obtain ⟨x, dx, fs, rfl, hx, q⟩ := h
  refine ⟨_, pss_one (ps_if (pt_not (pt_val (pe_callB (C8.call_isC O.ins) (by rfl) T.isi (by decide +kernel) (pa_cons (pv 0) (pa_cons (C8.pe_gc (v := .ref C) rfl ⟨_, hb, rfl⟩) pa_nil))))) (pss_one ps_never) pss_nil), ?_⟩
  exact ⟨_, rfl, x, dx, fs, rfl, hx, true, rfl, iteF q⟩
def spRounds (K : PySem.W.Frag) (C Pt : Addr) : Sp := fun vs H Q _ => ∃ (b : Addr) (m : Nat) (B : List Wd), vs = [.ref b] ∧ BookAt K C H b m B ∧ Fit m B ∧ LamX.TabS H Pt LmS.qual ∧
  ∀ H' : Hp, Xt H H' → LamX.TabS H' Pt LmS.qual → Q (.int (rounds (treesI m) (2 * m) B)) H'
theorem sc58 : FnScope ["book"] ["book"] (C8.fnScope (top 58)) := C8.fnScope_by (by decide +kernel)
theorem ok_rounds {Pt : Addr} (D : Dd K mg "how_many_rounds" (top 58) ["book"]) (c1 : Cl P w K mg base 1 "need_book" (spNeedBook C)) (c2 : Cl P w K mg base 6 "rounds_in" (spRoundsIn K C Pt)) : Cl P w K mg base 7 "how_many_rounds" (spRounds K C Pt) := by
  have c1 := c1.mono (by decide : 1 ≤ 6)
  refine D.cal sc58 (fun vs H Q E ⟨x, m, B, e, _⟩ => by rw [e]; rfl) fun f cdv A outer s H vs Q E hr h => ?_
  obtain ⟨b, m, B, rfl, bk, hB, hT, q⟩ := h
  refine ⟨_, pss_cons (ps_expr (C8.pe_c c1 hr (by decide) rfl (pa_cons (pv 0) pa_nil))) (pss_one (ps_ret (C8.pe_c c2 hr (by decide) rfl (pa_cons (pv 0) pa_nil)))), ?_⟩
  obtain ⟨dx, tw, dd, fs, h1, _⟩ := bk.ex
  have hfew := hB.few
  exact ⟨_, rfl, b, dx, fs, rfl, h1, _, rfl, b, m, B, rfl, bk, hB.bk, hB.len, by omega, hB.lo, hB.hi, hT, q⟩
end
end Eh

set_option maxHeartbeats 4000000
/-! Rules: a text times a number, a list against []; walks: the yarn, the knot. -/
namespace Eh
open PySem PySem.Spec PyProof.Rows L2
section
variable {X : Cx}
def rMulT : R2 := fun x y H Q => ∃ (z : Str) (k : Nat), x = .str z ∧ y = .int (k : Int) ∧ 1 ≤ z.length ∧ z.length ≤ 100 ∧ k ≤ 1000 ∧ Q (.str ⟨(List.replicate k z.cps).foldl (· ++ ·) #[]⟩) H
theorem op_mulT : OpR X (binaryOp .Mult) rMulT := by
  intro pins s σ H x y v u Q I rx ry h
  obtain ⟨z, k, rfl, rfl, z1, z2, k2, q⟩ := h
  obtain ⟨t, rfl⟩ := rx
  obtain ⟨t', rfl⟩ := ry
  have hsz : (⟨(List.replicate k z.cps).foldl (· ++ ·) #[]⟩ : Str).length ≤ 100 * k := by
    have key : ∀ (k : Nat) (a : Array Nat), ((List.replicate k z.cps).foldl (· ++ ·) a).size ≤ a.size + 100 * k := by
      intro k
      induction k with
      | zero => intro a; simp
      | succ k ih =>
        intro a
        rw [List.replicate_succ, List.foldl_cons]
        refine Nat.le_trans (ih _) ?_
        have : z.cps.size ≤ 100 := z2
        rw [Array.size_append]
        omega
    have h := key k #[]
    rw [Array.size_empty, Nat.zero_add] at h
    exact h
  refine PySem.P.mul_str (by rw [decide_eq_false (by omega), decide_eq_false (by omega)]; rfl) (fun h1 _ => ?_) (fun h1 _ => ?_) ?_
  · have h3 : (100 : Int) ≤ (2 ^ 63 - 1) / (k : Int) := by
      rw [Int.le_ediv_iff_mul_le (by omega)]
      omega
    omega
  · have h3 : z.length * (k : Int).toNat ≤ 100000 := by
      rw [Int.toNat_natCast]
      exact Nat.le_trans (Nat.mul_le_mul z2 k2) (by decide)
    show decide (_ > sizeLine) = false
    exact decide_eq_false (Nat.not_lt.mpr (szle h3))
  · by_cases h1 : (k : Int) < 1
    · rw [if_pos h1]
      have hk : k = 0 := by omega
      subst hk
      exact ⟨by decide, .str _, H, I.tok _, ⟨_, rfl⟩, q⟩
    · rw [if_neg h1]
      by_cases h2 : ((k : Int) == 1 || z.length == 0) = true
      · rw [if_pos h2]
        have hk : k = 1 := by
          rw [Bool.or_eq_true, beq_iff_eq, beq_iff_eq] at h2
          omega
        subst hk
        have e : (⟨(List.replicate 1 z.cps).foldl (· ++ ·) #[]⟩ : Str) = z := by simp
        rw [e] at q
        exact ⟨.str z, H, I, ⟨_, rfl⟩, q⟩
      · rw [if_neg h2, Int.toNat_natCast]
        exact ⟨Nat.le_trans hsz (szle (by omega)), .str _, H, I.tok _, ⟨_, rfl⟩, q⟩
end
/-- 10 so many times -/
def tens : Nat → Wd
  | 0 => []
  | k + 1 => true :: false :: tens k
theorem tens_len : ∀ k, (tens k).length = 2 * k
  | 0 => rfl
  | k + 1 => by simp [tens, tens_len k]; omega
theorem tens_dyck : ∀ k, Dyck (tens k)
  | 0 => Dyck.nil
  | k + 1 => Dyck.cons (u := []) Dyck.nil (tens_dyck k)
theorem tens_txt (k : Nat) : (⟨(List.replicate k ("10" : Str).cps).foldl (· ++ ·) #[]⟩ : Str) = en (tens k) := by
  have e10 : ("10" : Str).cps = (cd [true, false]).toArray := by decide +kernel
  rw [e10]
  have key : ∀ (k : Nat) (a : Array Nat), ((List.replicate k (cd [true, false]).toArray).foldl (· ++ ·) a) = a ++ (cd (tens k)).toArray := by
    intro k
    induction k with
    | zero => intro a; simp [tens, cd]
    | succ k ih =>
      intro a
      rw [List.replicate_succ, List.foldl_cons, ih]
      apply Array.ext'
      simp [tens, cd]
  rw [key k #[]]
  unfold en SX.S
  simp
/-! ### a list that is not [] -/
theorem dpI {K : PySem.W.Frag} {H : Hp} : ∀ ns : List Int, DpAll K H (ns.map V.int) (ns.map PyData.int)
  | [] => .nil
  | n :: ns => .cons (.int n) (dpI ns)
theorem dpT {K : PySem.W.Frag} {H : Hp} : ∀ B : List Wd, DpAll K H (txs B) (B.map fun x => PyData.str (en x))
  | [] => .nil
  | x :: B => .cons (.str (en x)) (dpT B)
theorem shI (ns : List Int) : SeqAt.shaped (.list (ns.map PyData.int)) = true := by
  have h : ∀ ns : List Int, PyData.canLayAll0 (ns.map PyData.int) = true ∧ PyData.depthAll (ns.map PyData.int) = 0 := by
    intro ns
    induction ns with
    | nil => exact ⟨rfl, rfl⟩
    | cons n ns ih => simp [PyData.canLayAll0, PyData.canLay0, PyData.depthAll, PyData.depth, ih.1, ih.2]
  unfold SeqAt.shaped
  simp [PyData.canLay0, PyData.depth, (h ns).1, (h ns).2]
theorem strOk_en (x : Wd) : PyData.strOk (en x) = true := by
  unfold PyData.strOk en SX.S
  rw [Array.all_eq_true']
  intro c hc
  have hc : c ∈ cd x := by simpa using hc
  obtain ⟨b, _, rfl⟩ := List.mem_map.mp hc
  cases b <;> decide
theorem shT (B : List Wd) : SeqAt.shaped (.list (B.map fun x => PyData.str (en x))) = true := by
  have h : ∀ B : List Wd, PyData.canLayAll0 (B.map fun x => PyData.str (en x)) = true ∧ PyData.depthAll (B.map fun x => PyData.str (en x)) = 0 := by
    intro B
    induction B with
    | nil => exact ⟨rfl, rfl⟩
    | cons n ns ih => simp [PyData.canLayAll0, PyData.canLay0, PyData.depthAll, PyData.depth, ih.1, ih.2, strOk_en]
  unfold SeqAt.shaped
  simp [PyData.canLay0, PyData.depth, (h B).1, (h B).2]
theorem ne_nilI {K : PySem.W.Frag} {H : Hp} {a b : Addr} {ns : List Int} {Q : VK} (ha : SqL K H a (ns.map V.int)) (hb : SqL K H b []) (q : Q (.bl (!ns.isEmpty)) H) : rNeD K (.ref a) (.ref b) H Q := by
  refine ⟨_, _, .lst ha (dpI ns), .lst hb .nil, shI ns, by decide, ?_⟩
  cases ns <;> exact q
theorem ne_nilT {K : PySem.W.Frag} {H : Hp} {a b : Addr} {B : List Wd} {Q : VK} (ha : SqL K H a (txs B)) (hb : SqL K H b []) (q : Q (.bl (!B.isEmpty)) H) : rNeD K (.ref a) (.ref b) H Q := by
  refine ⟨_, _, .lst ha (dpT B), .lst hb .nil, shT B, by decide, ?_⟩
  cases B <;> exact q
end Eh

set_option maxHeartbeats 4000000
/-! Walks of the law: the yarn, the knot, one of some. -/
namespace Eh
open PySem PySem.Spec PyProof.Rows L2
/-- all but y stays -/
def Kp (y : Addr) (H H' : Hp) : Prop := ∀ b o, b ≠ y → H b = some o → H' b = some o
theorem Kp.refl (y : Addr) (H : Hp) : Kp y H H := fun _ _ _ e => e
theorem Kp.trans {y : Addr} {H H1 H2 : Hp} (a : Kp y H H1) (b : Kp y H1 H2) : Kp y H H2 := fun c o n e => b c o n (a c o n e)
theorem Kp.same {y : Addr} {H H' : Hp} (s : Same H H') : Kp y H H' := fun b o _ e => s b o e
/-- the drawing list at y over the cells at l, of whose turns at most n are behind -/
structure Yarn (H : Hp) (y l : Addr) (n : Nat) : Prop where
  ex : ∃ (cs : List Int) (j r : Int), H y = some (.lst [.ref l, .int j, .int r]) ∧ H l = some (.lst (cs.map V.int)) ∧ 0 ≤ j ∧ j ≤ n ∧ 0 ≤ r
theorem lst_int_ne {l : Addr} {cs : List Int} {r : List V} : (HO.lst (cs.map V.int)) ≠ .lst (.ref l :: r) := fun z => by
  injection z with z
  cases cs with
  | nil => cases z
  | cons c cs => injection z with z _; cases z
theorem Yarn.ne {H : Hp} {y l : Addr} {n : Nat} (h : Yarn H y l n) : l ≠ y := by
  obtain ⟨cs, j, r, hy, hl, _⟩ := h.ex
  exact ne_of hl hy lst_int_ne
theorem Yarn.mono {H : Hp} {y l : Addr} {n m : Nat} (h : Yarn H y l n) (k : n ≤ m) : Yarn H y l m := by
  obtain ⟨cs, j, r, hy, hl, h1, h2, h3⟩ := h.ex
  exact ⟨cs, j, r, hy, hl, h1, by omega, h3⟩
theorem Yarn.same {H H' : Hp} {y l : Addr} {n : Nat} (h : Yarn H y l n) (s : Same H H') : Yarn H' y l n := by
  obtain ⟨cs, j, r, hy, hl, h1, h2, h3⟩ := h.ex
  exact ⟨cs, j, r, s _ _ hy, s _ _ hl, h1, h2, h3⟩
section
variable {P : Program} {w : World} {K : PySem.W.Frag} {mg : Str → Option Value} {base : Heap} {C : Addr}
/-! ### _law_yarn -/
def spYarn (K : PySem.W.Frag) : Sp := fun vs H Q _ => ∃ (a : Addr) (ns : List Int), vs = [.ref a] ∧ SqL K H a (ns.map V.int) ∧ ∀ (y l : Addr) (H' : Hp), Same H H' → H y = none → H l = none → Yarn H' y l 0 → Q (.ref y) H'
theorem sc60 : FnScope ["_law_script", "_law_cell"] ["_law_script"] (C8.fnScope (top 60)) := C8.fnScope_by (by decide +kernel)
theorem cut_map (ns : List Int) : cutV (ns.map V.int) none (some 60) = (ns.take 60).map V.int := by
  unfold cutV HT.sIx
  simp
theorem ok_yarn (D : Dd K mg "_law_yarn" (top 60) ["_law_script"]) (T : Tx mg) : Cl P w K mg base 1 "_law_yarn" (spYarn K) := by
  refine D.cal sc60 (fun vs H Q E ⟨a, ns, e, _⟩ => by rw [e]; rfl) fun f cdv A outer s H vs Q E hr h => ?_
  obtain ⟨a, ns, rfl, ha, q⟩ := h
  refine ⟨_, pss_one (ps_ret (pe_lst (pa_cons (pe_lc (own := [("_law_cell", 1)]) (g := gName 1) (tt := tYes) rfl sc60.nd (pi_list (pe_slice sl_list (pv 0) po_none (po_some pe_int)))
      (blkOk_by (N := ["_law_script", "_law_cell"]) (sc := C8.fnScope (top 60)) (by decide +kernel)) (fun _ _ _ _ _ => pg_name (i := 1) sc60.nd rfl (Or.inl rfl)) (fun _ _ _ _ _ => pts_nil)
      (fun _ _ _ _ _ => pe_callTy call_int1 (by rfl) T.int (by decide +kernel) (pa_cons (pv 1) pa_nil))) (pa_cons pe_int (pa_cons pe_int pa_nil))))), ?_⟩
  refine ⟨_, rfl, _, rfl, a, _, rfl, ha, fun c nc => ⟨c, rfl, ⟨_, SqL.of upd_same⟩, fun L nL => lc_it (walk_list (xs := (ns.take 60).map V.int)) (fun i H1 => (Same H H1 ∧ H1 c = some (.lst ((ns.take 60).map V.int))) ∧ H1 L = some (.lst (((ns.take 60).take i).map V.int))) ?_ (fun i H1 _ h => SqL.of h.1.2) ?_ ?_⟩⟩
  · have h1 : upd H c (.lst (cutV (ns.map V.int) none (some 60))) c = some (.lst ((ns.take 60).map V.int)) := by rw [upd_same, cut_map]
    exact ⟨⟨fun b o e => (upd_ne (ne_of_none ((upd_ne (ne_of_none e nc)).trans e) nL)).trans ((upd_ne (ne_of_none e nc)).trans e), (upd_ne (ne_of_none h1 nL)).trans h1⟩, upd_same⟩
  · rintro i x H1 H2 hi ⟨⟨sm, hc⟩, hL⟩ ⟨rfl, hx⟩
    have hi : i < (ns.take 60).length := by simpa using hi
    have hx : ((ns.take 60).map V.int)[i]? = some x := hx
    rw [List.getElem?_map, List.getElem?_eq_getElem hi] at hx
    obtain rfl : V.int (ns.take 60)[i] = x := Option.some.inj hx
    have nL' : H L = none := by
      have nL := nL
      by_cases hLc : L = c
      · rw [hLc, upd_same] at nL; cases nL
      · rw [upd_ne hLc] at nL; exact nL
    refine ⟨rfl, yes_if ⟨_, rfl, .inl ⟨_, rfl, _, hL, ?_, ⟨fun b o e => (upd_ne (ne_of_none e nL')).trans (sm b o e), ?_⟩, ?_⟩⟩⟩
    · simp; exact szlt (by omega)
    · refine (upd_ne ?_).trans hc
      intro z
      rw [← z, upd_same] at nL; cases nL
    · rw [upd_same]
      congr 2
      rw [List.take_add_one (l := ns.take 60) (i := i), List.getElem?_eq_getElem hi]
      simp
  · rintro H1 ⟨⟨sm, hc⟩, hL⟩
    refine ⟨(by decide : 3 ≤ sizeLine), fun y ny => ?_⟩
    have nL' : H L = none := by
      have nL := nL
      by_cases hLc : L = c
      · rw [hLc, upd_same] at nL; cases nL
      · rw [upd_ne hLc] at nL; exact nL
    refine q y L _ (fun b o e => (upd_ne (ne_of_none (sm b o e) ny)).trans (sm b o e)) (sm.free ny) nL' ⟨ns.take 60, 0, 0, upd_same, ?_, Int.le_refl _, Int.le_refl _, Int.le_refl _⟩
    rw [upd_ne (ne_of_none hL ny), hL]
    congr 3
    exact List.take_of_length_le (by simp)
/-! ### _law_knot -/
def spKnot : Sp := fun vs H Q _ => ∃ (y l : Addr) (many : Int) (n : Nat), vs = [.ref y, .int many] ∧ Yarn H y l n ∧ 1 ≤ many ∧ many ≤ 1000 ∧ n ≤ 100000 ∧
  ∀ (r : Int) (H' : Hp), 0 ≤ r → r < many → Kp y H H' → Yarn H' y l (n + 1) → Q (.int r) H'
theorem sc61 : FnScope ["_law_yarn_here", "_law_many", "_law_rest", "_law_at", "_law_cell", "_law_mixed"] ["_law_yarn_here", "_law_many"] (C8.fnScope (top 61)) := C8.fnScope_by (by decide +kernel)
theorem mix_small {m a : Int} (m0 : 0 ≤ m) (m1 : m < 2147483489) (a0 : 0 ≤ a) (a1 : a ≤ 100000) : (m * (2 * a + 3467) + 98563 * a * a + 43411).natAbs < 2 ^ 64 := by
  have h1 : m * (2 * a + 3467) ≤ 2147483489 * 203467 := Int.mul_le_mul (by omega) (by omega) (by omega) (by omega)
  have h2 : 0 ≤ m * (2 * a + 3467) := Int.mul_nonneg m0 (by omega)
  have h3 : 98563 * a * a ≤ 9856300000 * 100000 := Int.mul_le_mul (by omega) (by omega) (by omega) (by omega)
  have h4 : 0 ≤ 98563 * a * a := Int.mul_nonneg (by omega) a0
  omega
theorem at_in {cs : List Int} (h : cs ≠ []) (a : Int) : ∃ c, atI (cs.map V.int) (a % ((cs.map V.int).length : Nat)) = some (V.int c) := by
  have hl : 0 < cs.length := List.length_pos_iff.mpr h
  rw [List.length_map]
  have h0 : 0 ≤ a % (cs.length : Nat) := Int.emod_nonneg _ (by omega)
  have h1 : a % (cs.length : Nat) < (cs.length : Nat) := Int.emod_lt_of_pos _ (by omega)
  have e : a % (cs.length : Nat) = (((a % (cs.length : Nat)).toNat : Nat) : Int) := by omega
  rw [e]
  have hlt : (a % (cs.length : Nat)).toNat < cs.length := by omega
  exact ⟨cs[(a % (cs.length : Nat)).toNat], atI_nat (by rw [List.getElem?_map, List.getElem?_eq_getElem hlt]; rfl)⟩
/-- the state of the knot behind its first lines -/
def Kn (H : Hp) (y l : Addr) (many a : Int) (cs : List Int) (σ : L2.St) (H' : Hp) : Prop :=
  ∃ c : Int, σ = [some (.ref y), some (.int many), none, some (.int a), some (.int c), none] ∧ Kp y H H' ∧ H' y = some (.lst [.ref l, .int (a + 1), .int 0]) ∧ H' l = some (.lst (cs.map V.int))
theorem ok_knot (D : Dd K mg "_law_knot" (top 61) ["_law_yarn_here", "_law_many"]) (T : Tx mg) : Cl P w K mg base 1 "_law_knot" spKnot := by
  refine D.cal sc61 (fun vs H Q E ⟨y, l, many, n, e, _⟩ => by rw [e]; rfl) fun f cdv A outer s H vs Q E hr h => ?_
  obtain ⟨y, l, many, n, rfl, Y, m1, m2, hn, q⟩ := h
  have hly := Y.ne
  obtain ⟨cs, a, r, hy, hl, a0, an, r0⟩ := Y.ex
  refine ⟨_, pss_cons (ps_if (pt_cmpR op_gt (pe_ix ix_list (pv 0) pe_int (fun _ _ => rfl)) pe_int (nomark _))
      (pss_cons (ps_set (i := 2) sc61.nd rfl (Or.inl rfl) (pe_callTy call_int1 (by rfl) T.int (by decide +kernel) (pa_cons (pe_ix ix_list (pv 0) pe_int (fun _ _ => rfl)) pa_nil)))
      (pss_cons (ps_asg (pe_op op_fdiv (pv 2) (pv 1)) (pg_sub (pv 0) pe_int set_list))
      (pss_one (ps_ret (pe_op op_mod (pe_callTy call_int1 (by rfl) T.int (by decide +kernel) (pa_cons (pv 2) pa_nil)) (pv 1)))))) pss_nil)
    (pss_cons (ps_set (i := 3) sc61.nd rfl (Or.inl rfl) (pe_ix ix_list (pv 0) pe_int (fun _ _ => rfl)))
    (pss_cons (ps_asg (pe_op op_add (pv 3) pe_int) (pg_sub (pv 0) pe_int set_list))
    (pss_cons (ps_set (i := 4) sc61.nd rfl (Or.inl rfl) (pe_op op_add (pe_op op_mul pe_int (pv 3)) pe_int))
    (C8.pss_cut (ps_if (pt_cmpR (op_neD hr.units) (pe_ix ix_list (pv 0) pe_int (fun _ _ => rfl)) (pe_lst pa_nil) rfl)
      (pss_one (ps_set (i := 4) sc61.nd rfl (Or.inl rfl) (pe_ix ix_list (pe_ix ix_list (pv 0) pe_int (fun _ _ => rfl)) (pe_op op_mod (pe_callTy call_int1 (by rfl) T.int (by decide +kernel) (pa_cons (pv 3) pa_nil)) (pe_callB call_len_seq (by rfl) T.len PySem.boot_len (pa_cons (pe_ix ix_list (pv 0) pe_int (fun _ _ => rfl)) pa_nil))) (fun _ _ => rfl)))) pss_nil)
    (C8.pss_cut (ps_if (PW.pt (pw_and (pt_cmpR op_lt (pv 3) (pe_callB call_len_seq (by rfl) T.len PySem.boot_len (pa_cons (pe_ix ix_list (pv 0) pe_int (fun _ _ => rfl)) pa_nil)) (nomark _)) (pw_and1 (pt_cmpR op_ge (pe_callB call_abs (by rfl) T.abs (by decide +kernel) (pa_cons (pv 4) pa_nil)) (pe_op op_pow pe_int pe_int) (nomark _)))))
      (pss_cons (ps_set (i := 2) sc61.nd rfl (Or.inl rfl) (pe_op op_add (pe_op op_mul pe_int (pe_op op_sub (pe_callB call_abs (by rfl) T.abs (by decide +kernel) (pa_cons (pv 4) pa_nil)) (pe_op op_pow pe_int pe_int))) (pe_callTy call_int1 (by rfl) T.int (by decide +kernel) (pa_cons (pe_cmpR op_lt (pv 4) pe_int (nomark _)) pa_nil))))
      (pss_cons (ps_asg (pe_op op_fdiv (pe_callTy call_int1 (by rfl) T.int (by decide +kernel) (pa_cons (pv 2) pa_nil)) (pv 1)) (pg_sub (pv 0) pe_int set_list))
      (pss_one (ps_ret (pe_op op_mod (pe_callTy call_int1 (by rfl) T.int (by decide +kernel) (pa_cons (pv 2) pa_nil)) (pv 1)))))) pss_nil)
    (pss_cons (ps_set (i := 5) sc61.nd rfl (Or.inl rfl) (pe_op op_mod (pe_callTy call_int1 (by rfl) T.int (by decide +kernel) (pa_cons (pe_op op_pow (pe_op op_add (pe_op op_add (pe_op op_mod (pe_callTy call_int1 (by rfl) T.int (by decide +kernel) (pa_cons (pv 4) pa_nil)) pe_int) (pe_op op_mul pe_int (pv 3))) pe_int) pe_int) pa_nil)) pe_int))
    (pss_cons (ps_set (i := 5) sc61.nd rfl (Or.inl rfl) (pe_op op_mod (pe_callTy call_int1 (by rfl) T.int (by decide +kernel) (pa_cons (pe_op op_pow (pe_op op_add (pe_op op_add (pe_op op_mul (pv 5) (pe_op op_add (pe_op op_mul pe_int (pv 3)) pe_int)) (pe_op op_mul (pe_op op_mul pe_int (pv 3)) (pv 3))) pe_int) pe_int) pa_nil)) pe_int))
    (pss_one (ps_ret (pe_op op_mod (pe_callTy call_int1 (by rfl) T.int (by decide +kernel) (pa_cons (pe_op op_fdiv (pv 5) pe_int) pa_nil)) (pv 1)))))))))))
    , ?_⟩
  refine ⟨_, rfl, y, _, _, _, rfl, rfl, SqL.of hy, rfl, _, _, rfl, rfl, _, rfl, ?_⟩
  by_cases hr0 : 0 < r
  · rw [decide_eq_true hr0]
    refine iteT ⟨_, rfl, y, _, _, _, rfl, rfl, SqL.of hy, rfl, .inl ⟨_, rfl, ?_⟩⟩
    refine ⟨_, rfl, _, rfl, _, _, rfl, rfl, ⟨by omega, by omega⟩, _, rfl, y, _, _, _, rfl, rfl, hy, rfl, ?_⟩
    refine ⟨_, rfl, .inl ⟨_, rfl, _, rfl, _, _, rfl, rfl, by omega, ?_⟩⟩
    refine q _ _ (Int.emod_nonneg _ (by omega)) (Int.emod_lt_of_pos _ (by omega)) (fun b o hb e => (upd_ne hb).trans e) ⟨cs, a, r / many, upd_same, (upd_ne hly).trans hl, a0, by omega, Int.ediv_nonneg r0 (by omega)⟩
  rw [decide_eq_false hr0]
  have hr0 : r = 0 := by omega
  subst hr0
  refine iteF ⟨_, rfl, y, _, _, _, rfl, rfl, SqL.of hy, rfl, ?_⟩
  refine ⟨_, rfl, _, _, rfl, rfl, _, rfl, y, _, _, _, rfl, rfl, hy, rfl, ?_⟩
  refine ⟨_, rfl, _, _, rfl, rfl, .inl ⟨by decide, by decide⟩, _, _, rfl, rfl, ?_⟩
  have k1 : Kp y H (upd H y (.lst [.ref l, .int (a + 1), .int 0])) := fun b o hb e => (upd_ne hb).trans e
  have y1 : upd H y (.lst [.ref l, .int (a + 1), .int 0]) y = some (.lst [.ref l, .int (a + 1), .int 0]) := upd_same
  have l1 : upd H y (.lst [.ref l, .int (a + 1), .int 0]) l = some (.lst (cs.map V.int)) := (upd_ne hly).trans hl
  show C8.tCut _ _ _ _ (upd H y (.lst [.ref l, .int (a + 1), .int 0]))
  generalize upd H y (.lst [.ref l, .int (a + 1), .int 0]) = H1 at k1 y1 l1 ⊢
  refine ⟨Kn H y l many a cs, ?_, ?_⟩
  · refine ⟨_, rfl, y, _, _, _, rfl, rfl, SqL.of y1, rfl, (by decide : 0 ≤ sizeLine), fun e ne => ne_nilI (SqL.of ((upd_ne (ne_of_none l1 ne)).trans l1)) (SqL.of upd_same) ⟨_, rfl, ?_⟩⟩
    have k2 : Kp y H (upd H1 e (.lst [])) := k1.trans fun b o _ z => (upd_ne (ne_of_none z ne)).trans z
    have y2 := (upd_ne (o := .lst []) (ne_of_none y1 ne)).trans y1
    have l2 := (upd_ne (o := .lst []) (ne_of_none l1 ne)).trans l1
    generalize upd H1 e (.lst []) = H2 at k2 y2 l2 ⊢
    by_cases hc : cs = []
    · subst hc
      exact iteF ⟨_, rfl, k2, y2, l2⟩
    · have hc' : (!cs.isEmpty) = true := by cases cs with
        | nil => exact absurd rfl hc
        | cons c cs => rfl
      rw [hc']
      obtain ⟨c, hat⟩ := at_in hc a
      have hl0 : 0 < cs.length := List.length_pos_iff.mpr hc
      refine iteT ⟨_, rfl, y, _, _, _, rfl, rfl, SqL.of y2, rfl, _, rfl, .inl ⟨_, rfl, _, rfl, y, _, _, _, rfl, rfl, SqL.of y2, rfl, l, _, rfl, .inl (SqL.of l2), _, _, rfl, rfl, ?_, l, _, _, _, rfl, rfl, SqL.of l2, hat, c, rfl, k2, y2, l2⟩⟩
      rw [List.length_map]; omega
  · rintro σ' H2 ⟨c, rfl, k2, y2, l2⟩
    refine ⟨Kn H y l many a cs, ?_, ?_⟩
    · refine ⟨_, rfl, _, rfl, y, _, _, _, rfl, rfl, SqL.of y2, rfl, l, _, rfl, .inl (SqL.of l2), _, _, rfl, rfl, _, rfl, ?_⟩
      by_cases ha : a < ((cs.map V.int).length : Nat)
      · rw [decide_eq_true ha]
        refine iteT ⟨_, rfl, _, rfl, _, _, rfl, rfl, ⟨by decide, by decide, by decide⟩, _, _, rfl, rfl, _, rfl, ?_⟩
        by_cases hb : (10 : Int) ^ (18 : Int).toNat ≤ (if c < 0 then -c else c)
        · rw [decide_eq_true hb]
          refine iteT ⟨_, rfl, _, rfl, _, _, rfl, rfl, ⟨by decide, by decide, by decide⟩, _, _, rfl, rfl, _, _, rfl, rfl, .inl ⟨by decide, by decide⟩, _, rfl, _, _, rfl, rfl, .inr ⟨_, rfl, _, _, rfl, rfl, ?_⟩⟩
          have hge : 0 ≤ 2 * ((if c < 0 then -c else c) - (10 : Int) ^ (18 : Int).toNat) + (if decide (c < 0) = true then 1 else 0) := by
            have : (0 : Int) ≤ (if decide (c < 0) = true then 1 else 0) := by split <;> decide
            omega
          refine ⟨_, rfl, .inl ⟨_, rfl, _, rfl, _, _, rfl, rfl, ⟨by omega, by omega⟩, _, rfl, y, _, _, _, rfl, rfl, y2, rfl, ?_⟩⟩
          refine ⟨_, rfl, .inl ⟨_, rfl, _, rfl, _, _, rfl, rfl, by omega, ?_⟩⟩
          exact q _ _ (Int.emod_nonneg _ (by omega)) (Int.emod_lt_of_pos _ (by omega)) (k2.trans fun b o hb e => (upd_ne hb).trans e) ⟨cs, a + 1, _, upd_same, (upd_ne hly).trans l2, by omega, by omega, Int.ediv_nonneg hge (by omega)⟩
        · rw [decide_eq_false hb]
          exact iteF ⟨c, rfl, k2, y2, l2⟩
      · rw [decide_eq_false ha]
        exact iteF ⟨c, rfl, k2, y2, l2⟩
    · rintro σ' H3 ⟨c, rfl, k3, y3, l3⟩
      have hm0 : 0 ≤ c % 2147483497 := Int.emod_nonneg _ (by decide)
      have hm1 : c % 2147483497 < 2147483497 := Int.emod_lt_of_pos _ (by decide)
      refine ⟨_, rfl, .inl ⟨_, rfl, _, _, rfl, rfl, (by decide : (0 : Int) < 2147483497), _, rfl, _, _, rfl, rfl, .inl ⟨by decide, by decide⟩, _, _, rfl, rfl, _, _, rfl, rfl, _, _, rfl, rfl, ⟨by decide, by decide, ?_⟩, .inl ⟨_, rfl, _, _, rfl, rfl, (by decide : (0 : Int) < 2147483489), ?_⟩⟩⟩
      · show (c % 2147483497 + 43411 * a + 5857).natAbs < 2 ^ 64
        omega
      have hn0 : 0 ≤ (c % 2147483497 + 43411 * a + 5857) ^ (5 : Int).toNat % 2147483489 := Int.emod_nonneg _ (by decide)
      have hn1 : (c % 2147483497 + 43411 * a + 5857) ^ (5 : Int).toNat % 2147483489 < 2147483489 := Int.emod_lt_of_pos _ (by decide)
      refine ⟨_, rfl, _, rfl, _, _, rfl, rfl, .inl ⟨by decide, by decide⟩, _, _, rfl, rfl, ?_⟩
      have hsm := mix_small hn0 hn1 a0 (by omega)
      refine ⟨_, _, rfl, rfl, .inl ⟨?_, ?_⟩, _, rfl, _, _, rfl, rfl, .inl ⟨by decide, by decide⟩, _, rfl, _, _, rfl, rfl, .inr ⟨by omega, by omega⟩, _, _, rfl, rfl, _, _, rfl, rfl, _, _, rfl, rfl, ⟨by decide, by decide, hsm⟩, .inl ⟨_, rfl, _, _, rfl, rfl, (by decide : (0 : Int) < 2147483477), ?_⟩⟩
      · exact Int.lt_of_lt_of_le (by decide) hn0
      · exact Int.lt_trans hn1 (by decide)
      refine ⟨_, rfl, _, _, rfl, rfl, ⟨by decide, by decide⟩, .inl ⟨_, rfl, _, rfl, _, _, rfl, rfl, by omega, ?_⟩⟩
      exact q _ _ (Int.emod_nonneg _ (by omega)) (Int.emod_lt_of_pos _ (by omega)) k3 ⟨cs, a + 1, 0, y3, l3, by omega, by omega, Int.le_refl _⟩
end
end Eh

set_option maxHeartbeats 4000000
/-! Walks of the law: one of some, a drawn word, drawn words that can be pulled. -/
namespace Eh
open PySem PySem.Spec PyProof.Rows L2
/-! ### words by their heights -/
theorem Dyck.put {w : Wd} (h : Dyck w) : ∀ a b : Wd, w = a ++ b → Dyck (a ++ true :: false :: b) := by
  induction h with
  | nil =>
    intro a b e
    have e := e.symm
    rw [List.append_eq_nil_iff] at e
    obtain ⟨rfl, rfl⟩ := e
    exact Dyck.cons (u := []) Dyck.nil Dyck.nil
  | @cons u v hu hv ihu ihv =>
    intro a b e
    cases a with
    | nil =>
      have e : true :: (u ++ false :: v) = b := e
      rw [← e]
      exact Dyck.cons (u := []) Dyck.nil (Dyck.cons hu hv)
    | cons c a =>
      have e : true :: (u ++ false :: v) = c :: (a ++ b) := e
      injection e with e1 e2
      subst e1
      rcases List.append_eq_append_iff.mp e2 with ⟨d, rfl, e3⟩ | ⟨d, rfl, e3⟩
      · cases d with
        | nil =>
          rw [List.append_nil]
          have e3 : false :: v = b := e3
          rw [← e3]
          have := ihu u [] (by simp)
          have h2 : true :: u ++ true :: false :: false :: v = true :: ((u ++ true :: false :: []) ++ false :: v) := by simp
          rw [h2]
          exact Dyck.cons this hv
        | cons x d =>
          have e3 : false :: v = x :: (d ++ b) := e3
          injection e3 with e4 e5
          subst e4
          have := ihv d b e5
          have h2 : true :: (u ++ false :: d) ++ true :: false :: b = true :: (u ++ false :: (d ++ true :: false :: b)) := by simp
          rw [h2]
          exact Dyck.cons hu this
      · have := ihu a d rfl
        rw [e3]
        have h2 : true :: a ++ true :: false :: (d ++ false :: v) = true :: ((a ++ true :: false :: d) ++ false :: v) := by simp
        rw [h2]
        exact Dyck.cons this hv
theorem dyck_from : ∀ (w : Wd) (d : Nat), (∀ k, 0 ≤ (d : Int) + ht (w.take k)) → (d : Int) + ht w = 0 → Dyck (List.replicate d true ++ w)
  | [], d, _, h => by
    have : d = 0 := by simp [ht] at h; omega
    subst this
    exact Dyck.nil
  | true :: w, d, h1, h2 => by
    have := dyck_from w (d + 1) (fun k => by have := h1 (k + 1); simp [ht] at this ⊢; omega) (by simp [ht] at h2 ⊢; omega)
    rw [List.replicate_succ'] at this
    simpa using this
  | false :: w, d, h1, h2 => by
    have h0 := h1 1
    simp [ht] at h0
    obtain ⟨e, rfl⟩ : ∃ e, d = e + 1 := ⟨d - 1, by omega⟩
    have := dyck_from w e (fun k => by have := h1 (k + 1); simp [ht] at this ⊢; omega) (by simp [ht] at h2 ⊢; omega)
    have := this.put (List.replicate e true) w rfl
    rw [List.replicate_succ']
    simpa using this
theorem dyck_of {w : Wd} (h1 : ∀ k, 0 ≤ ht (w.take k)) (h2 : ht w = 0) : Dyck w := by
  have := dyck_from w 0 (fun k => by simpa using h1 k) (by simpa using h2)
  simpa using this
theorem join_en (u : Wd) : Txt.join ("" : Str) (u.map fun b => en [b]) = en u := by
  show Builtin.Str.glued _ _ = _
  rw [StrLaws.glued_eq_join]
  induction u with
  | nil => rfl
  | cons b u ih =>
    cases u with
    | nil => rfl
    | cons c u =>
      show en [b] ++ ("" : Str) ++ Str.join ("" : Str) ((c :: u).map fun b => en [b]) = _
      rw [ih, show ("" : Str) = en [] from by decide +kernel, en_app, en_app]
      rfl
section
variable {P : Program} {w : World} {K : PySem.W.Frag} {mg : Str → Option Value} {base : Heap} {C : Addr}
/-! ### _law_one -/
def spOne : Sp := fun vs H Q _ => ∃ (y l s : Addr) (xs : List V) (n : Nat), vs = [.ref y, .ref s] ∧ Yarn H y l n ∧ H s = some (.lst xs) ∧ s ≠ y ∧ 1 ≤ xs.length ∧ xs.length ≤ 1000 ∧ n ≤ 100000 ∧
  ∀ (i : Nat) (v : V) (H' : Hp), xs[i]? = some v → Kp y H H' → Yarn H' y l (n + 1) → Q v H'
theorem sc62 : FnScope ["_law_yarn_here", "_law_some"] ["_law_yarn_here", "_law_some"] (C8.fnScope (top 62)) := C8.fnScope_by (by decide +kernel)
theorem ok_one (D : Dd K mg "_law_one" (top 62) ["_law_yarn_here", "_law_some"]) (T : Tx mg) (c : Cl P w K mg base 1 "_law_knot" spKnot) : Cl P w K mg base 2 "_law_one" spOne := by
  refine D.cal sc62 (fun vs H Q E ⟨y, l, s, xs, n, e, _⟩ => by rw [e]; rfl) fun f cdv A outer s H vs Q E hr h => ?_
  obtain ⟨y, l, s0, xs, n, rfl, Y, hs, hne, h1, h2, hn, q⟩ := h
  refine ⟨_, pss_one (ps_ret (pe_ix ix_list (pv 1) (C8.pe_c c hr (by decide) rfl (pa_cons (pv 0) (pa_cons (pe_callB call_len_seq (by rfl) T.len PySem.boot_len (pa_cons (pv 1) pa_nil)) pa_nil))) (fun _ _ => rfl))), ?_⟩
  refine ⟨_, rfl, _, rfl, _, rfl, s0, _, rfl, .inl (SqL.of hs), y, l, (xs.length : Nat), n, rfl, Y, by omega, by omega, hn, fun r H' r0 r1 k Y' => ?_⟩
  have e : r = ((r.toNat : Nat) : Int) := by omega
  have hi : xs[r.toNat]? = some (xs[r.toNat]'(by omega)) := List.getElem?_eq_getElem (by omega)
  rw [e]
  exact ⟨s0, xs, _, _, rfl, rfl, SqL.of (k _ _ hne hs), atI_nat hi, q r.toNat _ H' hi k Y'⟩
/-! ### _law_word -/
def spDraw : Sp := fun vs H Q _ => ∃ (y l : Addr) (p n : Nat), vs = [.ref y, .int (p : Int)] ∧ Yarn H y l n ∧ p ≤ 50 ∧ n ≤ 90000 ∧
  ∀ (x : Wd) (H' : Hp), Dyck x → x.length = 2 * p → Kp y H H' → Yarn H' y l (n + 100) → Q (.str (en x)) H'
theorem sc63 : FnScope ["_law_yarn_here", "_law_pairs", "_law_signs", "_law_deep", "_law_left", "_law_is_up"] ["_law_yarn_here", "_law_pairs"] (C8.fnScope (top 63)) := C8.fnScope_by (by decide +kernel)
theorem ok_draw (D : Dd K mg "_law_word" (top 63) ["_law_yarn_here", "_law_pairs"]) (T : Tx mg) (c : Cl P w K mg base 1 "_law_knot" spKnot) : Cl P w K mg base 2 "_law_word" spDraw := by
  refine D.cal sc63 (fun vs H Q E ⟨y, l, p, n, e, _⟩ => by rw [e]; rfl) fun f cdv A outer s H vs Q E hr h => ?_
  obtain ⟨y, l, p, n, rfl, Y, hp, hn, q⟩ := h
  refine ⟨_, pss_cons (ps_par (i := 2) (j := 3) rfl sc63.nd rfl rfl (by decide) rfl rfl (pa_cons (pe_lst pa_nil) (pa_cons pe_int pa_nil)) (by rfl))
    (pss_cons (ps_for PassesOwn.never rfl (pi_range3 rfl T.range (pa_cons (pe_op op_mul pe_int (pv 1)) (pa_cons pe_int (pa_cons (pe_un un_neg pe_int) pa_nil)))) (pg_name (i := 4) sc63.nd rfl (Or.inl rfl))
      (C8.pss_cut (ps_set (i := 5) sc63.nd rfl (Or.inl rfl) (pe_or (pe_cmpR op_eq (pv 3) pe_int (nomark _)) (pe_one (pe_and (pe_cmpR op_lt (pv 3) (pv 4) (nomark _)) (pe_one (pe_cmpR op_eq (C8.pe_c c hr (by decide) rfl (pa_cons (pv 0) (pa_cons pe_int pa_nil))) pe_int (nomark _)))))))
      (pss_cons (ps_expr (pe_bm PySem.F.plainAttrs_list PySem.F.slot_list_append PySem.F.type_list_append mt_append (pv 2) (pa_cons (pe_ifExp (pt_val (pv 5)) pe_str pe_str) pa_nil)))
      (pss_one (ps_set (i := 3) sc63.nd rfl (Or.inl rfl) (pe_ifExp (pt_val (pv 5)) (pe_op op_add (pv 3) pe_int) (pe_op op_sub (pv 3) pe_int)))))))
    (pss_one (ps_ret (pe_join pe_str (pv 2))))), ?_⟩
  have hly := Y.ne
  refine ⟨(by decide : 0 ≤ sizeLine), fun sg nsg => ⟨_, _, rfl, _, rfl, _, _, rfl, rfl, .inl ⟨by decide, by decide⟩, _, rfl, _, _, _, _, rfl, RgC.neg (by omega) (by omega) (by decide) (by decide), ?_⟩⟩
  rw [show (2 * (p : Int) - 0).toNat = 2 * p by omega]
  have nyg : sg ≠ y := fun z => by
    obtain ⟨cs, a, r, hy, _⟩ := Y.ex
    rw [z, hy] at nsg; cases nsg
  have nlg : l ≠ sg := fun z => by
    obtain ⟨cs, a, r, hy, hl, _⟩ := Y.ex
    rw [← z, hl] at nsg; cases nsg
  have s0 : Same H (upd H sg (.lst [])) := fun b o e => (upd_ne (ne_of_none e nsg)).trans e
  refine for_rangeC (fun i σ H1 => ∃ u : Wd, u.length = i ∧ (∀ k, 0 ≤ ht (u.take k)) ∧ ht u ≤ ((2 * p - i : Nat) : Int) ∧ Kp y H H1 ∧ Yarn H1 y l (n + i) ∧ H1 sg = some (.lst ((u.map fun b => en [b]).map V.str)) ∧
    ∃ a b, σ = [some (.ref y), some (.int (p : Int)), some (.ref sg), some (.int (ht u)), a, b]) ?_ ?_ ?_
  · exact ⟨[], rfl, fun k => by simp [ht], (by show (0 : Int) ≤ ((2 * p - 0 : Nat) : Int); omega), Kp.same s0, Y.same s0, upd_same, none, none, rfl⟩
  · rintro i σ H1 hi ⟨u, hul, h0, hle, kp, Y1, hsg, a, b, rfl⟩
    have hz0 : 0 ≤ ht u := by have := h0 u.length; rwa [List.take_length] at this
    obtain ⟨k, hpar⟩ := ht_parity u
    -- behind the choice
    have go : ∀ (c : Bool) (H2 : Hp), Kp y H H2 → Yarn H2 y l (n + i + 1) → H2 sg = some (.lst ((u.map fun b => en [b]).map V.str)) → (c = true → ht u + 1 ≤ ((2 * p - (i + 1) : Nat) : Int)) → (c = false → 1 ≤ ht u) →
        ∃ u' : Wd, u'.length = i + 1 ∧ (∀ k, 0 ≤ ht (u'.take k)) ∧ ht u' ≤ ((2 * p - (i + 1) : Nat) : Int) ∧ ht u' = (if c then ht u + 1 else ht u - 1) ∧ u' = u ++ [c] := fun c H2 k2 Y2 hs2 up down => by
      have e : ht (u ++ [c]) = if c then ht u + 1 else ht u - 1 := by rw [ht_app]; cases c <;> simp [ht] <;> omega
      refine ⟨u ++ [c], by simp [hul], fun k => ?_, ?_, e, rfl⟩
      · by_cases hk : k ≤ u.length
        · rw [List.take_append_of_le_length hk]; exact h0 k
        · rw [List.take_of_length_le (by simp; omega), e]
          cases c
          · have := down rfl; simp; omega
          · simp; omega
      · rw [e]
        cases c
        · have := down rfl; simp; omega
        · exact up rfl
    have hleft : (2 * (p : Int) + (i : Nat) * -1) = ((2 * p - i : Nat) : Int) := by omega
    rw [hleft]
    refine ⟨fun σ' H2 => ∃ c : Bool, σ' = [some (.ref y), some (.int (p : Int)), some (.ref sg), some (.int (ht u)), some (.int ((2 * p - i : Nat) : Int)), some (.bl c)] ∧ Kp y H H2 ∧ Yarn H2 y l (n + i + 1) ∧ H2 sg = some (.lst ((u.map fun b => en [b]).map V.str)) ∧
      (c = true → ht u + 1 ≤ ((2 * p - (i + 1) : Nat) : Int)) ∧ (c = false → 1 ≤ ht u), ?_, ?_⟩
    · by_cases hz : ht u = 0
      · refine ⟨_, rfl, rfl, true, by rw [hz]; rfl, iteT ⟨true, rfl, kp, Y1.mono (Nat.le_succ _), hsg, fun _ => by omega, fun z => nomatch z⟩⟩
      · refine ⟨_, rfl, rfl, false, ?_, iteF ?_⟩
        · rw [decide_eq_false (fun z => by injection z with z; exact hz z)]
        by_cases hlt : ht u < ((2 * p - i : Nat) : Int)
        · refine ⟨_, rfl, _, rfl, _, _, rfl, rfl, true, ?_, iteT ?_⟩
          · show V.bl (decide (ht u < ((2 * p - i : Nat) : Int))) = V.bl true
            rw [decide_eq_true hlt]
          refine ⟨_, rfl, y, l, 2, n + i, rfl, Y1, by decide, by decide, by omega, fun r H2 r0 r1 k2 Y2 => ⟨rfl, ?_⟩⟩
          refine ⟨decide (V.int r = V.int 0), rfl, kp.trans k2, Y2, k2 _ _ nyg hsg, fun _ => by omega, fun _ => by omega⟩
        · refine ⟨_, rfl, _, rfl, _, _, rfl, rfl, false, ?_, iteF ?_⟩
          · show V.bl (decide (ht u < ((2 * p - i : Nat) : Int))) = V.bl false
            rw [decide_eq_false hlt]
          exact ⟨false, rfl, kp, Y1.mono (Nat.le_succ _), hsg, (fun z => nomatch z), fun _ => by omega⟩
    · rintro σ' H2 ⟨c, rfl, k2, Y2, hs2, up, down⟩
      obtain ⟨u', g1, g2, g3, g4, rfl⟩ := go c H2 k2 Y2 hs2 up down
      have k3 : ∀ v, Kp y H (upd H2 sg (.lst (((u.map fun b => en [b]).map V.str) ++ [v]))) := fun v b o hb e => (upd_ne (ne_of_none e nsg)).trans (k2 b o hb e)
      have Y3 : ∀ v, Yarn (upd H2 sg (.lst (((u.map fun b => en [b]).map V.str) ++ [v]))) y l (n + (i + 1)) := fun v => by
        obtain ⟨cs, a, r, hy, hl, z⟩ := Y2.ex
        exact ⟨cs, a, r, (upd_ne nyg.symm).trans hy, (upd_ne nlg).trans hl, z⟩
      cases c
      · refine ⟨_, rfl, .inl ⟨rfl, _, SqL.of hs2⟩, _, rfl, false, rfl, iteF ⟨sg, _, _, rfl, rfl, hs2, szlt (by simp; omega), _, rfl, false, rfl, iteF ⟨_, rfl, _, _, rfl, rfl, ?_⟩⟩⟩
        refine ⟨u ++ [false], g1, g2, g3, k3 _, Y3 _, ?_, some (.int ((2 * p - i : Nat) : Int)), some (.bl false), by rw [g4]; rfl⟩
        rw [upd_same, ← en0]; simp
      · refine ⟨_, rfl, .inl ⟨rfl, _, SqL.of hs2⟩, _, rfl, true, rfl, iteT ⟨sg, _, _, rfl, rfl, hs2, szlt (by simp; omega), _, rfl, true, rfl, iteT ⟨_, rfl, _, _, rfl, rfl, ?_⟩⟩⟩
        refine ⟨u ++ [true], g1, g2, g3, k3 _, Y3 _, ?_, some (.int ((2 * p - i : Nat) : Int)), some (.bl true), by rw [g4]; rfl⟩
        rw [upd_same, ← en1]; simp
  · rintro σ H1 ⟨u, hul, h0, hle, kp, Y1, hsg, a, b, rfl⟩
    have hz0 : 0 ≤ ht u := by have := h0 u.length; rwa [List.take_length] at this
    refine ⟨⟨_, rfl⟩, _, rfl, _, sg, u.map fun b => en [b], rfl, rfl, .inl (SqL.of hsg), ?_, ?_⟩
    · have e : ((u.map fun b => en [b]).map (·.length)).sum = u.length := by
        clear hul h0 hle hz0 hsg
        induction u with
        | nil => rfl
        | cons b u ih => simp only [List.map_cons, List.sum_cons, ih, en_len, List.length_cons, List.length_nil]; omega
      rw [e, List.length_map, show (("" : Str)).length = 0 by decide]
      omega
    · rw [join_en]
      exact q u H1 (dyck_of h0 (by omega)) hul kp (Y1.mono (by omega))
end
end Eh

set_option maxHeartbeats 4000000
/-! Walks of the law: drawn pulls, the end of a pair, a turn, a tree. -/
namespace Eh
open PySem PySem.Spec PyProof.Rows L2
section
variable {P : Program} {w : World} {K : PySem.W.Frag} {mg : Str → Option Value} {base : Heap} {C : Addr}
/-- a word of m pairs that can be pulled -/
structure Pl (m : Nat) (x : Wd) : Prop where
  dy : Dyck x
  can : canPull x = true
  len : x.length = 2 * m
theorem Yarn.kp {H H' : Hp} {y l : Addr} {n : Nat} (h : Yarn H y l n) {p : Addr} {o : HO} (np : H p = none) : Yarn (upd H p o) y l n := h.same fun b _ e => (upd_ne (ne_of_none e np)).trans e
theorem Kp.new {y p : Addr} {o : HO} {H H' : Hp} (k : Kp y H H') (np : H p = none) : Kp y H (upd H' p o) := fun b u n e => (upd_ne (ne_of_none e np)).trans (k b u n e)
theorem Yarn.some {H : Hp} {y l : Addr} {n : Nat} (h : Yarn H y l n) : H y ≠ none := by
  obtain ⟨cs, a, r, hy, _⟩ := h.ex
  rw [hy]; exact fun z => nomatch z
theorem Yarn.someL {H : Hp} {y l : Addr} {n : Nat} (h : Yarn H y l n) : H l ≠ none := by
  obtain ⟨cs, a, r, hy, hl, _⟩ := h.ex
  rw [hl]; exact fun z => nomatch z
theorem Yarn.put {H : Hp} {y l : Addr} {n : Nat} (h : Yarn H y l n) {p : Addr} {o : HO} (n1 : p ≠ y) (n2 : p ≠ l) : Yarn (upd H p o) y l n := by
  obtain ⟨cs, a, r, hy, hl, z⟩ := h.ex
  exact ⟨cs, a, r, (upd_ne n1.symm).trans hy, (upd_ne n2.symm).trans hl, z⟩
/-! ### _law_pulls, asked for one -/
def spDrawn : Sp := fun vs H Q _ => ∃ (y l : Addr) (m n : Nat), vs = [.ref y, .int (m : Int), .int 1] ∧ Yarn H y l n ∧ 2 ≤ m ∧ m ≤ 50 ∧ n ≤ 80000 ∧
  ∀ (fp : Addr) (x : Wd) (H' : Hp), Pl m x → Kp y H H' → Yarn H' y l (n + 201) → H fp = none → H' fp = some (.lst (txs [x])) → Q (.ref fp) H'
theorem sc64 : FnScope ["_law_yarn_here", "_law_pairs", "_law_most", "_law_found", "_law_turn", "_law_inner", "_law_word_here"] ["_law_yarn_here", "_law_pairs", "_law_most"] (C8.fnScope (top 64)) := C8.fnScope_by (by decide +kernel)
theorem ok_drawn (D : Dd K mg "_law_pulls" (top 64) ["_law_yarn_here", "_law_pairs", "_law_most"]) (T : Tx mg) (c1 : Cl P w K mg base 1 "_law_knot" spKnot) (c2 : Cl P w K mg base 2 "_law_word" spDraw) : Cl P w K mg base 3 "_law_pulls" spDrawn := by
  have c1 := c1.mono (by decide : 1 ≤ 2)
  refine D.cal sc64 (fun vs H Q E ⟨y, l, m, n, e, _⟩ => by rw [e]; rfl) fun f cdv A outer s H vs Q E hr h => ?_
  obtain ⟨y, l, m, n, rfl, Y, m2, m5, hn, q⟩ := h
  refine ⟨_, pss_cons (ps_set (i := 3) sc64.nd rfl (Or.inl rfl) (pe_lst pa_nil))
    (pss_cons (ps_for PassesOwn.never rfl (pi_range1 rfl T.range (pa_cons (pv 2) pa_nil)) (pg_name (i := 4) sc64.nd rfl (Or.inl rfl))
      (pss_cons (ps_set (i := 5) sc64.nd rfl (Or.inl rfl) (C8.pe_c c1 hr (by decide) rfl (pa_cons (pv 0) (pa_cons (pe_op op_sub (pv 1) pe_int) pa_nil))))
      (pss_cons (ps_set (i := 6) sc64.nd rfl (Or.inl rfl) (pe_op op_add_str (pe_op op_add_str (pe_op op_add_str pe_str (C8.pe_c c2 hr (by decide) rfl (pa_cons (pv 0) (pa_cons (pv 5) pa_nil)))) pe_str) (C8.pe_c c2 hr (by decide) rfl (pa_cons (pv 0) (pa_cons (pe_op op_sub (pe_op op_sub (pv 1) pe_int) (pv 5)) pa_nil)))))
      (pss_one (ps_if (pt_cmpR op_notIn_seq (pv 6) (pv 3) rfl) (pss_one (ps_expr (pe_bm PySem.F.plainAttrs_list PySem.F.slot_list_append PySem.F.type_list_append mt_append (pv 3) (pa_cons (pv 6) pa_nil)))) pss_nil)))))
    (pss_one (ps_ret (pv 3)))), ?_⟩
  have hly := Y.ne
  refine ⟨(by decide : 0 ≤ sizeLine), fun fp nf => ?_⟩
  have nfy : fp ≠ y := fun z => Y.some (by rw [← z]; exact nf)
  have nfl : fp ≠ l := fun z => Y.someL (by rw [← z]; exact nf)
  refine ⟨_, rfl, _, rfl, by decide, by decide, for_range (n := 1) (fun i σ H1 => Kp y H H1 ∧ Yarn H1 y l (n + 201 * i) ∧ (i = 0 → H1 fp = some (.lst [])) ∧ (i = 1 → ∃ x, Pl m x ∧ H1 fp = some (.lst (txs [x]))) ∧
    ∃ a b d, σ = [some (.ref y), some (.int (m : Int)), some (.int 1), some (.ref fp), a, b, d]) ?_ ?_ ?_⟩
  · exact ⟨(Kp.refl y H).new nf, Y.put nfy nfl, fun _ => upd_same, (fun z => nomatch z), none, none, none, rfl⟩
  · rintro i σ H1 hi ⟨kp, Y1, hf, _, a, b, d, rfl⟩
    have hi : i = 0 := by omega
    subst hi
    have hf := hf rfl
    refine ⟨_, rfl, _, rfl, _, _, rfl, rfl, y, l, (m : Int) - 1, n, rfl, Y1, by omega, by omega, by omega, fun r H2 r0 r1 k2 Y2 => ?_⟩
    obtain ⟨j, rfl⟩ : ∃ j : Nat, r = (j : Int) := ⟨r.toNat, by omega⟩
    refine ⟨_, rfl, _, rfl, y, l, j, n + 1, rfl, Y2, by omega, by omega, fun u H3 du lu k3 Y3 => ?_⟩
    have L : ∀ {z : Wd}, z.length ≤ 1000 → (en z).length ≤ sizeLine := fun {z} h => by rw [en_len]; exact szle (by omega)
    have e1 : ("110" : Str) ++ en u = en ([true, true, false] ++ u) := by rw [← en110, en_app]
    have e2 : ("110" : Str) ++ en u ++ ("0" : Str) = en ([true, true, false] ++ u ++ [false]) := by rw [e1, ← en0, en_app]
    refine ⟨_, _, rfl, rfl, ?_, _, _, rfl, rfl, ?_, _, rfl, _, rfl, _, _, rfl, rfl, _, rfl, _, _, rfl, rfl, y, l, m - 2 - j, n + 1 + 100, ?_, Y3, by omega, by omega, fun v H4 dv lv k4 Y4 => ?_⟩
    · rw [← en110, en_len, en_len]; exact szle (by simp; omega)
    · rw [e1, ← en0, en_len, en_len]; exact szle (by simp; omega)
    · rw [show ((m - 2 - j : Nat) : Int) = (m : Int) - 2 - (j : Int) by omega]; rfl
    refine ⟨_, _, rfl, rfl, ?_, ?_⟩
    · rw [e2, en_len, en_len]; exact szle (by simp; omega)
    rw [e2, en_app]
    have hP : Pl m ([true, true, false] ++ u ++ [false] ++ v) := by
      refine ⟨?_, rfl, by simp; omega⟩
      have := Dyck.cons (u := true :: false :: u) (v := v) (Dyck.cons (u := []) Dyck.nil du) dv
      simpa using this
    have hf4 : H4 fp = some (.lst []) := k4 _ _ nfy (k3 _ _ nfy (k2 _ _ nfy hf))
    refine ⟨_, rfl, _, rfl, fp, [], rfl, .inl (SqL.of hf4), rfl, rfl, true, rfl, iteT ⟨_, rfl, .inl ⟨rfl, _, SqL.of hf4⟩, _, rfl, fp, _, _, rfl, rfl, hf4, by decide, ?_⟩⟩
    exact ⟨(kp.trans (k2.trans (k3.trans k4))).new nf, (Y4.put nfy nfl).mono (by omega), (fun z => nomatch z), fun _ => ⟨_, hP, upd_same⟩, _, _, _, rfl⟩
  · rintro σ H1 ⟨kp, Y1, _, hf, a, b, d, rfl⟩
    obtain ⟨x, hP, hf⟩ := hf rfl
    exact ⟨_, rfl, q fp x H1 hP kp Y1 nf hf⟩
/-! ### _law_end, _law_turned, _law_tree -/
def spEnd : Sp := fun vs H Q _ => ∃ u v : Wd, Dyck u ∧ vs = [.str (en (true :: (u ++ false :: v)))] ∧ u.length + v.length ≤ 1000 ∧ ∀ H', Same H H' → Q (.int ((u.length + 1 : Nat) : Int)) H'
theorem sc65 : FnScope ["_law_word_here", "_law_deep", "_law_at", "_law_sign"] ["_law_word_here"] (C8.fnScope (top 65)) := C8.fnScope_by (by decide +kernel)
theorem ok_end (D : Dd K mg "_law_end" (top 65) ["_law_word_here"]) (T : Tx mg) : Cl P w K mg base 1 "_law_end" spEnd := by
  refine D.cal sc65 (fun vs H Q E ⟨u, v, _, e, _⟩ => by rw [e]; rfl) fun f cdv A outer s H vs Q E hr h => ?_
  obtain ⟨u, v, hu, rfl, hl, q⟩ := h
  refine ⟨_, pss_cons (ps_set (i := 1) sc65.nd rfl (Or.inl rfl) pe_int)
    (pss_cons (ps_for PassesOwn.never rfl (pi_enumS rfl T.enum (pa_cons (pv 0) pa_nil)) (pg_tup rfl (pgs_cons (pg_name (i := 2) sc65.nd rfl (Or.inl rfl)) (pgs_cons (pg_name (i := 3) sc65.nd rfl (Or.inl rfl)) pgs_nil)))
      (pss_cons (ps_set (i := 1) sc65.nd rfl (Or.inl rfl) (pe_ifExp (pt_cmpR op_eq (pv 3) pe_str (nomark _)) (pe_op op_add (pv 1) pe_int) (pe_op op_sub (pv 1) pe_int)))
      (pss_one (ps_if (pt_cmpR op_eq (pv 1) pe_int (nomark _)) (pss_one (ps_ret (pv 2))) pss_nil))))
    (pss_one (ps_ret (pe_callB call_len_str (by rfl) T.len PySem.boot_len (pa_cons (pv 0) pa_nil))))), ?_⟩
  have hlen : (true :: (u ++ false :: v)).length = u.length + v.length + 2 := by simp; omega
  generalize hw : true :: (u ++ false :: v) = x at hlen ⊢
  refine ⟨_, rfl, _, rfl, for_it walk_enumS (fun i σ H1 => Same H H1 ∧ i ≤ u.length + 1 ∧ ∃ a b, σ = [some (.str (en x)), some (.int (ht (x.take i))), a, b]) ⟨Same.refl H, Nat.zero_le _, none, none, rfl⟩ (fun _ _ _ _ _ => trivial) ?_ ?_⟩
  · rintro i y σ H1 H2 hi ⟨sm, hk, a, b, rfl⟩ ⟨T0, y1, y2, rfl, n0, rfl, e1, e2⟩
    obtain rfl : V.int (i : Nat) = y1 := Option.some.inj e1
    rw [en_size] at hi
    have e2 : ((en x).cps[i]?).map (fun c => V.str ⟨#[c]⟩) = some y2 := e2
    rw [en_at, List.getElem?_eq_getElem hi] at e2
    obtain rfl : V.str ⟨#[sg x[i]]⟩ = y2 := Option.some.inj e2
    have hx : x[i]? = some x[i] := List.getElem?_eq_getElem hi
    generalize x[i] = c at hx
    have sm2 : Same H (upd H1 T0 (.tup [.int (i : Nat), .str ⟨#[sg c]⟩])) := fun p o e => (upd_ne (ne_of_none (sm p o e) n0)).trans (sm p o e)
    refine ⟨T0, _, rfl, SqT.of upd_same, rfl, _, _, rfl, _, _, rfl, rfl, ?_⟩
    have hd := ht_one x i c hx
    have deep : ∀ {Q : V → Hp → Prop} {H2 : Hp}, Q (.int (ht (x.take (i + 1)))) H2 → tIf (tTest (tOp rEq (tVar 3) (tC (.str "1")))) (tOp (rI0 fun i j => .int (i + j)) (tVar 1) (tC (.int 1))) (tOp (rI0 fun i j => .int (i - j)) (tVar 1) (tC (.int 1)))
        [some (.str (en x)), some (.int (ht (x.take i))), some (.int (i : Nat)), some (.str ⟨#[sg c]⟩)] H2 Q := fun {Q H2} q => by
      refine ⟨_, rfl, rfl, _, rfl, ?_⟩
      rw [dec_sign]
      cases c
      · exact iteF ⟨_, rfl, _, _, rfl, rfl, by rw [hd] at q; exact q⟩
      · exact iteT ⟨_, rfl, _, _, rfl, rfl, by rw [hd] at q; exact q⟩
    refine deep ⟨_, rfl, rfl, _, rfl, ?_⟩
    rw [dec_int]
    by_cases hend : i = u.length + 1
    · have h0 : ht (x.take (i + 1)) = 0 := by rw [hend, ← hw]; exact ht_ground hu
      rw [h0]
      refine iteT ⟨_, rfl, ?_⟩
      rw [hend]
      exact q _ (by rw [← hend]; exact sm2)
    · have h1 : 1 ≤ ht (x.take (i + 1)) := by rw [← hw]; exact ht_first hu (by omega)
      have hf : (ht (x.take (i + 1)) == 0) = false := by rw [beq_eq_false_iff_ne]; omega
      rw [hf]
      exact iteF ⟨sm2, by omega, _, _, rfl⟩
  · rintro σ H1 ⟨_, hi, _⟩
    rw [en_size] at hi
    omega
theorem sc66 : FnScope ["_law_word_here", "_law_at"] ["_law_word_here"] (C8.fnScope (top 66)) := C8.fnScope_by (by decide +kernel)
theorem ok_lawTurned (D : Dd K mg "_law_turned" (top 66) ["_law_word_here"]) (c : Cl P w K mg base 1 "_law_end" spEnd) : Cl P w K mg base 2 "_law_turned" spTurned := by
  refine D.cal sc66 (fun vs H Q E ⟨x, _, _, e, _⟩ => by rw [e]; rfl) fun f cdv A outer s H vs Q E hr h => ?_
  obtain ⟨x, hx, hne, rfl, hl, q⟩ := h
  obtain ⟨u, v, hu, hv, rfl⟩ := hx.parts hne
  refine ⟨_, pss_cons (ps_set (i := 1) sc66.nd rfl (Or.inl rfl) (C8.pe_c c hr (by decide) rfl (pa_cons (pv 0) pa_nil)))
    (pss_one (ps_ret (pe_op op_add_str (pe_op op_add_str (pe_op op_add_str (pe_slice C8.sl_txt (pv 0) (po_some pe_int) (po_some (pv 1))) pe_str) (pe_slice C8.sl_txt (pv 0) (po_some (pe_op op_add (pv 1) pe_int)) po_none)) pe_str))), ?_⟩
  have hlen : (true :: (u ++ false :: v)).length = u.length + v.length + 2 := by simp; omega
  refine ⟨_, rfl, u, v, hu, rfl, by omega, fun H1 sm => ?_⟩
  have hs : (en (true :: (u ++ false :: v))).length ≤ sizeLine := by rw [en_len]; exact szle (by omega)
  have s1 : Txt.slice (en (true :: (u ++ false :: v))) (some (1 : Int)) (some ((u.length + 1 : Nat) : Int)) = en u := by
    rw [show (1 : Int) = ((1 : Nat) : Int) from rfl, slice_mid (by omega) (by omega)]
    simp
  have s2 : Txt.slice (en (true :: (u ++ false :: v))) (some (((u.length + 1 : Nat) : Int) + 1)) none = en v := by
    rw [show ((u.length + 1 : Nat) : Int) + 1 = ((u.length + 1 + 1 : Nat) : Int) by omega, slice_from]
    simp
  refine ⟨_, rfl, _, rfl, _, rfl, _, rfl, _, rfl, hs, ?_⟩
  rw [s1]
  refine ⟨_, _, rfl, rfl, ?_, _, rfl, _, rfl, _, _, rfl, rfl, _, rfl, _, rfl, hs, ?_⟩
  · rw [← en1, en_len, en_len]; exact szle (by simp; omega)
  rw [s2, ← en1, en_app]
  refine ⟨_, _, rfl, rfl, ?_, ?_⟩
  · rw [en_len, en_len]; exact szle (by simp; omega)
  rw [en_app, ← en0]
  refine ⟨_, _, rfl, rfl, ?_, ?_⟩
  · rw [en_len, en_len]; exact szle (by simp; omega)
  rw [en_app]
  have e : (u ++ [true] ++ v ++ [false] : Wd) = turn (true :: (u ++ false :: v)) := by rw [turn_cons hu]; simp
  rw [e]
  exact q H1 sm
theorem sc67 : FnScope ["_law_word_here", "_law_found", "_law_turn", "_law_later"] ["_law_word_here"] (C8.fnScope (top 67)) := C8.fnScope_by (by decide +kernel)
theorem ok_tree (D : Dd K mg "_law_tree" (top 67) ["_law_word_here"]) (T : Tx mg) (c : Cl P w K mg base 2 "_law_turned" spTurned) : Cl P w K mg base 3 "_law_tree" spTurns := by
  refine D.cal sc67 (fun vs H Q E ⟨x, _, _, e, _⟩ => by rw [e]; rfl) fun f cdv A outer s H vs Q E hr h => ?_
  obtain ⟨x, hx, hne, rfl, hl, q⟩ := h
  refine ⟨_, pss_cons (ps_set (i := 1) sc67.nd rfl (Or.inl rfl) (pe_lst (pa_cons (pv 0) pa_nil)))
    (pss_cons (ps_for PassesOwn.never rfl (pi_range1 rfl T.range (pa_cons (pe_callB call_len_str (by rfl) T.len PySem.boot_len (pa_cons (pv 0) pa_nil)) pa_nil)) (pg_name (i := 2) sc67.nd rfl (Or.inl rfl))
      (pss_cons (ps_set (i := 3) sc67.nd rfl (Or.inl rfl) (C8.pe_c c hr (by decide) rfl (pa_cons (pe_ix ix_list (pv 1) (pe_un un_neg pe_int) (fun _ _ => rfl)) pa_nil)))
      (pss_cons (ps_if (pt_cmpR op_eq (pv 3) (pv 0) (nomark _)) (pss_one ps_break) pss_nil)
      (pss_one (ps_expr (pe_bm PySem.F.plainAttrs_list PySem.F.slot_list_append PySem.F.type_list_append mt_append (pv 1) (pa_cons (pv 3) pa_nil)))))))
    (pss_one (ps_ret (pv 1)))), ?_⟩
  obtain ⟨n, n0, hn, hper, hmin⟩ := turn_per hx hne
  have hs : (en x).length ≤ sizeLine := by rw [en_len]; exact szle (by omega)
  refine ⟨_, rfl, (by decide : 1 ≤ sizeLine), fun p np => ⟨_, rfl, _, rfl, hs, _, rfl, ?_, ?_, ?_⟩⟩
  · rw [en_len]; omega
  · rw [en_len]; omega
  rw [en_len, Int.toNat_natCast]
  refine for_range (fun i σ H1 => i + 1 ≤ n ∧ Same H H1 ∧ H1 p = some (.lst (txs (orb turn (i + 1) x))) ∧ ∃ a b, σ = [some (.str (en x)), some (.ref p), a, b]) ?_ ?_ ?_
  · exact ⟨n0, fun b o e => (upd_ne (ne_of_none e np)).trans e, upd_same, none, none, rfl⟩
  · rintro i σ H1 hi ⟨hin, sm, hp, a, b, rfl⟩
    have e1 : txs (orb turn (i + 1) x) = txs (orb turn i x) ++ [V.str (en (it turn i x))] := by rw [orb_succ]; simp [txs]
    have di := hx.itTurn i
    have ni : it turn i x ≠ [] := fun z => hne (List.eq_nil_of_length_eq_zero (by rw [← itTurn_len hx i, z]; rfl))
    refine ⟨_, rfl, _, rfl, p, _, _, _, rfl, rfl, SqL.of hp, by rw [e1]; exact atI_last _ _, it turn i x, di, ni, rfl, by rw [itTurn_len hx]; exact hl, fun H2 s2 => ?_⟩
    have p2 := s2 _ _ hp
    rw [← it_succ turn i x]
    refine ⟨_, rfl, _, rfl, rfl, _, rfl, ?_⟩
    rw [dec_en]
    by_cases hend : i + 1 = n
    · rw [hend, hper, decide_eq_true rfl]
      rw [hend] at p2
      exact iteT ⟨_, rfl, q n p H2 n0 hn hper hmin (sm.trans s2) np p2⟩
    · rw [decide_eq_false (hmin (i + 1) (by omega) (by omega))]
      refine iteF ⟨_, rfl, .inl ⟨rfl, _, SqL.of p2⟩, _, rfl, p, _, _, rfl, rfl, p2, szlt (by simp [orb]; omega), by omega, fun b o e => (upd_ne (ne_of_none e np)).trans (s2 b o (sm b o e)), ?_, _, _, rfl⟩
      rw [upd_same, orb_succ turn (i + 1) x]
      simp [txs]
  · rintro σ H1 ⟨hin, _⟩
    omega
end
end Eh

set_option maxHeartbeats 4000000
/-! The names of trees (the least of their words), and lots by names. -/
namespace Eh
open PySem PySem.Spec PyProof.Rows L2
/-! ### the least -/
theorem minOf_ok : ∀ (xs : List Str) (x : Str), PySem.W.minOf x xs ∈ x :: xs ∧ ∀ y ∈ x :: xs, ¬ y.cps.toList < (PySem.W.minOf x xs).cps.toList
  | [], x => ⟨by simp [PySem.W.minOf], fun y hy => by
      obtain rfl := List.mem_singleton.mp hy
      exact List.lt_irrefl _⟩
  | y :: xs, x => by
    have e : PySem.W.minOf x (y :: xs) = PySem.W.minOf (if PySem.W.DatumOrd.lt y x = true then y else x) xs := rfl
    rw [e]
    obtain ⟨h1, h2⟩ := minOf_ok xs (if PySem.W.DatumOrd.lt y x = true then y else x)
    have lt_iff : PySem.W.DatumOrd.lt y x = true ↔ y.cps.toList < x.cps.toList := decide_eq_true_iff
    by_cases h : PySem.W.DatumOrd.lt y x = true
    · rw [if_pos h] at h1 h2 ⊢
      refine ⟨List.mem_cons_of_mem _ h1, fun z hz => ?_⟩
      rcases List.mem_cons.mp hz with rfl | hz
      · intro z2
        exact h2 y List.mem_cons_self (List.lt_trans (lt_iff.mp h) z2)
      · exact h2 z hz
    · rw [if_neg h] at h1 h2 ⊢
      refine ⟨?_, fun z hz => ?_⟩
      · rcases List.mem_cons.mp h1 with h1 | h1
        · rw [h1]; exact List.mem_cons_self
        · exact List.mem_cons_of_mem _ (List.mem_cons_of_mem _ h1)
      · rcases List.mem_cons.mp hz with rfl | hz
        · exact h2 _ List.mem_cons_self
        · rcases List.mem_cons.mp hz with rfl | hz
          · intro z2
            have h3 := h2 x List.mem_cons_self
            have h4 : ¬ z.cps.toList < x.cps.toList := fun q => h (lt_iff.mpr q)
            have h5 := List.not_lt.mp h3
            have h6 := List.not_lt.mp h4
            exact absurd z2 (List.not_lt.mpr (List.le_trans h5 h6))
          · exact h2 z (List.mem_cons_of_mem _ hz)
/-- z is the least word of the tree of x -/
structure Mn (x z : Wd) : Prop where
  on : O (pi []) x z
  le : ∀ y, O (pi []) x y → ¬ (en y).cps.toList < (en z).cps.toList
theorem Mn.uniq {x z z' : Wd} (h : Mn x z) (h' : Mn x z') : z = z' := by
  have h1 := List.not_lt.mp (h.le z' h'.on)
  have h2 := List.not_lt.mp (h'.le z h.on)
  have e := List.le_antisymm h1 h2
  have e2 : en z = en z' := by
    have : (en z).cps = (en z').cps := Array.ext' e
    calc en z = ⟨(en z).cps⟩ := rfl
      _ = ⟨(en z').cps⟩ := by rw [this]
      _ = en z' := rfl
  exact en_inj e2
theorem orb_head {α : Type} (f : α → α) {n : Nat} (h : 0 < n) (x : α) : ∃ r, orb f n x = x :: r := by
  obtain ⟨k, rfl⟩ : ∃ k, n = k + 1 := ⟨n - 1, by omega⟩
  unfold orb
  rw [List.range_succ_eq_map]
  exact ⟨_, rfl⟩
theorem min_on {x : Wd} {n : Nat} {r : List Wd} (n0 : 0 < n) (hn : it (pi []) n x = x) (e : orb (pi []) n x = x :: r) : ∃ z, PySem.W.minOf (en x) (r.map en) = en z ∧ Mn x z := by
  obtain ⟨h1, h2⟩ := minOf_ok (r.map en) (en x)
  have h1 : PySem.W.minOf (en x) (r.map en) ∈ (x :: r).map en := h1
  have h2 : ∀ y ∈ (x :: r).map en, ¬ y.cps.toList < (PySem.W.minOf (en x) (r.map en)).cps.toList := h2
  obtain ⟨z, hz, ez⟩ := List.mem_map.mp h1
  rw [← ez] at h2 ⊢
  rw [← e] at hz h2
  exact ⟨z, rfl, (orb_mem n0 hn).mp hz, fun y hy => h2 (en y) (List.mem_map.mpr ⟨y, (orb_mem n0 hn).mpr hy, rfl⟩)⟩
theorem Mn.ex (x : Wd) : ∃ z, Mn x z := by
  obtain ⟨n, n0, hn⟩ := per_pi bk_nil x
  obtain ⟨r, e⟩ := orb_head (pi []) n0 x
  obtain ⟨z, _, h⟩ := min_on n0 hn e
  exact ⟨z, h⟩
/-- the name of the tree of x -/
noncomputable def nm (x : Wd) : Wd := Classical.choose (Mn.ex x)
theorem nm_mn (x : Wd) : Mn x (nm x) := Classical.choose_spec (Mn.ex x)
theorem nm_iff (x y : Wd) : O (pi []) x y ↔ nm x = nm y := by
  have hp := per_pi bk_nil
  constructor
  · intro o
    have h : Mn y (nm x) := ⟨(O.symm hp o).trans (nm_mn x).on, fun z hz => (nm_mn x).le z (o.trans hz)⟩
    exact h.uniq (nm_mn y)
  · intro e
    have h := (nm_mn y).on
    rw [← e] at h
    exact (nm_mn x).on.trans (O.symm hp h)
/-- what min tells of a tree -/
theorem min_tree {x : Wd} {n : Nat} (hx : Dyck x) (n0 : 0 < n) (hn : it turn n x = x) : ∃ r, orb turn n x = x :: r ∧ PySem.W.minOf (en x) (r.map en) = en (nm x) := by
  rw [← it_pi_nil hx] at hn
  obtain ⟨r, e⟩ := orb_head (pi []) n0 x
  obtain ⟨z, e2, h⟩ := min_on n0 hn e
  rw [← orb_pi_nil hx]
  exact ⟨r, e, by rw [e2, h.uniq (nm_mn x)]⟩
/-! ### lots by names -/
/-- a dict from texts of words -/
abbrev enD (D : List (Wd × V)) : List (Key × V) := D.map fun p => ((Sum.inr (en p.1) : Key), p.2)
theorem val_enD (D : List (Wd × V)) (z : Wd) : valV (enD D) (Sum.inr (en z)) = valV D z := by
  induction D with
  | nil => rfl
  | cons p D ih =>
    by_cases h : p.1 = z
    · rw [valV_pos (p := p) h]
      exact valV_pos (p := ((Sum.inr (en p.1) : Key), p.2)) (by rw [h])
    · rw [valV_neg (p := p) h, ← ih]
      exact valV_neg (p := ((Sum.inr (en p.1) : Key), p.2)) (fun e => h (en_inj (Sum.inr.inj e)))
theorem put_enD (D : List (Wd × V)) (z : Wd) (v : V) : putK (enD D) (Sum.inr (en z)) v = enD (putK D z v) := by
  have e1 : ((enD D).any fun kv => decide (kv.1 = (Sum.inr (en z) : Key))) = D.any fun kv => decide (kv.1 = z) := by
    rw [valV_any, valV_any, val_enD]
  unfold putK
  rw [e1]
  by_cases h : (D.any fun kv => decide (kv.1 = z)) = true
  · rw [if_pos h, if_pos h, List.map_map]
    show _ = List.map _ (List.map _ D)
    rw [List.map_map]
    refine List.map_congr_left fun p _ => ?_
    show (if (Sum.inr (en p.1) : Key) = Sum.inr (en z) then ((Sum.inr (en p.1) : Key), v) else (Sum.inr (en p.1), p.2)) = _
    by_cases hp : p.1 = z
    · show _ = ((Sum.inr (en (if p.1 = z then (p.1, v) else p).1) : Key), (if p.1 = z then (p.1, v) else p).2)
      rw [if_pos hp, if_pos (by rw [hp])]
    · show _ = ((Sum.inr (en (if p.1 = z then (p.1, v) else p).1) : Key), (if p.1 = z then (p.1, v) else p).2)
      rw [if_neg hp, if_neg (fun e => hp (en_inj (Sum.inr.inj e)))]
  · rw [if_neg h, if_neg h]
    simp
/-- the dict's lot of each name: itself where it has none -/
structure Lots (D : List (Wd × V)) (L : Wd → Wd) : Prop where
  look : ∀ z, valV D z = some (.str (en (L z))) ∨ (valV D z = none ∧ L z = z)
  cl : ∀ z, (valV D z).isSome = true → (valV D (L z)).isSome = true
theorem Lots.get {D : List (Wd × V)} {L : Wd → Wd} (h : Lots D L) (z : Wd) : (valV D z).getD (.str (en z)) = .str (en (L z)) := by
  rcases h.look z with e | ⟨e, e2⟩
  · rw [e]; rfl
  · rw [e, e2]; rfl
theorem Lots.put {D : List (Wd × V)} {L : Wd → Wd} (h : Lots D L) (a : Wd) : Lots (putK D a (.str (en (L a)))) L ∧ (valV (putK D a (.str (en (L a)))) a).isSome = true := by
  refine ⟨⟨fun z => ?_, fun z hz => ?_⟩, ?_⟩
  · rw [valV_put]
    by_cases e : z = a
    · rw [if_pos e, e]; exact .inl rfl
    · rw [if_neg e]; exact h.look z
  · rw [valV_put] at hz ⊢
    by_cases e : L z = a
    · rw [if_pos e]; rfl
    · rw [if_neg e]
      by_cases e2 : z = a
      · subst e2
        rcases h.look z with q | ⟨q, q2⟩
        · exact h.cl z (by rw [q]; rfl)
        · exact absurd q2 e
      · rw [if_neg e2] at hz
        exact h.cl z hz
  · rw [valV_put, if_pos rfl]; rfl
theorem key_put {D : List (Wd × V)} (a z : Wd) (v : V) (h : (valV D z).isSome = true) : (valV (putK D a v) z).isSome = true := by
  rw [valV_put]
  split
  · rfl
  · exact h
/-- one lot goes over into another -/
def over (m t : Wd) (z : Wd) : Wd := if z = t then m else z
/-- the names so far gone over -/
structure Half (D0 D : List (Wd × V)) (L : Wd → Wd) (m t : Wd) (done : List Wd) : Prop where
  keys : D.map (·.1) = D0.map (·.1)
  val : ∀ z, (valV D0 z).isSome = true → valV D z = some (.str (en (if z ∈ done then over m t (L z) else L z)))
theorem val_key {D : List (Wd × V)} {z : Wd} : (valV D z).isSome = true ↔ z ∈ D.map (·.1) := by
  induction D with
  | nil => simp [valV_nil]
  | cons p D ih =>
    by_cases h : p.1 = z
    · rw [valV_pos h]; simp [h]
    · rw [valV_neg h, ih]; simp [Ne.symm h]
theorem Half.step {D0 D : List (Wd × V)} {L : Wd → Wd} {m t : Wd} {done : List Wd} (h : Half D0 D L m t done) {z : Wd} (hz : (valV D0 z).isSome = true) {v : V} (hv : v = .str (en (over m t (L z)))) : Half D0 (putK D z v) L m t (done ++ [z]) := by
  have hzD : (D.any fun kv => decide (kv.1 = z)) = true := by rw [valV_any, h.val z hz]; rfl
  refine ⟨?_, fun y hy => ?_⟩
  · rw [← h.keys]
    unfold putK
    rw [if_pos hzD, List.map_map]
    refine List.map_congr_left fun p _ => ?_
    show (if p.1 = z then (p.1, v) else p).1 = p.1
    split <;> rfl
  · rw [valV_put]
    by_cases e : y = z
    · subst e
      rw [if_pos rfl, hv, if_pos (by simp)]
    · rw [if_neg e, h.val y hy]
      have : (y ∈ done ++ [z]) ↔ y ∈ done := by simp [e]
      simp only [this]
theorem Half.all {D0 D : List (Wd × V)} {L : Wd → Wd} {m t : Wd} (h : Half D0 D L m t (D0.map (·.1))) (l : Lots D0 L) (hm : (valV D0 m).isSome = true) (ht : (valV D0 t).isSome = true) : Lots D (fun z => over m t (L z)) := by
  have keyD : ∀ z, (valV D z).isSome = true ↔ (valV D0 z).isSome = true := fun z => by rw [val_key, val_key, h.keys]
  refine ⟨fun z => ?_, fun z hz => ?_⟩
  · by_cases hz : (valV D0 z).isSome = true
    · have := h.val z hz
      rw [if_pos (val_key.mp hz)] at this
      exact .inl this
    · have hn : valV D0 z = none := by
        cases e : valV D0 z with
        | none => rfl
        | some v => rw [e] at hz; exact absurd rfl hz
      have hn2 : valV D z = none := by
        cases e : valV D z with
        | none => rfl
        | some v => exact absurd ((keyD z).mp (by rw [e]; rfl)) hz
      refine .inr ⟨hn2, ?_⟩
      rcases l.look z with q | ⟨_, q⟩
      · rw [q] at hn; cases hn
      · unfold over
        rw [q, if_neg (fun e => by rw [e] at hz; exact hz ht)]
  · rw [keyD] at hz ⊢
    unfold over
    split
    · exact hm
    · exact l.cl z hz
/-- lots by names are the lots of the book -/
def Named (B : List Wd) (L : Wd → Wd) : Prop := ∀ x y, comp B x y ↔ L (nm x) = L (nm y)
theorem Named.nil : Named [] (fun z => z) := fun x y => nm_iff x y
theorem Named.step {B : List Wd} {L : Wd → Wd} (h : Named B L) (x : Wd) : Named (x :: B) (fun z => over (L (nm x)) (L (nm (pull x))) (L z)) := fun u v =>
  join_names (f := fun z => L (nm z)) h (a := x) (b := pull x) u v
theorem Named.same {B : List Wd} {L : Wd → Wd} (h : Named B L) {x : Wd} (e : L (nm x) = L (nm (pull x))) : Named (x :: B) L := fun u v => by
  rw [h.step x u v]
  have id : ∀ z, over (L (nm x)) (L (nm (pull x))) z = z := fun z => by
    unfold over
    split
    · rename_i q; rw [q, e]
    · rfl
  show over _ _ (L (nm u)) = over _ _ (L (nm v)) ↔ _
  rw [id, id]
open Classical in
theorem Named.jn {B : List Wd} {L : Wd → Wd} (h : Named B L) (x : Wd) : jn (x :: B) = jn B + (if L (nm x) = L (nm (pull x)) then 0 else 1) := by
  show (if comp B x (pull x) then 0 else 1) + Eh.jn B = _
  by_cases q : L (nm x) = L (nm (pull x))
  · rw [if_pos q, if_pos ((h _ _).mpr q)]; omega
  · rw [if_neg q, if_neg (fun z => q ((h _ _).mp z))]; omega
end Eh

set_option maxHeartbeats 4000000
/-! Walks of the law: how many joinings. -/
namespace Eh
open PySem PySem.Spec PyProof.Rows L2
section
variable {P : Program} {w : World} {K : PySem.W.Frag} {mg : Str → Option Value} {base : Heap} {C : Addr}
theorem put_len {D : List (Wd × V)} (z : Wd) (v : V) : (putK D z v).length ≤ D.length + 1 := by
  unfold putK
  split <;> simp
theorem over_over {m t : Wd} (h : m ≠ t) (y : Wd) : over m t (over m t y) = over m t y := by
  unfold over
  by_cases e : y = t
  · rw [if_pos e, if_neg h]
  · rw [if_neg e, if_neg e]
theorem keys_txs (D : List (Wd × V)) : ((enD D).map fun kv => kV kv.1) = txs (D.map (·.1)) := by
  rw [List.map_map]
  show _ = List.map _ (List.map _ D)
  rw [List.map_map]
  rfl
def spLeft : Sp := fun vs H Q _ => ∃ (l : Addr) (m : Nat) (ws : List Wd), vs = [.ref l] ∧ H l = some (.lst (txs ws)) ∧ (∀ x ∈ ws, Pl m x) ∧ ws.length ≤ 60 ∧ 2 ≤ m ∧ m ≤ 50 ∧ ∀ H', Same H H' → Q (.int ((jn ws.reverse : Nat) : Int)) H'
theorem sc71 : FnScope ["_law_words", "_law_lots_here", "_law_joinings", "_law_word_here", "_law_one_here", "_law_other", "_law_mine", "_law_its", "_law_name"] ["_law_words"] (C8.fnScope (top 71)) := C8.fnScope_by (by decide +kernel)
/-- the state behind these words -/
def Joined (H : Hp) (l d : Addr) (B : List Wd) (n : Nat) (σ : L2.St) (H1 : Hp) : Prop :=
  ∃ (D : List (Wd × V)) (L : Wd → Wd), Lots D L ∧ Named B L ∧ D.length ≤ 2 * n ∧ Same H H1 ∧ H1 d = some (.dK (enD D)) ∧
    ∃ a b c e g k, σ = [some (.ref l), some (.ref d), some (.int ((jn B : Nat) : Int)), a, b, c, e, g, k]
theorem ok_left (D : Dd K mg "_law_lots_left" (top 71) ["_law_words"]) (T : Tx mg) (c : Cl P w K mg base 3 "_law_tree" spTurns) : Cl P w K mg base 4 "_law_lots_left" spLeft := by
  refine D.cal sc71 (fun vs H Q E ⟨l, m, ws, e, _⟩ => by rw [e]; rfl) fun f cdv A outer s H vs Q E hr h => ?_
  obtain ⟨l, m, ws, rfl, hl, hP, hlen, m2, m5, q⟩ := h
  refine ⟨_, pss_cons (ps_par (i := 1) (j := 2) rfl sc71.nd rfl rfl (by decide) rfl rfl (pa_cons pe_dnewK (pa_cons pe_int pa_nil)) (by rfl))
    (pss_cons (ps_for PassesOwn.never rfl (pi_list (pv 0)) (pg_name (i := 3) sc71.nd rfl (Or.inl rfl))
      (pss_cons (ps_par (i := 4) (j := 5) rfl sc71.nd rfl rfl (by decide) rfl rfl (pa_cons (pe_callB (cr_minT rfl (hu_of hr)) (by rfl) T.min (by decide +kernel) (pa_cons (C8.pe_c c hr (by decide) rfl (pa_cons (pv 3) pa_nil)) pa_nil))
          (pa_cons (pe_callB (cr_minT rfl (hu_of hr)) (by rfl) T.min (by decide +kernel) (pa_cons (C8.pe_c c hr (by decide) rfl (pa_cons (pe_op op_add_str pe_str (pe_slice C8.sl_txt (pv 3) (po_some pe_int) po_none)) pa_nil)) pa_nil)) pa_nil)) (by rfl))
      (pss_cons (ps_par (i := 6) (j := 7) rfl sc71.nd rfl rfl (by decide) rfl rfl (pa_cons (pe_dget2 (hu_of hr) (pv 1) (pv 4) (pv 4) ⟨rfl, rfl, rfl, rfl⟩) (pa_cons (pe_dget2 (hu_of hr) (pv 1) (pv 5) (pv 5) ⟨rfl, rfl, rfl, rfl⟩) pa_nil)) (by rfl))
      (pss_cons (ps_asg (pe_tup (pa_cons (pv 6) (pa_cons (pv 7) pa_nil))) (pg_tup rfl (pgs_cons (pg_sub (pv 1) (pv 4) (set_dict (hu_of hr))) (pgs_cons (pg_sub (pv 1) (pv 5) (set_dict (hu_of hr))) pgs_nil))))
      (pss_one (ps_if (pt_cmpR op_ne (pv 6) (pv 7) (nomark _))
        (pss_cons (ps_set (i := 2) sc71.nd rfl (Or.inl rfl) (pe_op op_add (pv 2) pe_int))
        (pss_one (ps_for PassesOwn.never rfl (pi_list (pe_callTy (call_list_dK rfl) (by rfl) T.list (by decide +kernel) (pa_cons (pv 1) pa_nil))) (pg_name (i := 8) sc71.nd rfl (Or.inl rfl))
          (pss_one (ps_asg (pe_ifExp (pt_cmpR op_eq (pe_dget (hu_of hr) (pv 1) (pv 8) (fun _ _ => rfl)) (pv 7) (nomark _)) (pv 6) (pe_dget (hu_of hr) (pv 1) (pv 8) (fun _ _ => rfl))) (pg_sub (pv 1) (pv 8) (set_dict (hu_of hr)))))))) pss_nil))))))
    (pss_one (ps_ret (pv 2)))), ?_⟩
  refine fun d nd => ⟨_, _, rfl, ?_⟩
  have hld : l ≠ d := ne_of_none hl nd
  refine ⟨_, rfl, l, rfl, ⟨_, SqL.of ((upd_ne hld).trans hl)⟩, for_it (walk_list (xs := txs ws)) (fun i σ H1 => Joined H l d (ws.take i).reverse i σ H1) ?_ ?_ ?_ ?_⟩
  · refine ⟨[], fun z => z, ⟨fun z => .inr ⟨rfl, rfl⟩, fun z hz => by cases hz⟩, Named.nil, Nat.zero_le _, fun b o e => (upd_ne (ne_of_none e nd)).trans e, upd_same, none, none, none, none, none, none, rfl⟩
  · rintro i σ H1 _ ⟨D, L, _, _, _, sm, _⟩
    exact SqL.of (sm _ _ hl)
  · rintro i y σ H1 H1' hi ⟨D, L, lo, na, dl, sm, hd, a, b, c', e, g, k, rfl⟩ ⟨rfl, hy⟩
    have hi : i < ws.length := by simpa using hi
    have hy : (ws.map fun y => V.str (en y))[i]? = some y := hy
    rw [List.getElem?_map, List.getElem?_eq_getElem hi] at hy
    obtain rfl : V.str (en ws[i]) = y := Option.some.inj hy
    have hx := hP ws[i] (List.getElem_mem hi)
    have et : (ws.take (i + 1)).reverse = ws[i] :: (ws.take i).reverse := by rw [List.take_add_one, List.getElem?_eq_getElem hi]; simp
    unfold Joined
    rw [et]
    generalize (ws.take i).reverse = B at na ⊢
    generalize ws[i] = x at hx ⊢
    have hxl := hx.len
    have hp := hx.dy.pull hx.can
    have hpl := pull_len hx.can
    have ne1 : x ≠ [] := fun z => by rw [z] at hxl; simp at hxl; omega
    have ne2 : pull x ≠ [] := fun z => by rw [z] at hpl; simp at hpl; omega
    have hs : (en x).length ≤ sizeLine := by rw [en_len]; exact szle (by omega)
    refine ⟨_, rfl, x, hx.dy, ne1, rfl, by omega, fun n1 L1 H2 n0 hn hper hmin s2 nL1 hL1 => ?_⟩
    obtain ⟨r1, er1, em1⟩ := min_tree hx.dy n0 hper
    rw [er1] at hL1
    refine ⟨L1, en x, r1.map en, rfl, by rw [← List.map_cons, ← txs_eq]; exact SqL.of hL1, ?_⟩
    rw [em1]
    refine ⟨_, rfl, _, rfl, _, rfl, hs, ?_⟩
    have e3 : Txt.slice (en x) (some (3 : Int)) none = en (x.drop 3) := slice_from 3
    rw [e3]
    refine ⟨_, _, rfl, rfl, ?_, ?_⟩
    · rw [← en101, en_len, en_len, List.length_drop]; exact szle (by simp; omega)
    rw [← en101, en_app]
    refine ⟨pull x, hp, ne2, rfl, by omega, fun n2 L2 H3 n0' hn' hper' hmin' s3 nL2 hL2 => ?_⟩
    obtain ⟨r2, er2, em2⟩ := min_tree hp n0' hper'
    rw [er2] at hL2
    refine ⟨L2, en (pull x), r2.map en, rfl, by rw [← List.map_cons, ← txs_eq]; exact SqL.of hL2, ?_⟩
    rw [em2]
    refine ⟨_, _, rfl, ?_⟩
    have s03 : Same H H3 := sm.trans (s2.trans s3)
    have hd3 : H3 d = some (.dK (enD D)) := s3 _ _ (s2 _ _ hd)
    refine ⟨_, rfl, d, rfl, .inl ⟨_, .inl hd3⟩, _, rfl, _, rfl, _, DGet.k (k := Sum.inr (en (nm x))) hd3, ?_⟩
    rw [val_enD, lo.get]
    refine ⟨_, rfl, d, rfl, .inl ⟨_, .inl hd3⟩, _, rfl, _, rfl, _, DGet.k (k := Sum.inr (en (nm (pull x)))) hd3, ?_⟩
    rw [val_enD, lo.get]
    refine ⟨_, _, rfl, ?_⟩
    refine ⟨_, rfl, _, rfl, (by decide : 2 ≤ sizeLine), fun t nt => ?_⟩
    have hd4 : upd H3 t (.tup [V.str (en (L (nm x))), V.str (en (L (nm (pull x))))]) d = some (.dK (enD D)) := (upd_ne (ne_of_none hd3 nt)).trans hd3
    have s04 : Same H (upd H3 t (.tup [V.str (en (L (nm x))), V.str (en (L (nm (pull x))))])) := fun b o e => (upd_ne (ne_of_none (s03 b o e) nt)).trans (s03 b o e)
    refine ⟨t, _, rfl, SqT.of upd_same, rfl, _, _, rfl, _, rfl, _, rfl, d, _, rfl, DPut.k (k := Sum.inr (en (nm x))) hd4 (szlt (by simp; omega)), _, _, rfl, _, rfl, _, rfl, d, _, rfl, DPut.k (k := Sum.inr (en (nm (pull x)))) upd_same ?_, rfl, ?_⟩
    · refine szlt ?_
      have := length_putK (enD D) (Sum.inr (en (nm x))) (V.str (en (L (nm x))))
      simp only [List.length_map] at this
      omega
    generalize hH4 : upd H3 t (.tup [V.str (en (L (nm x))), V.str (en (L (nm (pull x))))]) = H4 at hd4 s04 ⊢
    obtain ⟨lo1, k1⟩ := lo.put (nm x)
    obtain ⟨lo2, k2⟩ := lo1.put (nm (pull x))
    have k1 := key_put (nm (pull x)) (nm x) (.str (en (L (nm (pull x))))) k1
    have s06 : Same H (upd (upd H4 d (.dK (putK (enD D) (Sum.inr (en (nm x))) (V.str (en (L (nm x))))))) d (.dK (putK (putK (enD D) (Sum.inr (en (nm x))) (V.str (en (L (nm x))))) (Sum.inr (en (nm (pull x)))) (V.str (en (L (nm (pull x)))))))) := fun b o e =>
      (upd_ne (ne_of_none e nd)).trans ((upd_ne (ne_of_none e nd)).trans (s04 b o e))
    have hd6 : upd (upd H4 d (.dK (putK (enD D) (Sum.inr (en (nm x))) (V.str (en (L (nm x))))))) d (.dK (putK (putK (enD D) (Sum.inr (en (nm x))) (V.str (en (L (nm x))))) (Sum.inr (en (nm (pull x)))) (V.str (en (L (nm (pull x))))))) d =
        some (.dK (enD (putK (putK D (nm x) (V.str (en (L (nm x))))) (nm (pull x)) (V.str (en (L (nm (pull x)))))))) := by rw [upd_same, put_enD, put_enD]
    generalize upd (upd H4 d (.dK (putK (enD D) (Sum.inr (en (nm x))) (V.str (en (L (nm x))))))) d (.dK (putK (putK (enD D) (Sum.inr (en (nm x))) (V.str (en (L (nm x))))) (Sum.inr (en (nm (pull x)))) (V.str (en (L (nm (pull x))))))) = H6 at s06 hd6 ⊢
    have dl2 : (putK (putK D (nm x) (V.str (en (L (nm x))))) (nm (pull x)) (V.str (en (L (nm (pull x)))))).length ≤ 2 * (i + 1) := by
      have h1 := put_len (D := D) (nm x) (V.str (en (L (nm x))))
      have h2 := put_len (D := putK D (nm x) (V.str (en (L (nm x))))) (nm (pull x)) (V.str (en (L (nm (pull x)))))
      omega
    generalize putK (putK D (nm x) (V.str (en (L (nm x))))) (nm (pull x)) (V.str (en (L (nm (pull x))))) = D1 at lo2 k1 k2 hd6 dl2
    have hj := na.jn x
    refine ⟨_, rfl, _, rfl, rfl, _, rfl, ?_⟩
    rw [dec_en]
    by_cases e : L (nm x) = L (nm (pull x))
    · rw [decide_eq_true e]
      rw [if_pos e, Nat.add_zero] at hj
      refine iteF ⟨D1, L, lo2, na.same e, dl2, s06, hd6, some (.str (en x)), some (.str (en (nm x))), some (.str (en (nm (pull x)))), some (.str (en (L (nm x)))), some (.str (en (L (nm (pull x))))), k, ?_⟩
      rw [hj]
      rfl
    · rw [decide_eq_false e]
      rw [if_neg e] at hj
      have hm := lo2.cl _ k1
      have ht := lo2.cl _ k2
      refine iteT ⟨_, rfl, _, _, rfl, rfl, ?_⟩
      refine ⟨_, rfl, d, _, rfl, hd6, fun kq nq => ⟨kq, rfl, ⟨_, SqL.of upd_same⟩, ?_⟩⟩
      have s07 : Same H (upd H6 kq (.lst ((enD D1).map fun kv => kV kv.1))) := fun b o e => (upd_ne (ne_of_none (s06 b o e) nq)).trans (s06 b o e)
      have hd7 : upd H6 kq (.lst ((enD D1).map fun kv => kV kv.1)) d = some (.dK (enD D1)) := (upd_ne (ne_of_none hd6 nq)).trans hd6
      have hq7 : upd H6 kq (.lst ((enD D1).map fun kv => kV kv.1)) kq = some (.lst (txs (D1.map (·.1)))) := by rw [upd_same, keys_txs]
      have nqd : kq ≠ d := ne_of hq7 hd7 (fun z => nomatch z)
      generalize upd H6 kq (.lst ((enD D1).map fun kv => kV kv.1)) = H7 at s07 hd7 hq7 ⊢
      refine for_it (walk_list (xs := txs (D1.map (·.1)))) (fun j σ H8 => ∃ D2, Half D1 D2 L (L (nm x)) (L (nm (pull x))) ((D1.map (·.1)).take j) ∧ Same H H8 ∧ H8 d = some (.dK (enD D2)) ∧ H8 kq = some (.lst (txs (D1.map (·.1)))) ∧
        ∃ k, σ = [some (.ref l), some (.ref d), some (.int ((jn B : Nat) + 1)), some (.str (en x)), some (.str (en (nm x))), some (.str (en (nm (pull x)))), some (.str (en (L (nm x)))), some (.str (en (L (nm (pull x))))), k]) ?_ ?_ ?_ ?_
      · refine ⟨D1, ⟨rfl, fun z hz => ?_⟩, s07, hd7, hq7, k, rfl⟩
        rcases lo2.look z with q | ⟨q, _⟩
        · rw [q]; rfl
        · rw [q] at hz; cases hz
      · rintro j σ H8 _ ⟨D2, _, _, _, h, _⟩
        exact SqL.of h
      · rintro j y σ H8 H8' hj2 ⟨D2, hf, s08, hd8, hq8, k, rfl⟩ ⟨rfl, hy⟩
        have hj2 : j < (D1.map (·.1)).length := by simpa using hj2
        have hy : ((D1.map (·.1)).map fun y => V.str (en y))[j]? = some y := hy
        rw [List.getElem?_map, List.getElem?_eq_getElem hj2] at hy
        obtain rfl : V.str (en (D1.map (·.1))[j]) = y := Option.some.inj hy
        have hz := val_key.mpr (List.getElem_mem hj2)
        have et : (D1.map (·.1)).take (j + 1) = (D1.map (·.1)).take j ++ [(D1.map (·.1))[j]] := by rw [List.take_add_one, List.getElem?_eq_getElem hj2]; rfl
        rw [et]
        generalize (D1.map (·.1)).take j = done at hf ⊢
        generalize (D1.map (·.1))[j] = z at hz ⊢
        have hv := hf.val z hz
        have hov : over (L (nm x)) (L (nm (pull x))) (if z ∈ done then over (L (nm x)) (L (nm (pull x))) (L z) else L z) = over (L (nm x)) (L (nm (pull x))) (L z) := by
          split
          · exact over_over e _
          · rfl
        generalize (if z ∈ done then over (L (nm x)) (L (nm (pull x))) (L z) else L z) = v0 at hv hov
        have gg : DGet H8' d (.str (en z)) (some (.str (en v0))) := by
          have := DGet.k (k := Sum.inr (en z)) hd8
          rw [val_enD, hv] at this
          exact this
        have hl2 : D2.length = D1.length := by have := congrArg List.length hf.keys; simpa using this
        refine ⟨_, rfl, _, rfl, d, _, rfl, gg, _, rfl, rfl, _, rfl, ?_⟩
        rw [dec_en]
        have fin : ∀ v, v = over (L (nm x)) (L (nm (pull x))) (L z) → ∃ D2', Half D1 D2' L (L (nm x)) (L (nm (pull x))) (done ++ [z]) ∧ Same H (upd H8' d (.dK (putK (enD D2) (Sum.inr (en z)) (.str (en v))))) ∧
            upd H8' d (.dK (putK (enD D2) (Sum.inr (en z)) (.str (en v)))) d = some (.dK (enD D2')) ∧ upd H8' d (.dK (putK (enD D2) (Sum.inr (en z)) (.str (en v)))) kq = some (.lst (txs (D1.map (·.1)))) := fun v hv2 =>
          ⟨putK D2 z (.str (en v)), hf.step hz (by rw [hv2]), fun b o e => (upd_ne (ne_of_none e nd)).trans (s08 b o e), by rw [upd_same, put_enD], (upd_ne nqd).trans hq8⟩
        by_cases h0 : v0 = L (nm (pull x))
        · rw [decide_eq_true h0]
          obtain ⟨D2', f1, f2, f3, f4⟩ := fin (L (nm x)) (by rw [← hov]; unfold over; rw [if_pos h0])
          refine iteT ⟨_, rfl, _, rfl, _, rfl, d, _, rfl, DPut.k (k := Sum.inr (en z)) hd8 (szlt (by simp; omega)), D2', f1, f2, f3, f4, some (.str (en z)), rfl⟩
        · rw [decide_eq_false h0]
          obtain ⟨D2', f1, f2, f3, f4⟩ := fin v0 (by rw [← hov]; unfold over; rw [if_neg h0])
          refine iteF ⟨_, rfl, _, rfl, d, _, rfl, gg, _, rfl, _, rfl, d, _, rfl, DPut.k (k := Sum.inr (en z)) hd8 (szlt (by simp; omega)), D2', f1, f2, f3, f4, some (.str (en z)), rfl⟩
      · rintro σ H8 ⟨D2, hf, s08, hd8, hq8, k, rfl⟩
        rw [show (txs (D1.map (·.1))).length = (D1.map (·.1)).length by simp, List.take_length] at hf
        have hl2 : D2.length = D1.length := by have := congrArg List.length hf.keys; simpa using this
        refine ⟨D2, _, hf.all lo2 hm ht, na.step x, by omega, s08, hd8, some (.str (en x)), some (.str (en (nm x))), some (.str (en (nm (pull x)))), some (.str (en (L (nm x)))), some (.str (en (L (nm (pull x))))), k, ?_⟩
        rw [hj]
        rfl
  · rintro σ H1 ⟨D, L, lo, na, dl, sm, hd, a, b, c', e, g, k, rfl⟩
    rw [show (txs ws).length = ws.length by simp, List.take_length]
    exact ⟨_, rfl, q H1 sm⟩
end
end Eh

set_option maxHeartbeats 4000000
/-! Walks of the law: one word more. -/
namespace Eh
open PySem PySem.Spec PyProof.Rows L2
theorem in_txs (x : Wd) (ws : List Wd) : inV (.str (en x)) (txs ws) = decide (x ∈ ws) := by
  unfold inV
  rw [Bool.eq_iff_iff, List.any_eq_true, decide_eq_true_iff]
  constructor
  · rintro ⟨v, hv, e⟩
    obtain ⟨z, hz, rfl⟩ := List.mem_map.mp hv
    have e : (en z == en x) = true := e
    rw [beq_iff_eq] at e
    rw [← en_inj e]; exact hz
  · intro h
    exact ⟨.str (en x), List.mem_map.mpr ⟨x, h, rfl⟩, by show (en x == en x) = true; simp⟩
theorem flat_txs (ws : List Wd) : (txs ws).all flatV = true := by
  rw [List.all_eq_true]
  intro v hv
  obtain ⟨z, _, rfl⟩ := List.mem_map.mp hv
  rfl
theorem filter_snoc (c : Wd → Bool) {W : List Wd} {i : Nat} (h : i < W.length) : (W.take (i + 1)).filter c = (W.take i).filter c ++ (if c W[i] = true then [W[i]] else []) := by
  rw [List.take_add_one, List.getElem?_eq_getElem h, List.filter_append]
  congr 1
  by_cases q : c W[i] = true <;> simp [q]
theorem filter_take_len (c : Wd → Bool) (W : List Wd) (i : Nat) : ((W.take i).filter c).length ≤ W.length :=
  Nat.le_trans (List.length_filter_le _ _) (by rw [List.length_take]; omega)
/-- the word 110 10..10 0 -/
theorem tens_pull {m : Nat} (h : 2 ≤ m) : Pl m ([true, true, false] ++ tens (m - 2) ++ [false]) := by
  refine ⟨?_, rfl, by simp [tens_len]; omega⟩
  have := Dyck.cons (u := true :: false :: tens (m - 2)) (v := []) (Dyck.cons (u := []) Dyck.nil (tens_dyck (m - 2))) Dyck.nil
  simpa using this
theorem Pl.tree {m : Nat} {x z : Wd} (hx : Dyck x) (hl : x.length = 2 * m) {n : Nat} (hz : z ∈ orb turn n x) (c : canPull z = true) : Pl m z := by
  obtain ⟨k, _, rfl⟩ := List.mem_map.mp hz
  exact ⟨hx.itTurn k, c, (itTurn_len hx k).trans hl⟩
theorem Kp.nw {y p : Addr} {o : HO} {H H' : Hp} (k : Kp y H H') (np : H' p = none) : Kp y H (upd H' p o) := fun b u n e => (upd_ne (ne_of_none (k b u n e) np)).trans (k b u n e)
section
variable {P : Program} {w : World} {K : PySem.W.Frag} {mg : Str → Option Value} {base : Heap} {C : Addr}
def spMore : Sp := fun vs H Q _ => ∃ (y l a : Addr) (m n : Nat) (ws : List Wd), vs = [.ref y, .int (m : Int), .ref a] ∧ Yarn H y l n ∧ H a = some (.lst (txs ws)) ∧ a ≠ y ∧ (∀ x ∈ ws, Pl m x) ∧ ws.length ≤ 60 ∧ 2 ≤ m ∧ m ≤ 50 ∧ n ≤ 70000 ∧
  (∀ H', Kp y H H' → Yarn H' y l (n + 300) → Q (.str "") H') ∧ ∀ (x : Wd) (H' : Hp), Pl m x → x ∉ ws → Kp y H H' → Yarn H' y l (n + 300) → Q (.str (en x)) H'
abbrev N72 : List Str := ["_law_yarn_here", "_law_pairs", "_law_words", "_law_some", "_law_x", "_law_left", "_law_each", "_law_word_here"]
theorem sc72 : FnScope N72 ["_law_yarn_here", "_law_pairs", "_law_words"] (C8.fnScope (top 72)) := C8.fnScope_by (by decide +kernel)
/-- what stands behind the first lines: words that can be pulled -/
def Some' (H : Hp) (y l a : Addr) (m n : Nat) (σ : L2.St) (H' : Hp) : Prop :=
  ∃ (S : List Wd) (p : Addr) (b : Option V), (∀ x ∈ S, Pl m x) ∧ S.length ≤ 200 ∧ Kp y H H' ∧ Yarn H' y l (n + 203) ∧ H' p = some (.lst (txs S)) ∧ H p = none ∧ σ = [some (.ref y), some (.int (m : Int)), some (.ref a), some (.ref p), b, none, none, none]
theorem ok_more (D : Dd K mg "_law_more" (top 72) ["_law_yarn_here", "_law_pairs", "_law_words"]) (T : Tx mg) (c1 : Cl P w K mg base 3 "_law_pulls" spDrawn) (c2 : Cl P w K mg base 2 "_law_one" spOne) (c3 : Cl P w K mg base 3 "_law_tree" spTurns)
    (c4 : Cl P w K mg base 1 "_law_knot" spKnot) : Cl P w K mg base 4 "_law_more" spMore := by
  have c2 := c2.mono (by decide : 2 ≤ 3)
  have c4 := c4.mono (by decide : 1 ≤ 3)
  refine D.cal sc72 (fun vs H Q E ⟨y, l, a, m, n, ws, e, _⟩ => by rw [e]; rfl) fun f cdv A outer s H vs Q E hr h => ?_
  obtain ⟨y, l, a, m, n, ws, rfl, Y, ha, nay, hP, hlen, m2, m5, hn, q1, q2⟩ := h
  refine ⟨_, pss_cons (ps_set (i := 3) sc72.nd rfl (Or.inl rfl) (pe_op op_cat (C8.pe_c c1 hr (by decide) rfl (pa_cons (pv 0) (pa_cons (pv 1) (pa_cons pe_int pa_nil))))
      (pe_lst (pa_cons (pe_op op_add_str (pe_op op_add_str pe_str (pe_op op_mulT pe_str (pe_op op_sub (pv 1) pe_int))) pe_str) pa_nil))))
    (C8.pss_cut (ps_if (pt_cmpR (op_neD hr.units) (pv 2) (pe_lst pa_nil) rfl)
      (pss_cons (ps_set (i := 4) sc72.nd rfl (Or.inl rfl) (C8.pe_c c2 hr (by decide) rfl (pa_cons (pv 0) (pa_cons (pv 2) pa_nil))))
      (pss_one (ps_set (i := 3) sc72.nd rfl (Or.inl rfl) (pe_op op_cat (pv 3) (pe_lc (own := [("_law_each", 6)]) (g := gName 6) rfl sc72.nd
        (pi_list (C8.pe_c c3 hr (by decide) rfl (pa_cons (C8.pe_c c2 hr (by decide) rfl (pa_cons (pv 0) (pa_cons (pe_lst (pa_cons (pv 4) (pa_cons (pe_op op_add_str pe_str (pe_slice C8.sl_txt (pv 4) (po_some pe_int) po_none)) pa_nil))) pa_nil))) pa_nil)))
        (blkOk_by (N := N72) (sc := C8.fnScope (top 72)) (by decide +kernel)) (fun _ _ _ _ _ => pg_name (i := 6) sc72.nd rfl (Or.inl rfl))
        (fun _ _ _ _ _ => pts_one (pt_cmpR op_eq (pe_slice C8.sl_txt (pv 6) po_none (po_some pe_int)) pe_str (nomark _))) (fun _ _ _ _ _ => pv 6)))))) pss_nil)
    (pss_cons (ps_setLc (i := 5) (own := [("_law_word_here", 7)]) (g := gName 7) rfl sc72.nd rfl rfl (sw_true rfl rfl rfl (by decide +kernel)) (pi_list (pv 3)) (blkOk_by (N := N72) (sc := C8.fnScope (top 72)) (by decide +kernel))
        (fun _ _ _ _ _ => pg_name (i := 7) sc72.nd rfl (Or.inl rfl)) (fun _ _ _ _ _ => pts_one (pt_cmpR (r := rIn K true) op_notIn_seq (pv 7) (pv 2) rfl)) (fun _ _ _ _ _ => pv 7))
    (pss_one (ps_ret (pe_ifExp (pt_cmpR (op_neD hr.units) (pv 5) (pe_lst pa_nil) rfl) (pe_ix ix_list (pv 5) (C8.pe_c c4 hr (by decide) rfl (pa_cons (pv 0) (pa_cons (pe_callB call_len_seq (by rfl) T.len PySem.boot_len (pa_cons (pv 5) pa_nil)) pa_nil))) (fun _ _ => rfl)) pe_str))))), ?_⟩
  have hly := Y.ne
  have L : ∀ {z : Wd}, z.length ≤ 1000 → (en z).length ≤ sizeLine := fun {z} h => by rw [en_len]; exact szle (by omega)
  refine ⟨_, rfl, _, rfl, y, l, m, n, rfl, Y, m2, m5, by omega, fun fp x H1 px k1 Y1 nf hf => ?_⟩
  refine ⟨_, rfl, _, _, rfl, rfl, ("10" : Str), m - 2, rfl, ?_, by decide, by decide, by omega, ?_⟩
  · rw [show ((m - 2 : Nat) : Int) = (m : Int) - 2 by omega]
  rw [tens_txt]
  have tl := tens_len (m - 2)
  refine ⟨_, _, rfl, rfl, ?_, _, _, rfl, rfl, ?_, (by decide : 1 ≤ sizeLine), fun g ng => ?_⟩
  · rw [← en110, en_len, en_len]; exact szle (by simp; omega)
  · rw [← en110, en_app, ← en0, en_len, en_len]; exact szle (by simp; omega)
  rw [← en110, en_app, ← en0, en_app]
  have nfy : fp ≠ y := fun z => Y.some (by rw [← z]; exact nf)
  have hf2 := (upd_ne (o := .lst [V.str (en ([true, true, false] ++ tens (m - 2) ++ [false]))]) (ne_of_none hf ng)).trans hf
  have pT := tens_pull m2
  generalize [true, true, false] ++ tens (m - 2) ++ [false] = xt at hf2 pT ⊢
  have ngH : H g = none := by
    cases e : H g with
    | none => rfl
    | some o =>
      by_cases hg : g = y
      · obtain ⟨cs, a, r, hy, _⟩ := Y1.ex
        rw [hg, hy] at ng; cases ng
      · rw [k1 _ _ hg e] at ng; cases ng
  refine ⟨fp, g, _, _, rfl, rfl, hf2, upd_same, (by decide : 2 ≤ sizeLine), fun p0 np0 => ?_⟩
  have k2 : Kp y H (upd H1 g (.lst [V.str (en xt)])) := k1.nw ng
  have Y2 : Yarn (upd H1 g (.lst [V.str (en xt)])) y l (n + 201) := Y1.kp (H' := H1) ng
  have npH : H p0 = none := by
    cases e : H p0 with
    | none => rfl
    | some o =>
      by_cases hg : p0 = y
      · obtain ⟨cs, a, r, hy, _⟩ := Y2.ex
        rw [hg, hy] at np0; cases np0
      · rw [k2 _ _ hg e] at np0; cases np0
  have k3 : Kp y H (upd (upd H1 g (.lst [V.str (en xt)])) p0 (.lst (txs [x] ++ [V.str (en xt)]))) := k2.nw np0
  have Y3 : Yarn (upd (upd H1 g (.lst [V.str (en xt)])) p0 (.lst (txs [x] ++ [V.str (en xt)]))) y l (n + 201) := Y2.kp (H' := H1) np0
  have hp3 : upd (upd H1 g (.lst [V.str (en xt)])) p0 (.lst (txs [x] ++ [V.str (en xt)])) p0 = some (.lst (txs [x, xt])) := upd_same
  show C8.tCut _ _ _ _ (upd (upd H1 g (.lst [V.str (en xt)])) p0 (.lst (txs [x] ++ [V.str (en xt)])))
  generalize upd (upd H1 g (.lst [V.str (en xt)])) p0 (.lst (txs [x] ++ [V.str (en xt)])) = H3 at k3 Y3 hp3 ⊢
  -- a place that is free now was free at first
  have free : ∀ {H' : Hp} {p : Addr}, Kp y H H' → Yarn H' y l (n + 300) → H' p = none → H p = none := fun {H' p} k Y' np => by
    cases e : H p with
    | none => rfl
    | some o =>
      by_cases hg : p = y
      · obtain ⟨cs, a, r, hy, _⟩ := Y'.ex
        rw [hg, hy] at np; cases np
      · rw [k _ _ hg e] at np; cases np
  have fne : ∀ {p : Addr}, H p = none → p ≠ y := fun {p} e z => Y.some (by rw [← z]; exact e)
  refine ⟨Some' H y l a m n, ?_, ?_⟩
  · refine ⟨_, rfl, (by decide : 0 ≤ sizeLine), fun e ne => ne_nilT (B := ws) (SqL.of ?_) (SqL.of upd_same) ⟨_, rfl, ?_⟩⟩
    · exact (upd_ne (ne_of_none (k3 _ _ nay ha) ne)).trans (k3 _ _ nay ha)
    have k4 : Kp y H (upd H3 e (.lst [])) := k3.nw ne
    have Y4 : Yarn (upd H3 e (.lst [])) y l (n + 201) := Y3.kp (H' := H3) ne
    have hp4 : upd H3 e (.lst []) p0 = some (.lst (txs [x, xt])) := (upd_ne (ne_of_none hp3 ne)).trans hp3
    generalize upd H3 e (.lst []) = H4 at k4 Y4 hp4 ⊢
    have hS0 : ∀ z ∈ [x, xt], Pl m z := fun z hz => by
      rcases List.mem_cons.mp hz with rfl | hz
      · exact px
      · obtain rfl := List.mem_singleton.mp hz; exact pT
    by_cases hw : ws = []
    · subst hw
      exact iteF ⟨[x, xt], p0, none, hS0, by simp, k4, Y4.mono (by omega), hp4, npH, rfl⟩
    · have hw' : (!ws.isEmpty) = true := by cases ws with
        | nil => exact absurd rfl hw
        | cons c cs => rfl
      rw [hw']
      have hl0 : 0 < ws.length := List.length_pos_iff.mpr hw
      refine iteT ⟨_, rfl, _, rfl, y, l, a, txs ws, n + 201, rfl, Y4, k4 _ _ nay ha, nay, by rw [List.length_map]; omega, by rw [List.length_map]; omega, by omega, fun i v H5 hv k5 Y5 => ?_⟩
      have hv : (ws.map fun y => V.str (en y))[i]? = some v := hv
      rw [List.getElem?_map] at hv
      obtain ⟨u, hu, rfl⟩ := Option.map_eq_some_iff.mp hv
      have pu := hP u (List.mem_of_getElem? hu)
      have pul := pu.len
      have hs : (en u).length ≤ sizeLine := L (by omega)
      refine ⟨_, rfl, _, rfl, _, rfl, _, rfl, _, rfl, _, rfl, hs, ?_⟩
      have e3 : Txt.slice (en u) (some (3 : Int)) none = en (u.drop 3) := slice_from 3
      rw [e3]
      refine ⟨_, _, rfl, rfl, ?_, (by decide : 2 ≤ sizeLine), fun g2 ng2 => ?_⟩
      · rw [← en101, en_len, en_len, List.length_drop]; exact szle (by simp; omega)
      rw [← en101, en_app]
      have Y6 : Yarn (upd H5 g2 (.lst [V.str (en u), V.str (en ([true, false, true] ++ u.drop 3))])) y l (n + 202) := Y5.kp (H' := H5) ng2
      have ng2y : g2 ≠ y := fun z => Y5.some (by rw [← z]; exact ng2)
      refine ⟨y, l, g2, txs [u, pull u], n + 202, rfl, Y6, upd_same, ng2y, by simp, by simp, by omega, fun i2 v2 H7 hv2 k7 Y7 => ?_⟩
      have hv2 : ([u, pull u].map fun y => V.str (en y))[i2]? = some v2 := hv2
      rw [List.getElem?_map] at hv2
      obtain ⟨u2, hu2, rfl⟩ := Option.map_eq_some_iff.mp hv2
      have hu2 : u2 ∈ [u, pull u] := List.mem_of_getElem? hu2
      have d2 : Dyck u2 ∧ u2.length = 2 * m := by
        rcases List.mem_cons.mp hu2 with rfl | hu2
        · exact ⟨pu.dy, pu.len⟩
        · obtain rfl := List.mem_singleton.mp hu2; exact ⟨pu.dy.pull pu.can, (pull_len pu.can).trans pu.len⟩
      have ne2 : u2 ≠ [] := fun z => by have := d2.2; rw [z] at this; simp at this; omega
      refine ⟨u2, d2.1, ne2, rfl, by omega, fun n2 L2 H8 n0 hn2 hper hmin s8 nL2 hL2 => ?_⟩
      have k6 : Kp y H5 (upd H5 g2 (.lst [V.str (en u), V.str (en ([true, false, true] ++ u.drop 3))])) := (Kp.refl y H5).new ng2
      have k8 : Kp y H H8 := k4.trans (k5.trans (k6.trans (k7.trans (Kp.same s8))))
      have Y8 : Yarn H8 y l (n + 203) := Y7.same s8
      have hp8 : H8 p0 = some (.lst (txs [x, xt])) := s8 _ _ (k7 _ _ (fne npH) (k6 _ _ (fne npH) (k5 _ _ (fne npH) hp4)))
      refine ⟨L2, rfl, ⟨_, SqL.of hL2⟩, fun Q2 nQ => lc_it (walk_list (xs := txs (orb turn n2 u2))) (fun i H9 => (Same H8 H9) ∧ H9 Q2 = some (.lst (txs (((orb turn n2 u2).take i).filter canPull)))) ⟨fun b o e => (upd_ne (ne_of_none e nQ)).trans e, upd_same⟩ (fun i H9 _ h => SqL.of (h.1 _ _ hL2)) ?_ ?_⟩
      · rintro i v H9 H9' hi ⟨sm, hQ⟩ ⟨rfl, hv⟩
        have hi : i < (orb turn n2 u2).length := by simpa using hi
        have hv : ((orb turn n2 u2).map fun y => V.str (en y))[i]? = some v := hv
        rw [List.getElem?_map, List.getElem?_eq_getElem hi] at hv
        obtain rfl : V.str (en (orb turn n2 u2)[i]) = v := Option.some.inj hv
        have fs := filter_snoc canPull hi
        have hzl : ((orb turn n2 u2)[i]).length = 2 * m := by
          obtain ⟨k, _, ek⟩ := List.mem_map.mp (List.getElem_mem hi)
          rw [← ek, itTurn_len d2.1, d2.2]
        rw [fs]
        generalize (orb turn n2 u2)[i] = z at hzl ⊢
        have fl := filter_take_len canPull (orb turn n2 u2) i
        rw [orb_len] at fl
        generalize ((orb turn n2 u2).take i).filter canPull = F at hQ fl ⊢
        refine ⟨rfl, _, rfl, _, rfl, _, rfl, L (by omega), rfl, _, rfl, ?_⟩
        have e4 : Txt.slice (en z) none (some (3 : Int)) = en (z.take 3) := slice_to 3
        have e5 : decide (V.str (Txt.slice (en z) none (some (3 : Int))) = V.str (en [true, true, false])) = canPull z := by
          rw [e4, dec_en]
          unfold canPull
          rw [Bool.eq_iff_iff]; simp
        rw [e5]
        by_cases hc : canPull z = true
        · rw [hc]
          refine iteT ⟨_, rfl, _, hQ, szlt (by simp; omega), fun b o e => (upd_ne (ne_of_none e nQ)).trans (sm b o e), ?_⟩
          rw [upd_same, if_pos rfl]; simp
        · have hc' : canPull z = false := by simpa using hc
          rw [hc']
          refine iteF ⟨sm, ?_⟩
          rw [if_neg (by decide), List.append_nil]; exact hQ
      · rintro H9 ⟨sm, hQ⟩
        rw [show (txs (orb turn n2 u2)).length = (orb turn n2 u2).length by simp, List.take_length] at hQ
        have fl := List.length_filter_le canPull (orb turn n2 u2)
        rw [orb_len] at fl
        refine ⟨p0, Q2, _, _, rfl, rfl, sm _ _ hp8, hQ, by simp only [List.length_map, List.length_cons, List.length_nil]; exact szle (by omega), fun p9 np9 => ?_⟩
        have k9 : Kp y H H9 := k8.trans (Kp.same sm)
        have Y9 : Yarn H9 y l (n + 203) := Y8.same sm
        refine ⟨[x, xt] ++ (orb turn n2 u2).filter canPull, p9, some (.str (en u)), fun z hz => ?_, by simp; omega, k9.nw np9, Y9.kp (H' := H9) np9, by rw [upd_same]; simp, free k9 (Y9.mono (by omega)) np9, rfl⟩
        rcases List.mem_append.mp hz with hz | hz
        · exact hS0 z hz
        · obtain ⟨hz1, hz2⟩ := List.mem_filter.mp hz
          exact Pl.tree d2.1 d2.2 hz1 hz2
  · rintro σ' H5 ⟨S, p, b, hS, hSl, k5, Y5, hp5, np5, rfl⟩
    refine ⟨_, rfl, p, rfl, ⟨_, SqL.of hp5⟩, fun Q2 nQ => lc_it (walk_list (xs := txs S)) (fun i H9 => Same H5 H9 ∧ H9 Q2 = some (.lst (txs ((S.take i).filter fun z => !decide (z ∈ ws))))) ⟨fun b o e => (upd_ne (ne_of_none e nQ)).trans e, upd_same⟩ (fun i H9 _ h => SqL.of (h.1 _ _ hp5)) ?_ ?_⟩
    · rintro i v H9 H9' hi ⟨sm, hQ⟩ ⟨rfl, hv⟩
      have hi : i < S.length := by simpa using hi
      have hv : (S.map fun y => V.str (en y))[i]? = some v := hv
      rw [List.getElem?_map, List.getElem?_eq_getElem hi] at hv
      obtain rfl : V.str (en S[i]) = v := Option.some.inj hv
      have fs := filter_snoc (fun z => !decide (z ∈ ws)) hi
      rw [fs]
      generalize S[i] = z
      have fl := filter_take_len (fun z => !decide (z ∈ ws)) S i
      generalize (S.take i).filter (fun z => !decide (z ∈ ws)) = F at hQ fl ⊢
      refine ⟨rfl, _, rfl, _, rfl, a, txs ws, rfl, .inl (SqL.of (sm _ _ (k5 _ _ nay ha))), rfl, flat_txs ws, _, rfl, ?_⟩
      show (if (!inV (.str (en z)) (txs ws)) = true then _ else _)
      rw [in_txs]
      by_cases hc : z ∈ ws
      · rw [decide_eq_true hc]
        refine iteF ⟨sm, ?_⟩
        rw [if_neg (by decide), List.append_nil]; exact hQ
      · rw [decide_eq_false hc]
        refine iteT ⟨_, rfl, _, hQ, szlt (by simp; omega), fun b o e => (upd_ne (ne_of_none e nQ)).trans (sm b o e), ?_⟩
        rw [upd_same]; simp
    · rintro H9 ⟨sm, hQ⟩
      rw [show (txs S).length = S.length by simp, List.take_length] at hQ
      have fl := List.length_filter_le (fun z => !decide (z ∈ ws)) S
      have hF : ∀ z ∈ S.filter (fun z => !decide (z ∈ ws)), Pl m z ∧ z ∉ ws := fun z hz => by
        obtain ⟨h1, h2⟩ := List.mem_filter.mp hz
        exact ⟨hS z h1, by simpa using h2⟩
      generalize S.filter (fun z => !decide (z ∈ ws)) = F at hQ fl hF
      have k9 : Kp y H H9 := k5.trans (Kp.same sm)
      have Y9 : Yarn H9 y l (n + 203) := Y5.same sm
      have nQH := free k5 (Y5.mono (by omega)) nQ
      refine ⟨_, rfl, (by decide : 0 ≤ sizeLine), fun e ne => ne_nilT (B := F) (SqL.of ((upd_ne (ne_of_none hQ ne)).trans hQ)) (SqL.of upd_same) ⟨_, rfl, ?_⟩⟩
      have k10 : Kp y H (upd H9 e (.lst [])) := k9.nw ne
      have Y10 : Yarn (upd H9 e (.lst [])) y l (n + 203) := Y9.kp (H' := H9) ne
      have hQ10 := (upd_ne (o := .lst []) (ne_of_none hQ ne)).trans hQ
      by_cases hE : F = []
      · subst hE
        exact iteF (q1 _ k10 (Y10.mono (by omega)))
      · have hE' : (!F.isEmpty) = true := by cases F with
          | nil => exact absurd rfl hE
          | cons c cs => rfl
        rw [hE']
        have hl0 : 0 < F.length := List.length_pos_iff.mpr hE
        refine iteT ⟨_, rfl, _, rfl, _, rfl, Q2, _, rfl, .inl (SqL.of hQ10), y, l, ((txs F).length : Nat), n + 203, rfl, Y10, by rw [List.length_map]; omega, by rw [List.length_map]; omega, by omega, fun r H11 r0 r1 k11 Y11 => ?_⟩
        rw [List.length_map] at r1
        have er : r = ((r.toNat : Nat) : Int) := by omega
        have hi : r.toNat < F.length := by omega
        rw [er]
        have hat : (txs F)[r.toNat]? = some (.str (en F[r.toNat])) := by
          show (F.map fun y => V.str (en y))[r.toNat]? = _
          rw [List.getElem?_map, List.getElem?_eq_getElem hi]; rfl
        obtain ⟨g1, g2⟩ := hF _ (List.getElem_mem hi)
        exact ⟨Q2, _, _, _, rfl, rfl, SqL.of (k11 _ _ (fne nQH) hQ10), atI_nat hat, q2 _ _ g1 g2 (k10.trans k11) (Y11.mono (by omega))⟩
end
end Eh

set_option maxHeartbeats 4000000
/-! Walks of the law: whether a book is right; the law. -/
namespace Eh
open PySem PySem.Spec PyProof.Rows L2
section
variable {P : Program} {w : World} {K : PySem.W.Frag} {mg : Str → Option Value} {base : Heap} {C Pt : Addr}
theorem log2_small {i : Int} (h : i.natAbs < 2 ^ 1000) : i.natAbs.log2 < 1920 := by
  by_cases h0 : i.natAbs = 0
  · rw [h0]; decide
  · have := (Nat.log2_lt h0).mpr h
    omega
theorem trees_small {m : Nat} (h2 : 2 ≤ m) (h4 : m ≤ 40) : (treesI m).natAbs < 2 ^ 100 := by
  obtain ⟨e, h⟩ := trees_same m h2 h4
  rw [← e] at h
  by_cases h0 : (treesI m).natAbs = 0
  · rw [h0]; decide
  · exact (Nat.log2_lt h0).mp h
theorem Fit.pl {m : Nat} {ws : List Wd} (h : Fit m ws) : ∀ x ∈ ws, Pl m x := fun x hx => ⟨(h.bk x hx).1, (h.bk x hx).2, h.len x hx⟩
theorem bk_rev {ws : List Wd} (h : Bk ws) : Bk ws.reverse := fun x hx => h x (List.mem_reverse.mp hx)
/-- a book of these words is made, and its rounds are told -/
def spRight (K : PySem.W.Frag) (Pt : Addr) : Sp := fun vs H Q _ => ∃ (a : Addr) (m : Nat) (ws : List Wd), vs = [.int (treesI m), .int (m : Int), .ref a] ∧ H a = some (.lst (txs ws)) ∧ Fit m ws ∧ m ≤ 40 ∧ LamX.TabS H Pt LmS.qual ∧
  ∀ H', Xt H H' → LamX.TabS H' Pt LmS.qual → Q (.bl true) H'
theorem sc73 : FnScope ["_law_trees", "_law_pairs", "_law_words", "_law_rounds", "_law_joinings", "_law_over"] ["_law_trees", "_law_pairs", "_law_words"] (C8.fnScope (top 73)) := C8.fnScope_by (by decide +kernel)
/-- what a new book leaves -/
theorem made_same {H H' : Hp} {x dx C : Addr} (nx : H x = none) (ndx : H dx = none) (kp : ∀ b o, b ≠ x → upd (upd H dx (.own x)) x (.ins C dx []) b = some o → H' b = some o) : Same H H' := fun b o e => by
  have n1 : b ≠ x := ne_of_none e nx
  have n2 : b ≠ dx := ne_of_none e ndx
  exact kp b o n1 (by rw [upd_ne n1, upd_ne n2]; exact e)
theorem ok_right (D : Dd K mg "_law_right" (top 73) ["_law_trees", "_law_pairs", "_law_words"]) (T : Tx mg) (c1 : Cl P w K mg base 7 "how_many_rounds" (spRounds K C Pt)) (c2 : C8.Mak P w K mg base 5 "Book" C (spInit K C) [])
    (c3 : Cl P w K mg base 4 "_law_lots_left" spLeft) : Cl P w K mg base 8 "_law_right" (spRight K Pt) := by
  have c3 := c3.mono (by decide : 4 ≤ 7)
  refine D.cal sc73 (fun vs H Q E ⟨a, m, ws, e, _⟩ => by rw [e]; rfl) fun f cdv A outer s H vs Q E hr h => ?_
  obtain ⟨a, m, ws, rfl, ha, hF, m4, hT, q⟩ := h
  refine ⟨_, pss_cons (ps_par (i := 3) (j := 4) rfl sc73.nd rfl rfl (by decide) rfl rfl (pa_cons (C8.pe_c c1 hr (by decide) rfl (pa_cons (C8.pe_mk c2 hr (by decide) rfl (pa_cons (pv 1) (pa_cons (pv 2) pa_nil))) pa_nil)) (pa_cons (C8.pe_c c3 hr (by decide) rfl (pa_cons (pv 2) pa_nil)) pa_nil)) (by rfl))
    (pss_cons (ps_if (pt_cmpR op_eq (pv 4) (pe_callB call_len_seq (by rfl) T.len PySem.boot_len (pa_cons (pv 2) pa_nil)) (nomark _))
      (pss_one (ps_ret (pe_cmpR op_eq (pe_callB SkE.call_repr_int (by rfl) T.repr (by decide +kernel) (pa_cons (pv 3) pa_nil)) (pe_callB SkE.call_repr_int (by rfl) T.repr (by decide +kernel) (pa_cons (pe_op op_sub (pv 0) (pe_callB call_len_seq (by rfl) T.len PySem.boot_len (pa_cons (pv 2) pa_nil))) pa_nil)) (nomark _)))) pss_nil)
    (pss_cons (ps_set (i := 5) sc73.nd rfl (Or.inl rfl) (pe_op op_sub (pv 3) (pe_op op_sub (pv 0) (pe_callB call_len_seq (by rfl) T.len PySem.boot_len (pa_cons (pv 2) pa_nil)))))
    (pss_one (ps_ret (pe_and (pe_cmpR op_gt (pv 5) pe_int (nomark _)) (pe_and (pe_cmpR op_eq (pe_op op_mod (pe_callTy call_int1 (by rfl) T.int (by decide +kernel) (pa_cons (pv 5) pa_nil)) pe_int) pe_int (nomark _)) (pe_one (pe_cmpR op_ge (pv 3) (pe_op op_sub (pv 0) (pv 4)) (nomark _))))))))), ?_⟩
  have hm2 := hF.lo
  have hfew := hF.few
  refine ⟨_, rfl, _, rfl, fun x dx nx ndx nex => ⟨x, dx, a, m, ws, rfl, upd_same, ?_, hF, fun H1 B kp pB bk => ⟨rfl, ?_⟩⟩⟩
  · rw [upd_ne (ne_of_none ha nx), upd_ne (ne_of_none ha ndx)]; exact ha
  have s1 := made_same nx ndx kp
  have hB := hF.perm pB
  refine ⟨x, m, B, rfl, bk, hB, hT.ext s1, fun H2 x2 T2 => ?_⟩
  have ha2 : H2 a = some (.lst (txs ws)) := x2.keep _ _ (s1 _ _ ha) (fun _ z => nomatch z)
  have er : rounds (treesI m) (2 * m) B = rounds (treesI m) (2 * m) ws.reverse := rounds_congr fun z => by rw [pB.mem_iff, List.mem_reverse]
  rw [er]
  refine ⟨_, rfl, a, m, ws, rfl, ha2, hF.pl, hfew, hm2, by omega, fun H3 s3 => ?_⟩
  have ha3 := s3 _ _ ha2
  have x3 : Xt H H3 := (Xt.same s1).trans (x2.trans (Xt.same s3))
  have q := q H3 x3 (T2.ext s3)
  have bB := bk_rev hF.bk
  have bN : ws.reverse.Nodup := (List.reverse_perm ws).nodup_iff.mpr hF.nd
  have bL : ∀ z ∈ ws.reverse, z.length = 2 * m := fun z hz => hF.len z (List.mem_reverse.mp hz)
  refine ⟨_, _, rfl, _, rfl, _, rfl, a, _, rfl, .inl (SqL.of ha3), rfl, _, rfl, ?_⟩
  rw [List.length_map]
  by_cases hj : jn ws.reverse = ws.length
  · rw [decide_eq_true (by rw [hj])]
    have hf := rounds_forest (T := treesI m) bB bN bL (by rw [hj, List.length_reverse])
    rw [List.length_reverse] at hf
    have hsm : (treesI m - (ws.length : Nat)).natAbs.log2 < 1920 := log2_small (by
      have := trees_small hm2 m4
      have h1 : (2 : Nat) ^ 100 + 60 < 2 ^ 1000 := by decide +kernel
      omega)
    rw [hf]
    refine iteT ⟨_, rfl, _, rfl, hsm, _, rfl, _, rfl, a, _, rfl, .inl (SqL.of ha3), _, _, rfl, rfl, _, rfl, ?_, rfl, ?_⟩
    · rw [List.length_map]; exact hsm
    · rw [List.length_map, decide_eq_true rfl]; exact q
  · rw [decide_eq_false (fun z => by injection z with z; exact hj (by omega))]
    obtain ⟨g1, g2, g3⟩ := rounds_ring (T := treesI m) bB bN bL (by rw [List.length_reverse]; exact hj)
    rw [List.length_reverse] at g1 g2
    refine iteF ⟨_, rfl, _, rfl, _, rfl, a, _, rfl, .inl (SqL.of ha3), _, _, rfl, rfl, _, _, rfl, rfl, ?_⟩
    rw [List.length_map]
    refine ⟨_, rfl, _, _, rfl, rfl, true, ?_, iteT ⟨_, rfl, .inl ⟨_, rfl, _, _, rfl, rfl, by omega, rfl, true, ?_, iteT ?_⟩⟩⟩
    · show V.bl (decide _) = V.bl true
      rw [decide_eq_true g1]
    · show V.bl (decide (V.int _ = V.int 0)) = V.bl true
      rw [decide_eq_true (by rw [g2])]
    refine ⟨_, rfl, _, rfl, _, rfl, _, _, rfl, rfl, _, _, rfl, rfl, ?_⟩
    show Q (.bl (decide _)) H3
    rw [decide_eq_true g3]
    exact q
/-! ### the law -/
/-- an expression, with a word behind it -/
def tCutE (t : TE) : TE := fun σ H Q => ∃ Mid : V → Hp → Prop, t σ H Mid ∧ ∀ v H', Mid v H' → Q v H'
theorem pe_cut {X : Cx} {e : Expr} {te : TE} (h : PE X e te) : PE X e (tCutE te) := by
  refine ⟨fun pins s σ H Q I hq => ?_⟩
  obtain ⟨Mid, h1, h2⟩ := hq
  exact thn (h.run pins s σ H Mid I h1) fun v s' ⟨x, H', I', r, q⟩ => ⟨x, H', I', r, h2 x H' q⟩
/-- all but y and the tables stays -/
def Mv (y : Addr) (H H' : Hp) : Prop := ∀ b o, b ≠ y → H b = some o → (∀ ps, o ≠ .tbl ps) → H' b = some o
theorem tabS_kp {H H' : Hp} {q : Str} {y : Addr} {z : List V} (t : LamX.TabS H Pt q) (k : Kp y H H') (hy : H y = some (.lst z)) : LamX.TabS H' Pt q := by
  obtain ⟨ps, h1, h2, h3⟩ := t
  refine ⟨ps, k _ _ (ne_of h1 hy (fun z => nomatch z)) h1, h2, fun pos cv hc => ?_⟩
  obtain ⟨c, e, hc⟩ := h3 pos cv hc
  exact ⟨c, e, k _ _ (ne_of hc hy (fun z => by unfold LamX.CodeO at z; cases z)) hc⟩
/-- the script, not the drawing list -/
def Scr (K : PySem.W.Frag) (H : Hp) (y a : Addr) (xs : List V) : Prop := (a ≠ y ∧ Rd H a (.lst xs)) ∨ ∀ H', SqL K H' a xs
theorem Scr.sq {H : Hp} {y a : Addr} {xs : List V} (h : Scr K H y a xs) : SqL K H a xs := by
  rcases h with ⟨_, h⟩ | h
  · exact .inl h
  · exact h H
theorem Scr.mv {H H' : Hp} {y a : Addr} {xs : List V} (h : Scr K H y a xs) (k : Mv y H H') : Scr K H' y a xs := by
  rcases h with ⟨n, h | ⟨o, h⟩⟩ | h
  · exact .inl ⟨n, .inl (k _ _ n h (fun _ z => nomatch z))⟩
  · exact .inl ⟨n, .inr ⟨o, k _ _ n h (fun _ z => nomatch z)⟩⟩
  · exact .inr h
/-- what stays true through the law -/
structure Sta (K : PySem.W.Frag) (Pt a y l : Addr) (xs : List V) (n : Nat) (H : Hp) : Prop where
  scr : Scr K H y a xs
  yarn : Yarn H y l n
  tab : LamX.TabS H Pt LmS.qual
theorem Sta.kp {a y l : Addr} {xs : List V} {n n' : Nat} {H H' : Hp} (h : Sta K Pt a y l xs n H) (k : Kp y H H') (Y : Yarn H' y l n') : Sta K Pt a y l xs n' H' := by
  obtain ⟨cs, j, r, hy, _⟩ := h.yarn.ex
  exact ⟨h.scr.mv fun b o n e _ => k b o n e, Y, tabS_kp h.tab k hy⟩
theorem Sta.same {a y l : Addr} {xs : List V} {n : Nat} {H H' : Hp} (h : Sta K Pt a y l xs n H) (s : Same H H') : Sta K Pt a y l xs n H' := h.kp (Kp.same s) (h.yarn.same s)
theorem Sta.mono {a y l : Addr} {xs : List V} {n m : Nat} {H : Hp} (h : Sta K Pt a y l xs n H) (k : n ≤ m) : Sta K Pt a y l xs m H := ⟨h.scr, h.yarn.mono k, h.tab⟩
theorem Sta.new {a y l p : Addr} {o : HO} {xs : List V} {n : Nat} {H : Hp} (h : Sta K Pt a y l xs n H) (np : H p = none) : Sta K Pt a y l xs n (upd H p o) := h.same fun b u e => (upd_ne (ne_of_none e np)).trans e
theorem Sta.xt {a y l : Addr} {xs : List V} {n : Nat} {H H' : Hp} (h : Sta K Pt a y l xs n H) (x : Xt H H') (t : LamX.TabS H' Pt LmS.qual) : Sta K Pt a y l xs n H' := by
  obtain ⟨cs, j, r, hy, hl, z⟩ := h.yarn.ex
  exact ⟨h.scr.mv fun b o _ e n => x.keep b o e n, ⟨cs, j, r, x.keep _ _ hy (fun _ z => nomatch z), x.keep _ _ hl (fun _ z => nomatch z), z⟩, t⟩
theorem Sta.fy {a y l p : Addr} {xs : List V} {n : Nat} {H : Hp} (h : Sta K Pt a y l xs n H) (np : H p = none) : p ≠ y := fun z => h.yarn.some (by rw [← z]; exact np)
def spLaw (K : PySem.W.Frag) (Pt : Addr) : Sp := fun vs H Q _ => ∃ (a : Addr) (ns : List Int), vs = [.ref a] ∧ SqL K H a (ns.map V.int) ∧ LamX.TabS H Pt LmS.qual ∧ ∀ H', Q (.bl true) H'
abbrev N74 : List Str := ["_law_script", "_law_yarn_here", "_law_turn", "_law_pairs", "_law_trees", "_law_words", "_law_before", "_law_lap", "_law_word_here", "_law_after"]
theorem sc74 : FnScope N74 ["_law_script"] (C8.fnScope (top 74)) := C8.fnScope_by (by decide +kernel)
theorem fit_nil {m : Nat} (h2 : 2 ≤ m) (h4 : m ≤ 50) : Fit m [] := ⟨fun x hx => absurd hx (by simp), List.nodup_nil, fun x hx => absurd hx (by simp), Nat.zero_le _, h2, h4⟩
theorem fit_snoc {m : Nat} {ws : List Wd} {x : Wd} (h : Fit m ws) (hx : Pl m x) (n : x ∉ ws) (l : ws.length + 1 ≤ 60) : Fit m (ws ++ [x]) := by
  have mem : ∀ z ∈ ws ++ [x], z ∈ ws ∨ z = x := fun z hz => by simpa using hz
  refine ⟨fun z hz => ?_, ?_, fun z hz => ?_, by simpa using l, h.lo, h.hi⟩
  · rcases mem z hz with q | rfl
    · exact h.bk z q
    · exact ⟨hx.dy, hx.can⟩
  · refine List.nodup_append.mpr ⟨h.nd, by simp, fun a ha b hb e => ?_⟩
    obtain rfl := List.mem_singleton.mp hb
    exact n (e ▸ ha)
  · rcases mem z hz with q | rfl
    · exact h.len z q
    · exact hx.len
theorem fourth {i : Nat} {v : V} (h : ([.int 4, .int 2, .int 7, .int 12] : List V)[i]? = some v) : ∃ k : Nat, v = .int (k : Int) ∧ k ≤ 12 := by
  have := List.mem_of_getElem? h
  simp only [List.mem_cons, List.not_mem_nil, or_false] at this
  rcases this with rfl | rfl | rfl | rfl
  · exact ⟨4, rfl, by decide⟩
  · exact ⟨2, rfl, by decide⟩
  · exact ⟨7, rfl, by decide⟩
  · exact ⟨12, rfl, by decide⟩
theorem seventh {i : Nat} {v : V} (h : ([.int 4, .int 3, .int 5, .int 2, .int 7, .int 6, .int 12] : List V)[i]? = some v) : ∃ k : Nat, v = .int (k : Int) ∧ 2 ≤ k ∧ k ≤ 40 := by
  have := List.mem_of_getElem? h
  simp only [List.mem_cons, List.not_mem_nil, or_false] at this
  rcases this with rfl | rfl | rfl | rfl | rfl | rfl | rfl
  · exact ⟨4, rfl, by decide⟩
  · exact ⟨3, rfl, by decide⟩
  · exact ⟨5, rfl, by decide⟩
  · exact ⟨2, rfl, by decide⟩
  · exact ⟨7, rfl, by decide⟩
  · exact ⟨6, rfl, by decide⟩
  · exact ⟨12, rfl, by decide⟩
/-- a lap's state -/
def Lap (K : PySem.W.Frag) (Pt a y l : Addr) (xs : List V) (n m : Nat) (t : Int) (i : Nat) (σ : L2.St) (H1 : Hp) : Prop :=
  ∃ (ws : List Wd) (wl : Addr), Fit m ws ∧ ws.length ≤ i ∧ H1 wl = some (.lst (txs ws)) ∧ wl ≠ y ∧ Sta K Pt a y l xs (n + 10 + 400 * i) H1 ∧
    ∃ c7 c8 c9, σ = [some (.ref a), some (.ref y), some (.int t), some (.int (m : Int)), some (.int (treesI m)), some (.ref wl), some (.int (rounds (treesI m) (2 * m) ws.reverse)), c7, c8, c9]
theorem ok_law {fL : Addr} {fdL : FuncData} (F : C8.Fun K "law" "law" (top 74) fL fdL) (T : Tx mg) (c1 : Cl P w K mg base 1 "_law_yarn" (spYarn K)) (c2 : Cl P w K mg base 2 "_law_one" spOne) (c3 : Cl P w K mg base 1 "_law_knot" spKnot) (c4 : Cl P w K mg base 2 "_law_how_many_trees" spLawTrees)
    (c5 : Cl P w K mg base 7 "how_many_rounds" (spRounds K C Pt)) (c6 : C8.Mak P w K mg base 5 "Book" C (spInit K C) []) (c7 : Cl P w K mg base 4 "_law_more" spMore) (c8 : Cl P w K mg base 8 "_law_right" (spRight K Pt)) : FnOk P w K mg base C8.CX0 9 fL fdL ["_law_script"] (spLaw K Pt) := by
  have c1 := c1.mono (by decide : 1 ≤ 8)
  have c2 := c2.mono (by decide : 2 ≤ 8)
  have c3 := c3.mono (by decide : 1 ≤ 8)
  have c4 := c4.mono (by decide : 2 ≤ 8)
  have c5 := c5.mono (by decide : 7 ≤ 8)
  have c7 := c7.mono (by decide : 4 ≤ 8)
  refine C8.fn0 F sc74 (fun vs H Q E ⟨a, ns, e, _⟩ => by rw [e]; rfl) fun cdv A outer s H vs Q E hr h => ?_
  obtain ⟨a, ns, rfl, ha, hT, q⟩ := h
  refine ⟨_, pss_cons (ps_set (i := 1) sc74.nd rfl (Or.inl rfl) (C8.pe_c c1 hr (by decide) rfl (pa_cons (pv 0) pa_nil)))
    (pss_cons (ps_for PassesOwn.never rfl (pi_range1 rfl T.range (pa_cons pe_int pa_nil)) (pg_name (i := 2) sc74.nd rfl (Or.inl rfl))
      (pss_cons (ps_set (i := 3) sc74.nd rfl (Or.inl rfl) (C8.pe_c c2 hr (by decide) rfl (pa_cons (pv 1) (pa_cons (pe_lst (pa_cons pe_int (pa_cons pe_int (pa_cons pe_int (pa_cons pe_int (pa_cons pe_int (pa_cons pe_int (pa_cons pe_int pa_nil)))))))) pa_nil))))
      (C8.pss_cut (ps_if (PW.pt (pw_and (pt_cmpR (op_neD hr.units) (pv 0) (pe_lst pa_nil) rfl) (pw_and1 (pt_cmpR op_eq (C8.pe_c c3 hr (by decide) rfl (pa_cons (pv 1) (pa_cons pe_int pa_nil))) pe_int (nomark _)))))
        (pss_one (ps_set (i := 3) sc74.nd rfl (Or.inl rfl) (pe_op op_add pe_int (C8.pe_c c3 hr (by decide) rfl (pa_cons (pv 1) (pa_cons pe_int pa_nil)))))) pss_nil)
      (pss_cons (ps_par (i := 4) (j := 5) rfl sc74.nd rfl rfl (by decide) rfl rfl (pa_cons (C8.pe_c c4 hr (by decide) rfl (pa_cons (pv 3) pa_nil)) (pa_cons (pe_lst pa_nil) pa_nil)) (by rfl))
      (pss_cons (ps_set (i := 6) sc74.nd rfl (Or.inl rfl) (C8.pe_c c5 hr (by decide) rfl (pa_cons (C8.pe_mk c6 hr (by decide) rfl (pa_cons (pv 3) (pa_cons (pe_lst pa_nil) pa_nil))) pa_nil)))
      (pss_cons (ps_if (pt_cmpR op_ne (pe_callB SkE.call_repr_int (by rfl) T.repr (by decide +kernel) (pa_cons (pv 6) pa_nil)) (pe_callB SkE.call_repr_int (by rfl) T.repr (by decide +kernel) (pa_cons (pv 4) pa_nil)) (nomark _)) (pss_one (ps_ret pe_bl)) pss_nil)
      (pss_one (ps_for PassesOwn.never rfl (pi_range1 rfl T.range (pa_cons (pe_cut (pe_ifExp (pt_cmpR op_lt (pv 3) pe_int (nomark _)) (C8.pe_c c2 hr (by decide) rfl (pa_cons (pv 1) (pa_cons (pe_lst (pa_cons pe_int (pa_cons pe_int (pa_cons pe_int (pa_cons pe_int pa_nil))))) pa_nil)))
            (pe_op op_add pe_int (C8.pe_c c3 hr (by decide) rfl (pa_cons (pv 1) (pa_cons pe_int pa_nil)))))) pa_nil)) (pg_name (i := 7) sc74.nd rfl (Or.inl rfl))
        (pss_cons (ps_set (i := 8) sc74.nd rfl (Or.inl rfl) (C8.pe_c c7 hr (by decide) rfl (pa_cons (pv 1) (pa_cons (pv 3) (pa_cons (pv 5) pa_nil)))))
        (pss_cons (ps_if (pt_cmpR op_eq (pv 8) pe_str (nomark _)) (pss_one ps_break) pss_nil)
        (pss_cons (ps_set (i := 5) sc74.nd rfl (Or.inl rfl) (pe_op op_cat (pv 5) (pe_lst (pa_cons (pv 8) pa_nil))))
        (pss_cons (ps_set (i := 9) sc74.nd rfl (Or.inl rfl) (C8.pe_c c5 hr (by decide) rfl (pa_cons (C8.pe_mk c6 hr (by decide) rfl (pa_cons (pv 3) (pa_cons (pv 5) pa_nil))) pa_nil)))
        (pss_cons (ps_if (PW.pt (pw_or (pt_cmpR op_notIn_seq (pv 9) (pe_tup (pa_cons (pe_op op_sub (pv 6) pe_int) (pa_cons (pe_op op_add (pv 6) pe_int) pa_nil))) rfl) (pw_or1 (pt_not (pt_val (C8.pe_c c8 hr (by decide) rfl (pa_cons (pv 4) (pa_cons (pv 3) (pa_cons (pv 5) pa_nil))))))))) (pss_one (ps_ret pe_bl)) pss_nil)
        (pss_one (ps_set (i := 6) sc74.nd rfl (Or.inl rfl) (pv 9))))))))))))))))
    (pss_one (ps_ret pe_bl))), ?_⟩
  refine ⟨_, rfl, a, ns, rfl, ha, fun y l H1 s1 ny nl Y1 => ?_⟩
  have S1 : Sta K Pt a y l (ns.map V.int) 0 H1 := by
    refine ⟨?_, Y1, hT.ext s1⟩
    rcases ha with (ha | ⟨o, ha⟩) | ha
    · exact .inl ⟨ne_of_none ha ny, .inl (s1 _ _ ha)⟩
    · exact .inl ⟨ne_of_none ha ny, .inr ⟨o, s1 _ _ ha⟩⟩
    · exact .inr fun H' => .inr ha
  refine ⟨_, rfl, by decide, by decide, for_range (n := 3) (fun t σ H2 => Sta K Pt a y l (ns.map V.int) (6000 * t) H2 ∧ ∃ d2 d3 d4 d5 d6 d7 d8 d9, σ = [some (.ref a), some (.ref y), d2, d3, d4, d5, d6, d7, d8, d9]) ?_ ?_ ?_⟩
  · exact ⟨S1, none, none, none, none, none, none, none, none, rfl⟩
  · rintro t σ H2 ht ⟨S2, d2, d3, d4, d5, d6, d7, d8, d9, rfl⟩
    refine ⟨_, rfl, (by decide : 7 ≤ sizeLine), fun e ne => ⟨y, l, e, _, 6000 * t, rfl, (S2.new ne).yarn, upd_same, S2.fy ne, (by decide : 1 ≤ 7), (by decide : 7 ≤ 1000), by omega, fun i v H3 hv k3 Y3 => ?_⟩⟩
    obtain ⟨m0, rfl, m02, m04⟩ := seventh hv
    have S3 := (S2.new ne).kp k3 Y3
    refine ⟨fun σ' H' => ∃ m : Nat, 2 ≤ m ∧ m ≤ 40 ∧ Sta K Pt a y l (ns.map V.int) (6000 * t + 3) H' ∧ σ' = [some (.ref a), some (.ref y), some (.int (0 + (t : Int))), some (.int (m : Int)), d4, d5, d6, d7, d8, d9], ?_, ?_⟩
    · refine ⟨_, rfl, (by decide : 0 ≤ sizeLine), fun e2 ne2 => ne_nilI (S3.new ne2).scr.sq (SqL.of upd_same) ⟨_, rfl, ?_⟩⟩
      have S4 := S3.new (o := .lst []) ne2
      generalize upd H3 e2 (.lst []) = H4 at S4 ⊢
      by_cases hn : ns = []
      · subst hn
        exact iteF ⟨m0, m02, m04, S4.mono (by omega), rfl⟩
      · have hn' : (!ns.isEmpty) = true := by cases ns with
          | nil => exact absurd rfl hn
          | cons c cs => rfl
        rw [hn']
        refine iteT ⟨_, rfl, y, l, 10, 6000 * t + 1, rfl, S4.yarn, by decide, by decide, by omega, fun r H5 r0 r1 k5 Y5 => ⟨rfl, _, rfl, ?_⟩⟩
        have S5 := S4.kp k5 Y5
        by_cases hr0 : V.int r = V.int 0
        · rw [decide_eq_true hr0]
          refine iteT ⟨_, rfl, y, l, 31, 6000 * t + 2, rfl, S5.yarn, by decide, by decide, by omega, fun r2 H6 r20 r21 k6 Y6 => ⟨_, _, rfl, rfl, ?_⟩⟩
          refine ⟨10 + r2.toNat, by omega, by omega, S5.kp k6 Y6, ?_⟩
          rw [show ((10 + r2.toNat : Nat) : Int) = 10 + r2 by omega]
          rfl
        · rw [decide_eq_false hr0]
          exact iteF ⟨m0, m02, m04, S5.mono (by omega), rfl⟩
    · rintro σ' H4 ⟨m, m2, m4, S4, rfl⟩
      refine ⟨_, rfl, m, rfl, m2, by omega, fun H5 s5 => ⟨(by decide : 0 ≤ sizeLine), fun wl nwl => ⟨_, _, rfl, ?_⟩⟩⟩
      rw [← (trees_same m m2 m4).1]
      have S6 := (S4.same s5).new (o := .lst []) nwl
      have wly := (S4.same s5).fy nwl
      have hw6 : upd H5 wl (.lst []) wl = some (.lst (txs [])) := upd_same
      generalize upd H5 wl (.lst []) = H6 at S6 hw6 ⊢
      refine ⟨_, rfl, (by decide : 0 ≤ sizeLine), fun e ne => fun x dx nx ndx nex => ⟨x, dx, e, m, [], rfl, upd_same, ?_, fit_nil m2 (by omega), fun H7 B kp pB bk => ⟨rfl, ?_⟩⟩⟩
      · have he : upd H6 e (.lst []) e = some (.lst (txs [])) := upd_same
        rw [upd_ne (ne_of_none he nx), upd_ne (ne_of_none he ndx)]; exact he
      have s7 := made_same nx ndx kp
      have S7 := (S6.new (o := .lst []) ne).same s7
      have hw7 := s7 _ _ ((upd_ne (o := .lst []) (ne_of_none hw6 ne)).trans hw6)
      refine ⟨x, m, B, rfl, bk, (fit_nil m2 (by omega)).perm pB, S7.tab, fun H8 x8 T8 => ?_⟩
      have S8 := S7.xt x8 T8
      have hw8 := x8.keep _ _ hw7 (fun _ z => nomatch z)
      have hB0 : B = [] := List.Perm.eq_nil pB
      rw [hB0, rounds_nil]
      have hsm : (treesI m).natAbs.log2 < 1920 := log2_small (Nat.lt_trans (trees_small m2 m4) (by decide +kernel))
      refine ⟨_, rfl, _, rfl, hsm, _, rfl, _, rfl, hsm, rfl, _, rfl, ?_⟩
      rw [decide_eq_true rfl]
      refine iteF ⟨fun v H9 => ∃ j : Nat, v = .int (j : Int) ∧ j ≤ 12 ∧ Sta K Pt a y l (ns.map V.int) (6000 * t + 9) H9 ∧ H9 wl = some (.lst (txs [])), ?_, ?_⟩
      · refine ⟨_, rfl, _, _, rfl, rfl, _, rfl, ?_⟩
        by_cases h8 : (m : Int) < 8
        · rw [decide_eq_true h8]
          refine iteT ⟨_, rfl, (by decide : 4 ≤ sizeLine), fun e ne => ⟨y, l, e, _, 6000 * t + 3, rfl, (S8.new ne).yarn, upd_same, S8.fy ne, (by decide : 1 ≤ 4), (by decide : 4 ≤ 1000), by omega, fun i v H9 hv k9 Y9 => ?_⟩⟩
          obtain ⟨k, rfl, hk⟩ := fourth hv
          exact ⟨k, rfl, hk, ((S8.new ne).kp k9 Y9).mono (by omega), k9 _ _ wly ((upd_ne (ne_of_none hw8 ne)).trans hw8)⟩
        · rw [decide_eq_false h8]
          refine iteF ⟨_, rfl, y, l, 3, 6000 * t + 3, rfl, S8.yarn, by decide, by decide, by omega, fun r H9 r0 r1 k9 Y9 => ⟨_, _, rfl, rfl, 1 + r.toNat, ?_, by omega, (S8.kp k9 Y9).mono (by omega), k9 _ _ wly hw8⟩⟩
          rw [show ((1 + r.toNat : Nat) : Int) = 1 + r by omega]
      · rintro v H9 ⟨j, rfl, hj, S9, hw9⟩
        refine ⟨_, rfl, by omega, by omega, for_range (fun i σ H1 => Lap K Pt a y l (ns.map V.int) (6000 * t) m (0 + (t : Int)) i σ H1) ?_ ?_ ?_⟩
        · refine ⟨[], wl, fit_nil m2 (by omega), Nat.le_refl _, hw9, wly, S9.mono (by omega), d7, d8, d9, ?_⟩
          rw [show ([] : List Wd).reverse = [] from rfl, rounds_nil]
          rfl
        · rintro i σ H1 hi ⟨ws, w1, F, wsl, hw1, w1y, S, d7, d8, d9, rfl⟩
          have hi : i < 12 := by omega
          have flo := F.lo
          refine ⟨_, rfl, _, rfl, _, rfl, y, l, w1, m, 6000 * t + 10 + 400 * i, ws, rfl, S.yarn, hw1, w1y, F.pl, by omega, m2, by omega, by omega, fun H2 k2 Y2 => ?_, fun x H2 px nx k2 Y2 => ?_⟩
          · refine ⟨_, rfl, rfl, _, rfl, ?_⟩
            rw [decide_eq_true rfl]
            exact iteT ⟨(S.kp k2 Y2).mono (by omega), _, _, _, _, _, _, _, _, rfl⟩
          · have xl := px.len
            have ex : decide (V.str (en x) = V.str "") = false := decide_eq_false fun z => by
              have z2 : en x = en [] := V.str.inj z
              have z3 := en_inj z2
              rw [z3] at xl
              simp at xl
              omega
            refine ⟨_, rfl, rfl, _, rfl, ?_⟩
            rw [ex]
            have S2' := (S.kp k2 Y2).mono (m := 6000 * t + 10 + 400 * (i + 1)) (by omega)
            have hw2 := k2 _ _ w1y hw1
            refine iteF ⟨_, rfl, _, rfl, (by decide : 1 ≤ sizeLine), fun e ne => ⟨w1, e, _, _, rfl, rfl, (upd_ne (ne_of_none hw2 ne)).trans hw2, upd_same, ?_, fun w2 nw2 => ?_⟩⟩
            · simp only [List.length_map, List.length_cons, List.length_nil]; exact szle (by omega)
            have S3' := (S2'.new (o := .lst [V.str (en x)]) ne).new (o := .lst (txs ws ++ [V.str (en x)])) nw2
            have w2y := (S2'.new (o := .lst [V.str (en x)]) ne).fy nw2
            have hw3 : upd (upd H2 e (.lst [V.str (en x)])) w2 (.lst (txs ws ++ [V.str (en x)])) w2 = some (.lst (txs (ws ++ [x]))) := by rw [upd_same]; simp
            generalize upd (upd H2 e (.lst [V.str (en x)])) w2 (.lst (txs ws ++ [V.str (en x)])) = H3 at S3' hw3 ⊢
            have F' := fit_snoc F px nx (by omega)
            refine ⟨_, rfl, _, rfl, fun x0 dx nx0 ndx nex => ⟨x0, dx, w2, m, ws ++ [x], rfl, upd_same, ?_, F', fun H4 B kp pB bk => ⟨rfl, ?_⟩⟩⟩
            · rw [upd_ne (ne_of_none hw3 nx0), upd_ne (ne_of_none hw3 ndx)]; exact hw3
            have s4 := made_same nx0 ndx kp
            have S4' := S3'.same s4
            refine ⟨x0, m, B, rfl, bk, F'.perm pB, S4'.tab, fun H5 x5 T5 => ?_⟩
            have S5' := S4'.xt x5 T5
            have hw5 := x5.keep _ _ (s4 _ _ hw3) (fun _ z => nomatch z)
            have er : rounds (treesI m) (2 * m) B = rounds (treesI m) (2 * m) (x :: ws.reverse) := rounds_congr fun z => by
              rw [pB.mem_iff]; simp [or_comm]
            rw [er]
            have bB : Bk (x :: ws.reverse) := fun z hz => by
              rcases List.mem_cons.mp hz with rfl | hz
              · exact ⟨px.dy, px.can⟩
              · exact F.bk z (List.mem_reverse.mp hz)
            have step := rounds_step (T := treesI m) bB (fun z => nx (List.mem_reverse.mp z)) px.len
            refine ⟨_, rfl, _, rfl, _, _, rfl, rfl, _, rfl, _, _, rfl, rfl, (by decide : 2 ≤ sizeLine), fun t2 nt2 => ⟨t2, _, rfl, .inr (SqT.of upd_same), rfl, rfl, _, rfl, ?_⟩⟩
            have hin : inV (.int (rounds (treesI m) (2 * m) (x :: ws.reverse))) [.int (rounds (treesI m) (2 * m) ws.reverse - 1), .int (rounds (treesI m) (2 * m) ws.reverse + 1)] = true := by
              show ((rounds (treesI m) (2 * m) ws.reverse - 1 == rounds (treesI m) (2 * m) (x :: ws.reverse)) || ((rounds (treesI m) (2 * m) ws.reverse + 1 == rounds (treesI m) (2 * m) (x :: ws.reverse)) || false)) = true
              rcases step with q | q
              · rw [q]; simp
              · rw [q]; simp
            show (if (!inV (.int (rounds (treesI m) (2 * m) (x :: ws.reverse))) [.int (rounds (treesI m) (2 * m) ws.reverse - 1), .int (rounds (treesI m) (2 * m) ws.reverse + 1)]) = true then _ else _)
            rw [hin]
            have S6' := S5'.new (o := .tup [V.int (rounds (treesI m) (2 * m) ws.reverse - 1), V.int (rounds (treesI m) (2 * m) ws.reverse + 1)]) nt2
            have hw6' := (upd_ne (o := .tup [V.int (rounds (treesI m) (2 * m) ws.reverse - 1), V.int (rounds (treesI m) (2 * m) ws.reverse + 1)]) (ne_of_none hw5 nt2)).trans hw5
            refine iteF ⟨_, rfl, _, rfl, _, rfl, w2, m, ws ++ [x], rfl, hw6', F', m4, S6'.tab, fun H7 x7 T7 => ⟨true, rfl, iteF ?_⟩⟩
            refine ⟨_, rfl, ws ++ [x], w2, F', by simp; omega, x7.keep _ _ hw6' (fun _ z => nomatch z), w2y, S6'.xt x7 T7, some (.int (0 + (i : Int))), some (.str (en x)), some (.int (rounds (treesI m) (2 * m) (x :: ws.reverse))), ?_⟩
            rw [List.reverse_append]
            rfl
        · rintro σ H1 ⟨ws, w1, F, wsl, hw1, w1y, S, d7, d8, d9, rfl⟩
          exact ⟨S.mono (by omega), _, _, _, _, _, _, _, _, rfl⟩
  · rintro σ H2 ⟨S2, d2, d3, d4, d5, d6, d7, d8, d9, rfl⟩
    exact q H2
end
end Eh

set_option maxHeartbeats 0
/-! The head: what the top leaves, by facts. -/
namespace Eh
open PySem PySem.Spec PyProof.Rows L2
/-- a def of the module -/
def df (x : Str) (i : Nat) : He.DefD := ⟨(x, none), x, x, C8.fnArgs (top i), C8.fnBody (top i), C8.fnScope (top i), [], []⟩
def dInit : He.DefD := ⟨("Book", some "__init__"), "__init__", "Book.__init__", C8.fnArgs (inClass (top 52) 0), C8.fnBody (inClass (top 52) 0), C8.fnScope (inClass (top 52) 0), [], []⟩
def fnA : List He.DefD := [df "is_integer" 8, df "is_within" 9, df "is_signs" 10, df "need_number" 11, df "is_word" 14, df "first_pair_in" 15, df "turned_in" 16, df "turns_in" 17, df "can_pull_in" 21, df "pulled_in" 22, df "unpulled_in" 23, df "sewn_under" 26, df "swapped_in" 28, df "word_behind_in" 29, df "lots" 31, df "ways_on" 32]
def fnB : List He.DefD := [df "all_in" 33, df "has_common" 35, df "how_many_apart" 36, df "with_place" 37, df "with_tie" 38, df "how_many_trees" 39, df "is_pull" 50, df "are_pulls" 51, dInit, df "need_book" 53, df "sewn_by" 54, df "round_of" 56, df "rounds_in" 57, df "how_many_rounds" 58]
def fnC : List He.DefD := [df "_law_yarn" 60, df "_law_knot" 61, df "_law_one" 62, df "_law_word" 63, df "_law_pulls" 64, df "_law_end" 65, df "_law_turned" 66, df "_law_tree" 67, df "_law_lots" 68, df "_law_no_common" 69, df "_law_how_many_trees" 70, df "_law_lots_left" 71, df "_law_more" 72, df "_law_right" 73, df "law" 74]
def fn : List He.DefD := fnA ++ (fnB ++ fnC)
def gA : List He.Fa := [.glo "is_integer", .glo "is_within", .glo "is_signs", .glo "need_number", .glo "is_word", .glo "first_pair_in", .glo "turned_in", .glo "turns_in", .glo "can_pull_in", .glo "pulled_in", .glo "unpulled_in", .glo "sewn_under", .glo "swapped_in", .glo "word_behind_in", .glo "lots", .glo "ways_on"]
def gB : List He.Fa := [.glo "all_in", .glo "has_common", .glo "how_many_apart", .glo "with_place", .glo "with_tie", .glo "how_many_trees", .glo "is_pull", .glo "are_pulls", .glo "Book", .glo "need_book", .glo "sewn_by", .glo "round_of", .glo "rounds_in", .glo "how_many_rounds"]
def gC : List He.Fa := [.glo "_law_yarn", .glo "_law_knot", .glo "_law_one", .glo "_law_word", .glo "_law_pulls", .glo "_law_end", .glo "_law_turned", .glo "_law_tree", .glo "_law_lots", .glo "_law_no_common", .glo "_law_how_many_trees", .glo "_law_lots_left", .glo "_law_more", .glo "_law_right", .glo "law"]
def gF : List He.Fa := [.free "isinstance", .free "int", .free "bool", .free "str", .free "all", .free "len", .free "enumerate", .free "range", .free "list", .free "tuple", .free "set", .free "sorted", .free "sum", .free "min", .free "repr", .free "abs"]
def gV : List He.Fa := [.int "MOST_PAIRS_words" 200, .int "LEAST_PAIRS" 2, .int "MOST_PAIRS_books" 60, .int "MOST_WORDS" 300, .str "SIGNS" "01", .str "DEEP_LEAF" "110", .str "NEAR_LEAF" "101", .str "PULLED" "101", .cls "Book", .mkr "Book", .noat "Book" "pairs", .noat "Book" "words", .noat "Book" "sewn"]
def fa : List He.Fa := gA ++ (gB ++ (gC ++ (gF ++ gV)))
/-- what isinstance asks of the class -/
def ex (K : PySem.W.Frag) : Bool := He.eqO (PySem.W.findIn K (.ref (He.ga K "Book")) "__class__") (some (some (.builtin "object.__class__"))) && (He.eqO (PySem.W.specialIn K (.builtin "object.__class__") "__get__") (some (some (.builtin "getset_descriptor.__get__"))) &&
  (decide (PySem.W.takesIn K (.builtin "object.__class__") = some true) && (decide (PySem.W.mroIn K (He.ga K "Book") (.type "object") = some true) && decide (PySem.W.kitOne K (.ref (He.ga K "Book")) (.ref (He.ga K "Book")) = some true))))
def tf : List He.Defn := [("sewn_by", none)]
abbrev R : PySem.W.OpenRow := PySem.W.OpenLaw.row PySem.Challenge.rw_everyhalf_k57_whole_rings_of_trees
abbrev hk : PySem.W.Hook := He.hookX 4 fa fn [] tf ex
def ob (s : PySem.W.SharedT) : He.AlX := He.obsX 4 fa fn [] tf ex (HandSHeadRun.getT s)
theorem ob_eq (s : PySem.W.SharedT) : ob s = hk.obs s.abs := He.obsX_eq (HandSHeadRun.getT_eq s)
def nmA : List PySem.Str := ["_wall", "__name__", "HalfError", "BadNumber", "BadBook", "BadText", "SIGNS", "is_integer", "is_within", "is_signs", "need_number", "MOST_PAIRS_words", "is_word", "first_pair_in", "turned_in", "turns_in", "DEEP_LEAF", "NEAR_LEAF", "can_pull_in", "pulled_in", "unpulled_in", "PULLED", "sewn_under", "swapped_in", "word_behind_in", "lots", "ways_on", "all_in"]
def nmB : List PySem.Str := ["has_common", "how_many_apart", "with_place", "with_tie", "how_many_trees", "BAR", "FIGURES", "MOST_FIGURES", "written", "Scan", "LEAST_PAIRS", "MOST_PAIRS_books", "MOST_WORDS", "is_pull", "are_pulls", "Book", "need_book", "sewn_by", "round_of", "rounds_in", "how_many_rounds"]
def nmC : List PySem.Str := ["_law_yarn", "_law_knot", "_law_one", "_law_word", "_law_pulls", "_law_end", "_law_turned", "_law_tree", "_law_lots", "_law_no_common", "_law_how_many_trees", "_law_lots_left", "_law_more", "_law_right"]
def loose : List PySem.Str := nmA ++ (nmB ++ nmC)
theorem run (w : World) : HandSHeadRun.RunEq R (PySem.W.view R.prog [74]) hk ob 4000 loose w := by
  intro os
  kernel_rfl
end Eh

set_option maxHeartbeats 0
/-! The end: the facts of the head, the promises in order, the law. -/
namespace Eh
open PySem PySem.Spec PyProof.Rows L2
section
variable {P : Program} {w : World} {K : PySem.W.Frag} {h : Heap} {mg : Str → Option Value}
/-- a def of the module, of the head's facts -/
theorem dd_of {x : Str} {i : Nat} {ps : List Str} {f : Addr} (F : ∃ fd, FunD K x x (C8.fnArgs (top i)) (C8.fnBody (top i)) (C8.fnScope (top i)) [] [] f fd) (hm : mg x = some (.ref f))
    (hb : ∀ (kV doc pm : Value) (an : Option Addr) (cdv ct : Value) (us : List Value), us.length = ps.length → bindArgs (PySem.W.fnOf x x (C8.fnArgs (top i)) (C8.fnBody (top i)) (C8.fnScope (top i)) .none kV doc pm an cdv ct) ⟨us, []⟩ = pure (ps.zip us)) : Dd K mg x (top i) ps := by
  obtain ⟨fd, F⟩ := F
  have b := FunD.bindsN (ps := ps) F hb
  obtain ⟨oc, od, dV, kV, doc, pm, an, cdv, ct, osl, e, lk, hcd, _, _⟩ := F.ex
  exact ⟨f, fd, ⟨⟨oc, od, dV, kV, doc, pm, an, cdv, ct, osl, e, lk, hcd⟩, hm, F.kp⟩, b⟩
/-- .. with its code object -/
theorem ddT_of {x : Str} {i : Nat} {ps : List Str} (F : ∃ fd, FunD K x x (C8.fnArgs (top i)) (C8.fnBody (top i)) (C8.fnScope (top i)) [] [] (He.fAd K (x, none)) fd) (hm : mg x = some (.ref (He.fAd K (x, none))))
    (hb : ∀ (kV doc pm : Value) (an : Option Addr) (cdv ct : Value) (us : List Value), us.length = ps.length → bindArgs (PySem.W.fnOf x x (C8.fnArgs (top i)) (C8.fnBody (top i)) (C8.fnScope (top i)) .none kV doc pm an cdv ct) ⟨us, []⟩ = pure (ps.zip us)) : DdT K mg x (top i) ps (He.codeOf K (x, none)) := by
  obtain ⟨fd, F⟩ := F
  have b := FunD.bindsN (ps := ps) F hb
  obtain ⟨oc, od, dV, kV, doc, pm, an, cdv, ct, osl, e, lk, hcd, _, _⟩ := F.ex
  subst e
  obtain ⟨c, rfl⟩ := He.codeIn_ref hcd
  have hc : He.codeOf K (x, none) = c := He.codeOf_eq lk rfl
  rw [hc]
  exact ⟨_, oc, od, dV, kV, doc, pm, an, ct, osl, lk, hcd, hm, F.kp, b⟩
theorem ddC_of {ps : List Str} (M : Mk K (He.ga K "Book") (He.ma K (He.ga K "Book") "__init__")) (hm : mg "Book" = some (.ref (He.ga K "Book")))
    (F : ∃ fd, FunD K "__init__" "Book.__init__" (C8.fnArgs (inClass (top 52) 0)) (C8.fnBody (inClass (top 52) 0)) (C8.fnScope (inClass (top 52) 0)) [] [] (He.fAd K ("Book", some "__init__")) fd)
    (hb : ∀ (kV doc pm : Value) (an : Option Addr) (cdv ct : Value) (us : List Value), us.length = ps.length → bindArgs (PySem.W.fnOf "__init__" "Book.__init__" (C8.fnArgs (inClass (top 52) 0)) (C8.fnBody (inClass (top 52) 0)) (C8.fnScope (inClass (top 52) 0)) .none kV doc pm an cdv ct) ⟨us, []⟩ = pure (ps.zip us)) :
    DdC K mg "Book" (He.ga K "Book") "Book.__init__" (inClass (top 52) 0) ps := by
  obtain ⟨fd, F⟩ := F
  have b := FunD.bindsN (ps := ps) F hb
  obtain ⟨oc, od, dV, kV, doc, pm, an, cdv, ct, osl, e, lk, hcd, _, _⟩ := F.ex
  exact ⟨_, fd, M, hm, ⟨oc, od, dV, kV, doc, pm, an, cdv, ct, osl, e, lk, hcd⟩, b⟩
theorem bkC_of (c : He.SaysX fa fn [] tf ex w h K) : BkC K (He.ga K "Book") := by
  have m := c.more
  unfold ex at m
  obtain ⟨m1, m⟩ := He.ba m
  obtain ⟨m2, m⟩ := He.ba m
  obtain ⟨m3, m⟩ := He.ba m
  obtain ⟨m4, m5⟩ := He.ba m
  exact ⟨⟨He.cls_ok (c.t.d.fact 69 (f := .cls "Book") rfl), He.eqO_ok m1, He.eqO_ok m2, of_decide_eq_true m3, of_decide_eq_true m4, of_decide_eq_true m5⟩,
    He.noat_ok (c.t.d.fact 71 (f := .noat "Book" "pairs") rfl), He.noat_ok (c.t.d.fact 72 (f := .noat "Book" "words") rfl), He.noat_ok (c.t.d.fact 73 (f := .noat "Book" "sewn") rfl)⟩
theorem tx_of (X : K.In h) (G : h.Ns mainGlobals mg) (c : He.SaysX fa fn [] tf ex w h K) : Tx mg := by
  have i : ∀ {x : Str} {i : Int}, (∃ t, mg x = some (.int i t)) → ∃ u, mg x = some u ∧ RelV (.int i) u := fun ⟨t, e⟩ => ⟨_, e, t, rfl⟩
  have s : ∀ {x z : Str}, (∃ t, mg x = some (.str z t)) → ∃ u, mg x = some u ∧ RelV (.str z) u := fun ⟨t, e⟩ => ⟨_, e, t, rfl⟩
  exact ⟨He.free_ok X G (c.t.d.fact 45 (f := .free "isinstance") rfl),
    He.free_ok X G (c.t.d.fact 46 (f := .free "int") rfl),
    He.free_ok X G (c.t.d.fact 47 (f := .free "bool") rfl),
    He.free_ok X G (c.t.d.fact 48 (f := .free "str") rfl),
    He.free_ok X G (c.t.d.fact 49 (f := .free "all") rfl),
    He.free_ok X G (c.t.d.fact 50 (f := .free "len") rfl),
    He.free_ok X G (c.t.d.fact 51 (f := .free "enumerate") rfl),
    He.free_ok X G (c.t.d.fact 52 (f := .free "range") rfl),
    He.free_ok X G (c.t.d.fact 53 (f := .free "list") rfl),
    He.free_ok X G (c.t.d.fact 54 (f := .free "tuple") rfl),
    He.free_ok X G (c.t.d.fact 55 (f := .free "set") rfl),
    He.free_ok X G (c.t.d.fact 56 (f := .free "sorted") rfl),
    He.free_ok X G (c.t.d.fact 57 (f := .free "sum") rfl),
    He.free_ok X G (c.t.d.fact 58 (f := .free "min") rfl),
    He.free_ok X G (c.t.d.fact 59 (f := .free "repr") rfl),
    He.free_ok X G (c.t.d.fact 60 (f := .free "abs") rfl),
    i (He.int_ok X G (c.t.d.fact 61 (f := .int "MOST_PAIRS_words" 200) rfl)),
    i (He.int_ok X G (c.t.d.fact 62 (f := .int "LEAST_PAIRS" 2) rfl)),
    i (He.int_ok X G (c.t.d.fact 63 (f := .int "MOST_PAIRS_books" 60) rfl)),
    i (He.int_ok X G (c.t.d.fact 64 (f := .int "MOST_WORDS" 300) rfl)),
    s (He.str_ok X G (c.t.d.fact 65 (f := .str "SIGNS" "01") rfl)),
    s (He.str_ok X G (c.t.d.fact 66 (f := .str "DEEP_LEAF" "110") rfl)),
    s (He.str_ok X G (c.t.d.fact 67 (f := .str "NEAR_LEAF" "101") rfl)),
    s (He.str_ok X G (c.t.d.fact 68 (f := .str "PULLED" "101") rfl))⟩
theorem dd_is_integer (X : K.In h) (G : h.Ns mainGlobals mg) (c : He.SaysX fa fn [] tf ex w h K) : Dd K mg "is_integer" (top 8) ["value"] :=
  dd_of (c.t.d.def_ 0 (d := df "is_integer" 8) rfl) (He.glo_ok X G (c.t.d.fact 0 (f := .glo "is_integer") rfl)) fun _ _ _ _ _ _ us hl => match us, hl with | [_], _ => rfl
theorem dd_is_within (X : K.In h) (G : h.Ns mainGlobals mg) (c : He.SaysX fa fn [] tf ex w h K) : Dd K mg "is_within" (top 9) ["value", "least", "most"] :=
  dd_of (c.t.d.def_ 1 (d := df "is_within" 9) rfl) (He.glo_ok X G (c.t.d.fact 1 (f := .glo "is_within") rfl)) fun _ _ _ _ _ _ us hl => match us, hl with | [_, _, _], _ => rfl
theorem dd_is_signs (X : K.In h) (G : h.Ns mainGlobals mg) (c : He.SaysX fa fn [] tf ex w h K) : Dd K mg "is_signs" (top 10) ["value"] :=
  dd_of (c.t.d.def_ 2 (d := df "is_signs" 10) rfl) (He.glo_ok X G (c.t.d.fact 2 (f := .glo "is_signs") rfl)) fun _ _ _ _ _ _ us hl => match us, hl with | [_], _ => rfl
theorem dd_need_number (X : K.In h) (G : h.Ns mainGlobals mg) (c : He.SaysX fa fn [] tf ex w h K) : Dd K mg "need_number" (top 11) ["value", "part", "least", "most"] :=
  dd_of (c.t.d.def_ 3 (d := df "need_number" 11) rfl) (He.glo_ok X G (c.t.d.fact 3 (f := .glo "need_number") rfl)) fun _ _ _ _ _ _ us hl => match us, hl with | [_, _, _, _], _ => rfl
theorem dd_is_word (X : K.In h) (G : h.Ns mainGlobals mg) (c : He.SaysX fa fn [] tf ex w h K) : Dd K mg "is_word" (top 14) ["value"] :=
  dd_of (c.t.d.def_ 4 (d := df "is_word" 14) rfl) (He.glo_ok X G (c.t.d.fact 4 (f := .glo "is_word") rfl)) fun _ _ _ _ _ _ us hl => match us, hl with | [_], _ => rfl
theorem dd_first_pair_in (X : K.In h) (G : h.Ns mainGlobals mg) (c : He.SaysX fa fn [] tf ex w h K) : Dd K mg "first_pair_in" (top 15) ["word"] :=
  dd_of (c.t.d.def_ 5 (d := df "first_pair_in" 15) rfl) (He.glo_ok X G (c.t.d.fact 5 (f := .glo "first_pair_in") rfl)) fun _ _ _ _ _ _ us hl => match us, hl with | [_], _ => rfl
theorem dd_turned_in (X : K.In h) (G : h.Ns mainGlobals mg) (c : He.SaysX fa fn [] tf ex w h K) : Dd K mg "turned_in" (top 16) ["word"] :=
  dd_of (c.t.d.def_ 6 (d := df "turned_in" 16) rfl) (He.glo_ok X G (c.t.d.fact 6 (f := .glo "turned_in") rfl)) fun _ _ _ _ _ _ us hl => match us, hl with | [_], _ => rfl
theorem dd_turns_in (X : K.In h) (G : h.Ns mainGlobals mg) (c : He.SaysX fa fn [] tf ex w h K) : Dd K mg "turns_in" (top 17) ["word"] :=
  dd_of (c.t.d.def_ 7 (d := df "turns_in" 17) rfl) (He.glo_ok X G (c.t.d.fact 7 (f := .glo "turns_in") rfl)) fun _ _ _ _ _ _ us hl => match us, hl with | [_], _ => rfl
theorem dd_can_pull_in (X : K.In h) (G : h.Ns mainGlobals mg) (c : He.SaysX fa fn [] tf ex w h K) : Dd K mg "can_pull_in" (top 21) ["word"] :=
  dd_of (c.t.d.def_ 8 (d := df "can_pull_in" 21) rfl) (He.glo_ok X G (c.t.d.fact 8 (f := .glo "can_pull_in") rfl)) fun _ _ _ _ _ _ us hl => match us, hl with | [_], _ => rfl
theorem dd_pulled_in (X : K.In h) (G : h.Ns mainGlobals mg) (c : He.SaysX fa fn [] tf ex w h K) : Dd K mg "pulled_in" (top 22) ["word"] :=
  dd_of (c.t.d.def_ 9 (d := df "pulled_in" 22) rfl) (He.glo_ok X G (c.t.d.fact 9 (f := .glo "pulled_in") rfl)) fun _ _ _ _ _ _ us hl => match us, hl with | [_], _ => rfl
theorem dd_unpulled_in (X : K.In h) (G : h.Ns mainGlobals mg) (c : He.SaysX fa fn [] tf ex w h K) : Dd K mg "unpulled_in" (top 23) ["word"] :=
  dd_of (c.t.d.def_ 10 (d := df "unpulled_in" 23) rfl) (He.glo_ok X G (c.t.d.fact 10 (f := .glo "unpulled_in") rfl)) fun _ _ _ _ _ _ us hl => match us, hl with | [_], _ => rfl
theorem dd_sewn_under (X : K.In h) (G : h.Ns mainGlobals mg) (c : He.SaysX fa fn [] tf ex w h K) : Dd K mg "sewn_under" (top 26) ["word", "is_sewn"] :=
  dd_of (c.t.d.def_ 11 (d := df "sewn_under" 26) rfl) (He.glo_ok X G (c.t.d.fact 11 (f := .glo "sewn_under") rfl)) fun _ _ _ _ _ _ us hl => match us, hl with | [_, _], _ => rfl
theorem dd_swapped_in (X : K.In h) (G : h.Ns mainGlobals mg) (c : He.SaysX fa fn [] tf ex w h K) : Dd K mg "swapped_in" (top 28) ["word", "is_sewn"] :=
  dd_of (c.t.d.def_ 12 (d := df "swapped_in" 28) rfl) (He.glo_ok X G (c.t.d.fact 12 (f := .glo "swapped_in") rfl)) fun _ _ _ _ _ _ us hl => match us, hl with | [_, _], _ => rfl
theorem dd_word_behind_in (X : K.In h) (G : h.Ns mainGlobals mg) (c : He.SaysX fa fn [] tf ex w h K) : Dd K mg "word_behind_in" (top 29) ["word", "is_sewn"] :=
  dd_of (c.t.d.def_ 13 (d := df "word_behind_in" 29) rfl) (He.glo_ok X G (c.t.d.fact 13 (f := .glo "word_behind_in") rfl)) fun _ _ _ _ _ _ us hl => match us, hl with | [_, _], _ => rfl
theorem dd_lots (X : K.In h) (G : h.Ns mainGlobals mg) (c : He.SaysX fa fn [] tf ex w h K) : Dd K mg "lots" (top 31) ["many", "some"] :=
  dd_of (c.t.d.def_ 14 (d := df "lots" 31) rfl) (He.glo_ok X G (c.t.d.fact 14 (f := .glo "lots") rfl)) fun _ _ _ _ _ _ us hl => match us, hl with | [_, _], _ => rfl
theorem dd_ways_on (X : K.In h) (G : h.Ns mainGlobals mg) (c : He.SaysX fa fn [] tf ex w h K) : Dd K mg "ways_on" (top 32) ["ones", "zeros"] :=
  dd_of (c.t.d.def_ 15 (d := df "ways_on" 32) rfl) (He.glo_ok X G (c.t.d.fact 15 (f := .glo "ways_on") rfl)) fun _ _ _ _ _ _ us hl => match us, hl with | [_, _], _ => rfl
theorem dd_all_in (X : K.In h) (G : h.Ns mainGlobals mg) (c : He.SaysX fa fn [] tf ex w h K) : Dd K mg "all_in" (top 33) ["pairs"] :=
  dd_of (c.t.d.def_ 16 (d := df "all_in" 33) rfl) (He.glo_ok X G (c.t.d.fact 16 (f := .glo "all_in") rfl)) fun _ _ _ _ _ _ us hl => match us, hl with | [_], _ => rfl
theorem dd_has_common (X : K.In h) (G : h.Ns mainGlobals mg) (c : He.SaysX fa fn [] tf ex w h K) : Dd K mg "has_common" (top 35) ["one", "other"] :=
  dd_of (c.t.d.def_ 17 (d := df "has_common" 35) rfl) (He.glo_ok X G (c.t.d.fact 17 (f := .glo "has_common") rfl)) fun _ _ _ _ _ _ us hl => match us, hl with | [_, _], _ => rfl
theorem dd_how_many_apart (X : K.In h) (G : h.Ns mainGlobals mg) (c : He.SaysX fa fn [] tf ex w h K) : Dd K mg "how_many_apart" (top 36) ["number"] :=
  dd_of (c.t.d.def_ 18 (d := df "how_many_apart" 36) rfl) (He.glo_ok X G (c.t.d.fact 18 (f := .glo "how_many_apart") rfl)) fun _ _ _ _ _ _ us hl => match us, hl with | [_], _ => rfl
theorem dd_with_place (X : K.In h) (G : h.Ns mainGlobals mg) (c : He.SaysX fa fn [] tf ex w h K) : Dd K mg "with_place" (top 37) ["pairs"] :=
  dd_of (c.t.d.def_ 19 (d := df "with_place" 37) rfl) (He.glo_ok X G (c.t.d.fact 19 (f := .glo "with_place") rfl)) fun _ _ _ _ _ _ us hl => match us, hl with | [_], _ => rfl
theorem dd_with_tie (X : K.In h) (G : h.Ns mainGlobals mg) (c : He.SaysX fa fn [] tf ex w h K) : Dd K mg "with_tie" (top 38) ["pairs"] :=
  dd_of (c.t.d.def_ 20 (d := df "with_tie" 38) rfl) (He.glo_ok X G (c.t.d.fact 20 (f := .glo "with_tie") rfl)) fun _ _ _ _ _ _ us hl => match us, hl with | [_], _ => rfl
theorem dd_how_many_trees (X : K.In h) (G : h.Ns mainGlobals mg) (c : He.SaysX fa fn [] tf ex w h K) : Dd K mg "how_many_trees" (top 39) ["pairs"] :=
  dd_of (c.t.d.def_ 21 (d := df "how_many_trees" 39) rfl) (He.glo_ok X G (c.t.d.fact 21 (f := .glo "how_many_trees") rfl)) fun _ _ _ _ _ _ us hl => match us, hl with | [_], _ => rfl
theorem dd_is_pull (X : K.In h) (G : h.Ns mainGlobals mg) (c : He.SaysX fa fn [] tf ex w h K) : Dd K mg "is_pull" (top 50) ["value", "pairs"] :=
  dd_of (c.t.d.def_ 22 (d := df "is_pull" 50) rfl) (He.glo_ok X G (c.t.d.fact 22 (f := .glo "is_pull") rfl)) fun _ _ _ _ _ _ us hl => match us, hl with | [_, _], _ => rfl
theorem dd_are_pulls (X : K.In h) (G : h.Ns mainGlobals mg) (c : He.SaysX fa fn [] tf ex w h K) : Dd K mg "are_pulls" (top 51) ["value", "pairs"] :=
  dd_of (c.t.d.def_ 23 (d := df "are_pulls" 51) rfl) (He.glo_ok X G (c.t.d.fact 23 (f := .glo "are_pulls") rfl)) fun _ _ _ _ _ _ us hl => match us, hl with | [_, _], _ => rfl
theorem dd_need_book (X : K.In h) (G : h.Ns mainGlobals mg) (c : He.SaysX fa fn [] tf ex w h K) : Dd K mg "need_book" (top 53) ["value"] :=
  dd_of (c.t.d.def_ 25 (d := df "need_book" 53) rfl) (He.glo_ok X G (c.t.d.fact 25 (f := .glo "need_book") rfl)) fun _ _ _ _ _ _ us hl => match us, hl with | [_], _ => rfl
theorem dd_round_of (X : K.In h) (G : h.Ns mainGlobals mg) (c : He.SaysX fa fn [] tf ex w h K) : Dd K mg "round_of" (top 56) ["book", "word"] :=
  dd_of (c.t.d.def_ 27 (d := df "round_of" 56) rfl) (He.glo_ok X G (c.t.d.fact 27 (f := .glo "round_of") rfl)) fun _ _ _ _ _ _ us hl => match us, hl with | [_, _], _ => rfl
theorem dd_rounds_in (X : K.In h) (G : h.Ns mainGlobals mg) (c : He.SaysX fa fn [] tf ex w h K) : Dd K mg "rounds_in" (top 57) ["book"] :=
  dd_of (c.t.d.def_ 28 (d := df "rounds_in" 57) rfl) (He.glo_ok X G (c.t.d.fact 28 (f := .glo "rounds_in") rfl)) fun _ _ _ _ _ _ us hl => match us, hl with | [_], _ => rfl
theorem dd_how_many_rounds (X : K.In h) (G : h.Ns mainGlobals mg) (c : He.SaysX fa fn [] tf ex w h K) : Dd K mg "how_many_rounds" (top 58) ["book"] :=
  dd_of (c.t.d.def_ 29 (d := df "how_many_rounds" 58) rfl) (He.glo_ok X G (c.t.d.fact 29 (f := .glo "how_many_rounds") rfl)) fun _ _ _ _ _ _ us hl => match us, hl with | [_], _ => rfl
theorem dd__law_yarn (X : K.In h) (G : h.Ns mainGlobals mg) (c : He.SaysX fa fn [] tf ex w h K) : Dd K mg "_law_yarn" (top 60) ["_law_script"] :=
  dd_of (c.t.d.def_ 30 (d := df "_law_yarn" 60) rfl) (He.glo_ok X G (c.t.d.fact 30 (f := .glo "_law_yarn") rfl)) fun _ _ _ _ _ _ us hl => match us, hl with | [_], _ => rfl
theorem dd__law_knot (X : K.In h) (G : h.Ns mainGlobals mg) (c : He.SaysX fa fn [] tf ex w h K) : Dd K mg "_law_knot" (top 61) ["_law_yarn_here", "_law_many"] :=
  dd_of (c.t.d.def_ 31 (d := df "_law_knot" 61) rfl) (He.glo_ok X G (c.t.d.fact 31 (f := .glo "_law_knot") rfl)) fun _ _ _ _ _ _ us hl => match us, hl with | [_, _], _ => rfl
theorem dd__law_one (X : K.In h) (G : h.Ns mainGlobals mg) (c : He.SaysX fa fn [] tf ex w h K) : Dd K mg "_law_one" (top 62) ["_law_yarn_here", "_law_some"] :=
  dd_of (c.t.d.def_ 32 (d := df "_law_one" 62) rfl) (He.glo_ok X G (c.t.d.fact 32 (f := .glo "_law_one") rfl)) fun _ _ _ _ _ _ us hl => match us, hl with | [_, _], _ => rfl
theorem dd__law_word (X : K.In h) (G : h.Ns mainGlobals mg) (c : He.SaysX fa fn [] tf ex w h K) : Dd K mg "_law_word" (top 63) ["_law_yarn_here", "_law_pairs"] :=
  dd_of (c.t.d.def_ 33 (d := df "_law_word" 63) rfl) (He.glo_ok X G (c.t.d.fact 33 (f := .glo "_law_word") rfl)) fun _ _ _ _ _ _ us hl => match us, hl with | [_, _], _ => rfl
theorem dd__law_pulls (X : K.In h) (G : h.Ns mainGlobals mg) (c : He.SaysX fa fn [] tf ex w h K) : Dd K mg "_law_pulls" (top 64) ["_law_yarn_here", "_law_pairs", "_law_most"] :=
  dd_of (c.t.d.def_ 34 (d := df "_law_pulls" 64) rfl) (He.glo_ok X G (c.t.d.fact 34 (f := .glo "_law_pulls") rfl)) fun _ _ _ _ _ _ us hl => match us, hl with | [_, _, _], _ => rfl
theorem dd__law_end (X : K.In h) (G : h.Ns mainGlobals mg) (c : He.SaysX fa fn [] tf ex w h K) : Dd K mg "_law_end" (top 65) ["_law_word_here"] :=
  dd_of (c.t.d.def_ 35 (d := df "_law_end" 65) rfl) (He.glo_ok X G (c.t.d.fact 35 (f := .glo "_law_end") rfl)) fun _ _ _ _ _ _ us hl => match us, hl with | [_], _ => rfl
theorem dd__law_turned (X : K.In h) (G : h.Ns mainGlobals mg) (c : He.SaysX fa fn [] tf ex w h K) : Dd K mg "_law_turned" (top 66) ["_law_word_here"] :=
  dd_of (c.t.d.def_ 36 (d := df "_law_turned" 66) rfl) (He.glo_ok X G (c.t.d.fact 36 (f := .glo "_law_turned") rfl)) fun _ _ _ _ _ _ us hl => match us, hl with | [_], _ => rfl
theorem dd__law_tree (X : K.In h) (G : h.Ns mainGlobals mg) (c : He.SaysX fa fn [] tf ex w h K) : Dd K mg "_law_tree" (top 67) ["_law_word_here"] :=
  dd_of (c.t.d.def_ 37 (d := df "_law_tree" 67) rfl) (He.glo_ok X G (c.t.d.fact 37 (f := .glo "_law_tree") rfl)) fun _ _ _ _ _ _ us hl => match us, hl with | [_], _ => rfl
theorem dd__law_lots (X : K.In h) (G : h.Ns mainGlobals mg) (c : He.SaysX fa fn [] tf ex w h K) : Dd K mg "_law_lots" (top 68) ["_law_many", "_law_some"] :=
  dd_of (c.t.d.def_ 38 (d := df "_law_lots" 68) rfl) (He.glo_ok X G (c.t.d.fact 38 (f := .glo "_law_lots") rfl)) fun _ _ _ _ _ _ us hl => match us, hl with | [_, _], _ => rfl
theorem dd__law_no_common (X : K.In h) (G : h.Ns mainGlobals mg) (c : He.SaysX fa fn [] tf ex w h K) : Dd K mg "_law_no_common" (top 69) ["_law_number"] :=
  dd_of (c.t.d.def_ 39 (d := df "_law_no_common" 69) rfl) (He.glo_ok X G (c.t.d.fact 39 (f := .glo "_law_no_common") rfl)) fun _ _ _ _ _ _ us hl => match us, hl with | [_], _ => rfl
theorem dd__law_how_many_trees (X : K.In h) (G : h.Ns mainGlobals mg) (c : He.SaysX fa fn [] tf ex w h K) : Dd K mg "_law_how_many_trees" (top 70) ["_law_pairs"] :=
  dd_of (c.t.d.def_ 40 (d := df "_law_how_many_trees" 70) rfl) (He.glo_ok X G (c.t.d.fact 40 (f := .glo "_law_how_many_trees") rfl)) fun _ _ _ _ _ _ us hl => match us, hl with | [_], _ => rfl
theorem dd__law_lots_left (X : K.In h) (G : h.Ns mainGlobals mg) (c : He.SaysX fa fn [] tf ex w h K) : Dd K mg "_law_lots_left" (top 71) ["_law_words"] :=
  dd_of (c.t.d.def_ 41 (d := df "_law_lots_left" 71) rfl) (He.glo_ok X G (c.t.d.fact 41 (f := .glo "_law_lots_left") rfl)) fun _ _ _ _ _ _ us hl => match us, hl with | [_], _ => rfl
theorem dd__law_more (X : K.In h) (G : h.Ns mainGlobals mg) (c : He.SaysX fa fn [] tf ex w h K) : Dd K mg "_law_more" (top 72) ["_law_yarn_here", "_law_pairs", "_law_words"] :=
  dd_of (c.t.d.def_ 42 (d := df "_law_more" 72) rfl) (He.glo_ok X G (c.t.d.fact 42 (f := .glo "_law_more") rfl)) fun _ _ _ _ _ _ us hl => match us, hl with | [_, _, _], _ => rfl
theorem dd__law_right (X : K.In h) (G : h.Ns mainGlobals mg) (c : He.SaysX fa fn [] tf ex w h K) : Dd K mg "_law_right" (top 73) ["_law_trees", "_law_pairs", "_law_words"] :=
  dd_of (c.t.d.def_ 43 (d := df "_law_right" 73) rfl) (He.glo_ok X G (c.t.d.fact 43 (f := .glo "_law_right") rfl)) fun _ _ _ _ _ _ us hl => match us, hl with | [_, _, _], _ => rfl
theorem dd_law (X : K.In h) (G : h.Ns mainGlobals mg) (c : He.SaysX fa fn [] tf ex w h K) : Dd K mg "law" (top 74) ["_law_script"] :=
  dd_of (c.t.d.def_ 44 (d := df "law" 74) rfl) (He.glo_ok X G (c.t.d.fact 44 (f := .glo "law") rfl)) fun _ _ _ _ _ _ us hl => match us, hl with | [_], _ => rfl
theorem dd_sewn_by (X : K.In h) (G : h.Ns mainGlobals mg) (c : He.SaysX fa fn [] tf ex w h K) : DdT K mg "sewn_by" (top 54) ["book"] (He.codeOf K ("sewn_by", none)) :=
  ddT_of (c.t.d.def_ 26 (d := df "sewn_by" 54) rfl) (He.glo_ok X G (c.t.d.fact 26 (f := .glo "sewn_by") rfl)) fun _ _ _ _ _ _ us hl => match us, hl with | [_], _ => rfl
theorem dd_Book (X : K.In h) (G : h.Ns mainGlobals mg) (c : He.SaysX fa fn [] tf ex w h K) : DdC K mg "Book" (He.ga K "Book") "Book.__init__" (inClass (top 52) 0) ["self", "pairs", "words"] :=
  ddC_of (He.mkr_ok (c.t.d.fact 70 (f := .mkr "Book") rfl)) (He.glo_ok X G (c.t.d.fact 24 (f := .glo "Book") rfl)) (c.t.d.def_ 24 (d := dInit) rfl) fun _ _ _ _ _ _ us hl => match us, hl with | [_, _, _], _ => rfl
/-- all promises, up to the law's -/
theorem law_fn (X : K.In h) (G : h.Ns mainGlobals mg) (c : He.SaysX fa fn [] tf ex w h K) {base : Heap} (TB : LamX.TabB base mg (He.cT K ("sewn_by", none)).1 (He.cT K ("sewn_by", none)).2) {fdL : FuncData} {fL : Addr} (FL : C8.Fun K "law" "law" (top 74) fL fdL) :
    FnOk P w K mg base C8.CX0 9 fL fdL ["_law_script"] (spLaw K (He.cT K ("sewn_by", none)).2) := by
  have T := tx_of X G c
  have O := bkC_of c
  have hB : mg "Book" = some (.ref (He.ga K "Book")) := He.glo_ok X G (c.t.d.fact 24 (f := .glo "Book") rfl)
  have isint : Cl P w K mg base 1 "is_integer" spIsInt := ok_isint (dd_is_integer X G c) T
  have within := ok_within (dd_is_within X G c) isint
  have need := ok_need (dd_need_number X G c) within
  have first : Cl P w K mg base 1 "first_pair_in" spFirst := ok_first (dd_first_pair_in X G c) T
  have turned := ok_turned (dd_turned_in X G c) first
  have turns := ok_turns (dd_turns_in X G c) turned
  have can : Cl P w K mg base 1 "can_pull_in" spCan := ok_can (dd_can_pull_in X G c) T
  have pull : Cl P w K mg base 1 "pulled_in" spPull := ok_pull (dd_pulled_in X G c) T
  have unpull : Cl P w K mg base 1 "unpulled_in" spUnpull := ok_unpull (dd_unpulled_in X G c) T
  have under := ok_under (C := He.ga K "Book") (dd_sewn_under X G c) T unpull
  have swap := ok_swap (dd_swapped_in X G c) pull under
  have behind := ok_behind (dd_word_behind_in X G c) turned swap
  have sewn : Cl P w K mg base 1 "sewn_by" (spMakes LmS (He.cT K ("sewn_by", none)).2) := ok_sewn_by (dd_sewn_by X G c) TB
  have round := ok_round (dd_round_of X G c) sewn behind
  have lots : Cl P w K mg base 1 "lots" spLots := ok_lots (dd_lots X G c) T
  have ways := ok_ways (dd_ways_on X G c) lots
  have allin := ok_allin (dd_all_in X G c) ways
  have common : Cl P w K mg base 1 "has_common" spCommon := ok_common (dd_has_common X G c)
  have apart := ok_apart (dd_how_many_apart X G c) T common
  have place := ok_place (dd_with_place X G c) T lots apart
  have tie := ok_tie (dd_with_tie X G c) allin
  have trees := ok_trees (dd_how_many_trees X G c) T need place tie allin
  have roundsIn := ok_rounds_in (dd_rounds_in X G c) turns pull round trees
  have signs : Cl P w K mg base 1 "is_signs" spSigns := ok_signs (dd_is_signs X G c) T
  have word := ok_word (dd_is_word X G c) T signs
  have isPull := ok_isPull (dd_is_pull X G c) T word can
  have pulls := ok_pulls (dd_are_pulls X G c) T isPull
  have book := ok_book (dd_Book X G c) T O within pulls
  have needBook : Cl P w K mg base 1 "need_book" (spNeedBook (He.ga K "Book")) := ok_needBook (dd_need_book X G c) T O hB
  have rounds := ok_rounds (dd_how_many_rounds X G c) needBook roundsIn
  have yarn : Cl P w K mg base 1 "_law_yarn" (spYarn K) := ok_yarn (dd__law_yarn X G c) T
  have knot : Cl P w K mg base 1 "_law_knot" spKnot := ok_knot (dd__law_knot X G c) T
  have one := ok_one (dd__law_one X G c) T knot
  have draw := ok_draw (dd__law_word X G c) T knot
  have drawn := ok_drawn (dd__law_pulls X G c) T knot draw
  have lend : Cl P w K mg base 1 "_law_end" spEnd := ok_end (dd__law_end X G c) T
  have lturned := ok_lawTurned (dd__law_turned X G c) lend
  have tree := ok_tree (dd__law_tree X G c) T lturned
  have llots : Cl P w K mg base 1 "_law_lots" spLots := ok_lawLots (dd__law_lots X G c) T
  have noCommon : Cl P w K mg base 1 "_law_no_common" spNoCommon := ok_noCommon (dd__law_no_common X G c) T
  have ltrees := ok_lawTrees (dd__law_how_many_trees X G c) T llots noCommon
  have left := ok_left (dd__law_lots_left X G c) T tree
  have more := ok_more (dd__law_more X G c) T drawn one tree knot
  have right := ok_right (dd__law_right X G c) T rounds book left
  exact ok_law FL T yarn one knot ltrees rounds book more right
/-- what the end asks -/
theorem at_law (X : K.In h) (G : h.Ns mainGlobals mg) {fA : Addr} (hfa : mg ("law" : Str) = some (.ref fA)) (c : He.SaysX fa fn [] tf ex w h K) :
    LamX.LawAtS PySem.Challenge.rw_everyhalf_k57_whole_rings_of_trees w K C8.CX0 9 63 "_law_script" mg fA h := by
  obtain ⟨fd, F⟩ := c.t.d.def_ 44 (d := df "law" 74) rfl
  have e := hfa.symm.trans (He.glo_ok X G (c.t.d.fact 44 (f := .glo "law") rfl))
  cases e
  have b := FunD.bindsA (ps := ["_law_script"]) F fun _ _ _ _ _ _ us hl => match us, hl with | [_], _ => rfl
  have hmem : (("sewn_by" : Str), (none : Option Str)) ∈ tf := List.mem_cons_self
  have one : ∀ {q : Addr × Addr → Prop}, q (He.cT K ("sewn_by", none)) → ∀ p ∈ [He.cT K ("sewn_by", none)], q p := fun {q} hq p hp => by
    rw [List.mem_singleton.mp hp]; exact hq
  refine ⟨fd, [He.cT K ("sewn_by", none)], spLaw K (He.cT K ("sewn_by", none)).2, one (c.empty _ hmem), one (c.out _ hmem), one (PySem.W.codeHd_of_K X (c.hd _ hmem)), fun s u => b s [u] rfl, fun H a ns hl _ hT hS => ?_, fun base XB GB hTB => ?_⟩
  · exact ⟨a, ns, rfl, hS, LamX.TabS.nil (hT _ List.mem_cons_self), fun _ => rfl⟩
  · obtain ⟨oc, od, dV, kV, doc, pm, an, cdv, ct, osl, e, lk, hcd, _, _⟩ := F.ex
    exact law_fn X G c (hTB _ List.mem_cons_self) ⟨oc, od, dV, kV, doc, pm, an, cdv, ct, osl, e, lk, hcd⟩
end
end Eh
open PySem PySem.W PySem.Calls PyProof.Rows
theorem PySem.Challenge.cw_everyhalf_k57_whole_rings_of_trees_holds : PySem.Challenge.rw_everyhalf_k57_whole_rings_of_trees.Holds := by
  w_on; o_law
  refine HandSHeadRun.head_any (r := OpenLaw.row PySem.Challenge.rw_everyhalf_k57_whole_rings_of_trees) (q := view (OpenLaw.row PySem.Challenge.rw_everyhalf_k57_whole_rings_of_trees).prog [74]) (H := Eh.hk) (ob := Eh.ob) (M := 4000) (loose := Eh.loose) (d := HandSHeadRun.topDef (OpenLaw.row PySem.Challenge.rw_everyhalf_k57_whole_rings_of_trees).prog 74) (kwd := []) Eh.ob_eq
    (by kernel_rfl) (fun s => by kernel_rfl) Eh.run (by kernel_rfl) (by kernel_rfl) (by kernel_rfl) (by rfl) (by first | assumption | decide +kernel) (by decide +kernel) ⟨rfl, rfl, rfl, rfl, rfl, by decide +kernel⟩ ?hw ?hc
  case hw => w_witness2
  case hc =>
    refine LamX.walk_ofTsE (l := PySem.Challenge.rw_everyhalf_k57_whole_rings_of_trees) (n := 63) (k := 9) (x := "_law_script") (CX := fun _ => C8.CX0) rfl (by decide) (by kernel_rfl) ⟨rfl, by decide, by decide⟩ ?F (fun _ _ _ _ _ z => z)
    intro w mg fa h Y G hmg0
    obtain ⟨K, KX, c⟩ := Y
    have hmg : mg ("law" : PySem.Str) = some (.ref fa) := by
      have e : (HandSHeadRun.topDef (OpenLaw.row PySem.Challenge.rw_everyhalf_k57_whole_rings_of_trees).prog 74).name = ("law" : PySem.Str) := by kernel_rfl
      rw [← e]
      exact hmg0
    exact ⟨K, KX, Eh.at_law KX G hmg c⟩
