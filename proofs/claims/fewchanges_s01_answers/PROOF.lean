import PyProof.Rows.All
import PyKqz6
import PyFlatLaws
import Wide.All
import OpenK.AllK
import Wide.FinOn
import Open.SpecLaws
import KE.OsGo
import HandS.ForSpec
import HandS.ForMost
import PySem.Challenge.RW_fewchanges_s01_answers
import HandS.TupAny
import KE.GoesMore
import HandS.Zip
import HandS.Conv
import HandS.Lambda
import HandS.NestedK
import HandS.NoneIn
import HandS.CallLocal
import HandS.More
import HandS.Spec
import HandS.EndTab
import KE.KNest
set_option Elab.async false
set_option maxRecDepth 100000
set_option maxHeartbeats 2000000
set_option linter.all false
/-! Plain mathematics, part A: fractions, bounds, ways. No program in sight. -/
namespace FC
open Kqz1 (Frac Figure)

/-- the upper and the lower number have nothing in common -/
def Good (f : Frac) : Prop := Int.gcd f.p (f.q : Int) = 1
/-- a figure that a drawing may hold -/
def FigOk : Figure → Prop
  | .twist n => n ≠ 0 ∧ -6 ≤ n ∧ n ≤ 6
  | .turn => True
/-- the same, but it may have lost all its half twists -/
def FigW : Figure → Prop
  | .twist n => -6 ≤ n ∧ n ≤ 6
  | .turn => True
theorem FigOk.w {x : Figure} (h : FigOk x) : FigW x := by
  cases x with
  | twist n => exact h.2
  | turn => trivial
def FigsOk (l : List Figure) : Prop := ∀ x ∈ l, FigOk x
def FigsW (l : List Figure) : Prop := ∀ x ∈ l, FigW x
theorem FigsOk.w {l : List Figure} (h : FigsOk l) : FigsW l := fun x hx => (h x hx).w

theorem good_flat : Good Kqz1.flat := show Int.gcd 0 1 = 1 by decide
theorem good_endless : Good ⟨1, 0⟩ := show Int.gcd 1 0 = 1 by decide
theorem more_zero (f : Frac) : Kqz1.more f 0 = f := by
  cases f with
  | mk p q =>
    show (⟨p + 0 * (q : Int), q⟩ : Frac) = ⟨p, q⟩
    congr 1
    omega
theorem good_more {f : Frac} (h : Good f) (n : Int) : Good (Kqz1.more f n) := by
  show Int.gcd (f.p + n * (f.q : Int)) (f.q : Int) = 1
  rw [Int.gcd_add_mul_right_left]
  exact h
theorem turned_zero {f : Frac} (h : f.p = 0) : Kqz1.turned f = ⟨1, 0⟩ := by
  unfold Kqz1.turned
  rw [if_pos h]
theorem gcd_turn {f : Frac} (h : Good f) : Int.gcd (-(f.q : Int)) f.p = 1 := by
  rw [Int.neg_gcd, Int.gcd_comm]
  exact h
theorem turned_pos {f : Frac} (h : Good f) (hp : 0 < f.p) : Kqz1.turned f = ⟨-(f.q : Int), f.p.toNat⟩ := by
  unfold Kqz1.turned
  rw [if_neg (by omega)]
  unfold Kqz1.lowest
  rw [gcd_turn h]
  show (if ((1 : Nat) : Int) = 0 then _ else if f.p = 0 then _ else if f.p < 0 then _ else _) = _
  rw [if_neg (by decide), if_neg (by omega), if_neg (by omega)]
  congr 1
  · exact Int.ediv_one _
  · congr 1
    exact Int.ediv_one _
theorem turned_neg {f : Frac} (h : Good f) (hp : f.p < 0) : Kqz1.turned f = ⟨(f.q : Int), (-f.p).toNat⟩ := by
  unfold Kqz1.turned
  rw [if_neg (by omega)]
  unfold Kqz1.lowest
  rw [gcd_turn h]
  show (if ((1 : Nat) : Int) = 0 then _ else if f.p = 0 then _ else if f.p < 0 then _ else _) = _
  rw [if_neg (by decide), if_neg (by omega), if_pos hp]
  congr 1
  · rw [Int.neg_neg]
    exact Int.ediv_one _
  · congr 1
    exact Int.ediv_one _
theorem turned_under {f : Frac} (h : Good f) (hp : f.p ≠ 0) (hq : f.q = 0) : Kqz1.turned f = ⟨0, 1⟩ := by
  have e : f.p.natAbs = 1 := by
    have z : Int.gcd f.p (f.q : Int) = 1 := h
    rw [hq] at z
    simpa using z
  rcases Int.lt_or_gt_of_ne hp with k | k
  · rw [turned_neg h k, hq]
    congr 1
    omega
  · rw [turned_pos h k, hq]
    congr 1
    omega
theorem good_turned {f : Frac} (h : Good f) : Good (Kqz1.turned f) := by
  by_cases hp : f.p = 0
  · rw [turned_zero hp]
    exact good_endless
  · rcases Int.lt_or_gt_of_ne hp with k | k
    · rw [turned_neg h k]
      show Int.gcd (f.q : Int) (((-f.p).toNat : Nat) : Int) = 1
      rw [Int.toNat_of_nonneg (by omega), Int.gcd_neg, Int.gcd_comm]
      exact h
    · rw [turned_pos h k]
      show Int.gcd (-(f.q : Int)) ((f.p.toNat : Nat) : Int) = 1
      rw [Int.toNat_of_nonneg (by omega)]
      exact gcd_turn h
theorem good_after {f : Frac} (h : Good f) (x : Figure) : Good (Kqz1.after f x) := by
  cases x with
  | twist n => exact good_more h n
  | turn => exact good_turned h
theorem good_run : ∀ (l : List Figure) {f : Frac}, Good f → Good (l.foldl Kqz1.after f)
  | [], _, h => h
  | x :: r, _, h => good_run r (good_after h x)
theorem good_comes (l : List Figure) : Good (Kqz1.comes l) := good_run l good_flat

/-! ### how great the numbers get -/
def Within (b : Nat) (f : Frac) : Prop := f.p.natAbs ≤ b ∧ f.q ≤ b
theorem Within.mono {a b : Nat} {f : Frac} (h : Within a f) (hab : a ≤ b) : Within b f := ⟨Nat.le_trans h.1 hab, Nat.le_trans h.2 hab⟩
theorem within_turned {b : Nat} {f : Frac} (hb : 1 ≤ b) (g : Good f) (h : Within b f) : Within b (Kqz1.turned f) := by
  obtain ⟨h1, h2⟩ := h
  by_cases hp : f.p = 0
  · rw [turned_zero hp]
    exact ⟨hb, Nat.zero_le _⟩
  · rcases Int.lt_or_gt_of_ne hp with k | k
    · rw [turned_neg g k]
      constructor
      · show ((f.q : Int)).natAbs ≤ b
        omega
      · show (-f.p).toNat ≤ b
        omega
    · rw [turned_pos g k]
      constructor
      · show (-(f.q : Int)).natAbs ≤ b
        omega
      · show f.p.toNat ≤ b
        omega
theorem within_more {b : Nat} {f : Frac} {n : Int} (h1 : -6 ≤ n) (h2 : n ≤ 6) (h : Within b f) : Within (7 * b) (Kqz1.more f n) := by
  obtain ⟨ha, hb⟩ := h
  refine ⟨?_, ?_⟩
  · show (f.p + n * (f.q : Int)).natAbs ≤ 7 * b
    have e : (n * (f.q : Int)).natAbs = n.natAbs * f.q := by
      rw [Int.natAbs_mul, Int.natAbs_natCast]
    have z : n.natAbs * f.q ≤ 6 * b := Nat.mul_le_mul (by omega) hb
    have t := Int.natAbs_add_le f.p (n * (f.q : Int))
    omega
  · show f.q ≤ 7 * b
    omega
theorem within_after {b : Nat} {f : Frac} {x : Figure} (hb : 1 ≤ b) (g : Good f) (w : FigW x) (h : Within b f) : Within (7 * b) (Kqz1.after f x) := by
  cases x with
  | twist n => exact within_more w.1 w.2 h
  | turn => exact (within_turned hb g h).mono (by omega)
theorem within_run : ∀ (l : List Figure) {f : Frac} {b : Nat}, 1 ≤ b → Good f → FigsW l → Within b f → Within (7 ^ l.length * b) (l.foldl Kqz1.after f)
  | [], f, b, _, _, _, h => by
    show Within (7 ^ 0 * b) f
    rw [Nat.pow_zero, Nat.one_mul]
    exact h
  | x :: r, f, b, hb, g, w, h => by
    have z := within_run r (f := Kqz1.after f x) (b := 7 * b) (by omega) (good_after g x) (fun y hy => w y (List.mem_cons_of_mem _ hy)) (within_after hb g (w x (List.mem_cons_self ..)) h)
    have e : 7 ^ r.length * (7 * b) = 7 ^ (x :: r).length * b := by
      rw [List.length_cons, Nat.pow_succ, Nat.mul_assoc]
    rw [← e]
    exact z
theorem within_comes {l : List Figure} (hl : l.length ≤ 10) (w : FigsW l) : Within 282475249 (Kqz1.comes l) := by
  have z := within_run l (f := Kqz1.flat) (b := 1) (Nat.le_refl _) good_flat w ⟨by decide, by decide⟩
  refine z.mono ?_
  rw [Nat.mul_one]
  exact Nat.le_trans (Nat.pow_le_pow_right (by decide) hl) (by decide)

/-! ### figures by their numbers -/
theorem code_zero {x : Figure} (h : FigOk x) : Kqz6.code x = 0 ↔ x = .turn := by
  cases x with
  | twist n =>
    constructor
    · intro e
      exact absurd e h.1
    · intro e
      cases e
  | turn => exact ⟨fun _ => rfl, fun _ => rfl⟩
theorem code_natAbs {x : Figure} (h : FigW x) : (Kqz6.code x).natAbs ≤ 6 := by
  cases x with
  | twist n =>
    show n.natAbs ≤ 6
    have h1 := h.1
    have h2 := h.2
    omega
  | turn => decide
theorem room_code (x : Figure) : Kqz6.room x = (Kqz6.code x).natAbs := by
  cases x <;> rfl
/-- what the program makes of a figure's number -/
def chg (n : Int) (k : Nat) : Int := if 0 < n then n - 2 * (k : Int) else n + 2 * (k : Int)
theorem chg_code {x : Figure} {k : Nat} (h : FigOk x) (hk : k ≤ Kqz6.room x) : chg (Kqz6.code x) k = Kqz6.code (Kqz6.changed x k) := by
  cases x with
  | twist n => rfl
  | turn =>
    have hk0 : k = 0 := Nat.le_zero.mp hk
    subst hk0
    rfl
theorem changed_w {x : Figure} {k : Nat} (h : FigOk x) (hk : k ≤ Kqz6.room x) : FigW (Kqz6.changed x k) := by
  cases x with
  | twist n =>
    have h1 := h.2.1
    have h2 := h.2.2
    have h3 : k ≤ n.natAbs := hk
    show -6 ≤ (if 0 < n then n - 2 * (k : Int) else n + 2 * (k : Int)) ∧ (if 0 < n then n - 2 * (k : Int) else n + 2 * (k : Int)) ≤ 6
    split <;> omega
  | turn => trivial
theorem changed_none (x : Figure) : Kqz6.changed x 0 = x := by
  cases x with
  | twist n =>
    show Figure.twist (if 0 < n then n - 2 * ((0 : Nat) : Int) else n + 2 * ((0 : Nat) : Int)) = .twist n
    congr 1
    split <;> omega
  | turn => rfl

/-! ### ways -/
/-- a way that fits a row of figures -/
inductive Fits : List Figure → List Nat → Prop
  | nil : Fits [] []
  | cons {x : Figure} {l : List Figure} {k : Nat} {w : List Nat} : k ≤ Kqz6.room x → Fits l w → Fits (x :: l) (k :: w)
theorem Fits.len : ∀ {l : List Figure} {w : List Nat}, Fits l w → l.length = w.length
  | _, _, .nil => rfl
  | _, _, .cons _ h => by rw [List.length_cons, List.length_cons, h.len]
theorem Fits.made_w : ∀ {l : List Figure} {w : List Nat}, Fits l w → FigsOk l → FigsW (Kqz6.made l w)
  | _, _, .nil, _ => fun x hx => nomatch hx
  | _, _, .cons (x := x) (l := l) (k := k) (w := w) h1 h2, g => fun y hy => by
    have hy : y ∈ Kqz6.changed x k :: Kqz6.made l w := hy
    rcases List.mem_cons.mp hy with e | m
    · rw [e]
      exact changed_w (g x (List.mem_cons_self ..)) h1
    · exact h2.made_w (fun z hz => g z (List.mem_cons_of_mem _ hz)) y m
theorem which_fits : ∀ (l : List Figure) (t : Nat) (w : List Nat), w ∈ Kqz6.which l t → Fits l w
  | [], t, w, h => by
    unfold Kqz6.which at h
    split at h
    · rw [List.mem_singleton.mp h]
      exact .nil
    · cases h
  | x :: r, t, w, h => by
    unfold Kqz6.which at h
    obtain ⟨k, hk, hw⟩ := List.mem_flatMap.mp h
    obtain ⟨v, hv, e⟩ := List.mem_map.mp hw
    rw [← e]
    have hk2 := List.mem_range.mp (List.mem_reverse.mp hk)
    exact .cons (by omega) (which_fits r (t - k) v hv)
theorem made_len : ∀ {l : List Figure} {w : List Nat}, Fits l w → (Kqz6.made l w).length = l.length
  | _, _, .nil => rfl
  | _, _, .cons (x := x) (l := l) (k := k) (w := w) _ h => by
    show (Kqz6.changed x k :: Kqz6.made l w).length = _
    rw [List.length_cons, made_len h, List.length_cons]
theorem within_made {l : List Figure} {w : List Nat} (hl : l.length ≤ 10) (g : FigsOk l) (h : Fits l w) : Within 282475249 (Kqz1.comes (Kqz6.made l w)) :=
  within_comes (by rw [made_len h]; exact hl) (h.made_w g)

/-! ### the rows of ways that the program goes through -/
/-- a way so far, the changes left, the fraction so far -/
structure Row where
  way : List Nat
  left : Nat
  frac : Frac
def start (t : Nat) : List Row := [⟨[], t, Kqz1.flat⟩]
/-- how many changes may go to this figure, the greatest first -/
def picks (x : Figure) (left : Nat) : List Nat := (List.range (min (Kqz6.room x) left + 1)).reverse
def longer1 (x : Figure) (r : Row) (k : Nat) : Row := ⟨r.way ++ [k], r.left - k, Kqz1.after r.frac (Kqz6.changed x k)⟩
def longer (x : Figure) (rows : List Row) : List Row := rows.flatMap fun r => (picks x r.left).map (longer1 x r)
def rowsOf (l : List Figure) (rows : List Row) : List Row := l.foldl (fun a x => longer x a) rows
def done (rows : List Row) : List (List Nat × Frac) := (rows.filter fun r => r.left == 0).map fun r => (r.way, r.frac)
/-- the ways of t changes, each with what comes of it -/
def waysF (l : List Figure) (t : Nat) : List (List Nat × Frac) := (Kqz6.which l t).map fun w => (w, Kqz1.comes (Kqz6.made l w))
def tail1 (l : List Figure) (r : Row) : List (List Nat × Frac) := (Kqz6.which l r.left).map fun v => (r.way ++ v, (Kqz6.made l v).foldl Kqz1.after r.frac)
theorem rows_nil : ∀ rows : List Row, done rows = rows.flatMap (tail1 [])
  | [] => rfl
  | r :: rest => by
    have ih := rows_nil rest
    unfold done at ih ⊢
    rw [List.flatMap_cons, ← ih]
    unfold tail1
    by_cases h : r.left = 0
    · rw [List.filter_cons_of_pos (by simp [h]), List.map_cons]
      show _ = ((if r.left = 0 then [[]] else []).map _) ++ _
      rw [if_pos h]
      show _ = (r.way ++ [], r.frac) :: _
      rw [List.append_nil]
      rfl
    · rw [List.filter_cons_of_neg (by simp [h])]
      show _ = ((if r.left = 0 then [[]] else []).map _) ++ _
      rw [if_neg h]
      rfl
theorem flatMap_flatMap' {α β γ : Type} (f : α → List β) (g : β → List γ) : ∀ l : List α, (l.flatMap f).flatMap g = l.flatMap fun a => (f a).flatMap g
  | [] => rfl
  | a :: r => by
    rw [List.flatMap_cons, List.flatMap_append, flatMap_flatMap' f g r, List.flatMap_cons]
theorem tail1_step (x : Figure) (l : List Figure) (r : Row) : ((picks x r.left).map (longer1 x r)).flatMap (tail1 l) = tail1 (x :: l) r := by
  have e1 : tail1 (x :: l) r = (((picks x r.left).flatMap fun k => (Kqz6.which l (r.left - k)).map fun w => k :: w)).map fun v => (r.way ++ v, (Kqz6.made (x :: l) v).foldl Kqz1.after r.frac) := rfl
  rw [e1, List.map_flatMap, List.flatMap_map]
  congr 1
  funext k
  show (Kqz6.which l (r.left - k)).map _ = _
  rw [List.map_map]
  congr 1
  funext v
  show ((r.way ++ [k]) ++ v, _) = (r.way ++ k :: v, _)
  rw [List.append_assoc]
  rfl
theorem rows_all : ∀ (l : List Figure) (rows : List Row), done (rowsOf l rows) = rows.flatMap (tail1 l)
  | [], rows => rows_nil rows
  | x :: l, rows => by
    show done (rowsOf l (longer x rows)) = _
    rw [rows_all l (longer x rows)]
    unfold longer
    rw [flatMap_flatMap']
    congr 1
    funext r
    exact tail1_step x l r
theorem rows_ways (l : List Figure) (t : Nat) : done (rowsOf l (start t)) = waysF l t := by
  rw [rows_all]
  unfold start waysF
  rw [List.flatMap_cons, List.flatMap_nil, List.append_nil]
  rfl
/-! how many there are, roughly: at most five times as many with each figure -/
theorem picks_len (x : Figure) (t : Nat) (h : t ≤ 4) : (picks x t).length ≤ 5 := by
  unfold picks
  rw [List.length_reverse, List.length_range]
  omega
def LeftOk (rows : List Row) : Prop := ∀ r ∈ rows, r.left ≤ 4
theorem longer_len (x : Figure) : ∀ rows : List Row, LeftOk rows → (longer x rows).length ≤ 5 * rows.length
  | [], _ => Nat.le_refl _
  | r :: rest, h => by
    have ih := longer_len x rest fun z hz => h z (List.mem_cons_of_mem _ hz)
    have p := picks_len x r.left (h r (List.mem_cons_self ..))
    unfold longer at ih ⊢
    rw [List.flatMap_cons, List.length_append, List.length_map, List.length_cons]
    omega
theorem longer_left {x : Figure} {rows : List Row} (h : LeftOk rows) : LeftOk (longer x rows) := fun r hr => by
  unfold longer at hr
  obtain ⟨r0, h0, h1⟩ := List.mem_flatMap.mp hr
  obtain ⟨k, _, e⟩ := List.mem_map.mp h1
  rw [← e]
  have z := h r0 h0
  show r0.left - k ≤ 4
  omega
theorem rowsOf_left : ∀ (l : List Figure) {rows : List Row}, LeftOk rows → LeftOk (rowsOf l rows)
  | [], _, h => h
  | x :: l, _, h => rowsOf_left l (longer_left (x := x) h)
theorem rowsOf_len : ∀ (l : List Figure) (rows : List Row), LeftOk rows → (rowsOf l rows).length ≤ 5 ^ l.length * rows.length
  | [], rows, _ => by
    show rows.length ≤ 5 ^ 0 * rows.length
    rw [Nat.pow_zero, Nat.one_mul]
    exact Nat.le_refl _
  | x :: l, rows, h => by
    have ih := rowsOf_len l (longer x rows) (longer_left h)
    have e : 5 ^ (x :: l).length * rows.length = 5 ^ l.length * (5 * rows.length) := by
      rw [List.length_cons, Nat.pow_succ, Nat.mul_assoc]
    rw [e]
    exact Nat.le_trans ih (Nat.mul_le_mul_left _ (longer_len x rows h))
theorem start_left {t : Nat} (h : t ≤ 4) : LeftOk (start t) := fun r hr => by
  rw [List.mem_singleton.mp hr]
  exact h
theorem rows_few {l : List Figure} {t : Nat} (hl : l.length ≤ 10) (ht : t ≤ 4) : (rowsOf l (start t)).length ≤ 9765625 := by
  refine Nat.le_trans (rowsOf_len l (start t) (start_left ht)) ?_
  show 5 ^ l.length * 1 ≤ 9765625
  rw [Nat.mul_one]
  exact Nat.le_trans (Nat.pow_le_pow_right (by decide) hl) (by decide)
theorem ways_few {l : List Figure} {t : Nat} (hl : l.length ≤ 10) (ht : t ≤ 4) : (waysF l t).length ≤ 9765625 := by
  rw [← rows_ways]
  unfold done
  rw [List.length_map]
  exact Nat.le_trans (List.length_filter_le _ _) (rows_few hl ht)
end FC
/-! Plain mathematics, part B: rings, their names, one change. -/
namespace FC
open Kqz1 (Frac Figure)
open Kqz3 (Ring)

/-- a ring whose share is below its size, with nothing in common -/
def RingOk (r : Ring) : Prop := if r.p = 0 then r.q = 0 else r.q < r.p ∧ Nat.gcd r.p r.q = 1
theorem ring_eq {r s : Ring} : (r == s) = decide (r = s) := by
  cases r with
  | mk p q =>
    cases s with
    | mk p' q' =>
      have e : ((⟨p, q⟩ : Ring) == ⟨p', q'⟩) = (p == p' && q == q') := rfl
      rw [e, Bool.eq_iff_iff]
      simp
theorem frac_eq {f g : Frac} : (f == g) = decide (f = g) := by
  cases f with
  | mk p q =>
    cases g with
    | mk p' q' =>
      have e : ((⟨p, q⟩ : Frac) == ⟨p', q'⟩) = (p == p' && q == q') := rfl
      rw [e, Bool.eq_iff_iff]
      simp
instance : LawfulBEq Ring where
  eq_of_beq {a b} h := of_decide_eq_true (ring_eq (r := a) (s := b) ▸ h)
  rfl {a} := by rw [ring_eq]; exact decide_eq_true rfl
instance : LawfulBEq Frac where
  eq_of_beq {a b} h := of_decide_eq_true (frac_eq (f := a) (g := b) ▸ h)
  rfl {a} := by rw [frac_eq]; exact decide_eq_true rfl

theorem ring_zero {f : Frac} (h : f.p = 0) : Kqz3.ringOf f = ⟨0, 0⟩ := by
  unfold Kqz3.ringOf
  show (if f.p.natAbs = 0 then _ else _) = _
  rw [if_pos (by omega)]
theorem ring_pos {f : Frac} (h : 0 < f.p) : Kqz3.ringOf f = ⟨f.p.natAbs, ((f.q : Int) % f.p).toNat⟩ := by
  unfold Kqz3.ringOf
  show (if f.p.natAbs = 0 then _ else _) = _
  have e : ((f.p.natAbs : Nat) : Int) = f.p := by omega
  rw [if_neg (by omega), if_neg (by omega), e]
theorem ring_neg {f : Frac} (h : f.p < 0) : Kqz3.ringOf f = ⟨f.p.natAbs, ((-(f.q : Int)) % (-f.p)).toNat⟩ := by
  unfold Kqz3.ringOf
  show (if f.p.natAbs = 0 then _ else _) = _
  have e : ((f.p.natAbs : Nat) : Int) = -f.p := by omega
  rw [if_neg (by omega), if_pos h, e]
theorem gcd_emod' (a b : Int) : Int.gcd b (a % b) = Int.gcd b a := by
  rw [Int.emod_def]
  exact Int.gcd_sub_mul_left_right b a (a / b)
theorem ring_ok {f : Frac} (g : Good f) : RingOk (Kqz3.ringOf f) := by
  have key : ∀ (a b : Int), 0 < b → Int.gcd b a = 1 → (a % b).toNat < b.natAbs ∧ Nat.gcd b.natAbs (a % b).toNat = 1 := by
    intro a b hb hg
    have h0 := Int.emod_nonneg a (show b ≠ 0 by omega)
    have h1 := Int.emod_lt_of_pos a hb
    refine ⟨by omega, ?_⟩
    have e : (a % b).toNat = (a % b).natAbs := by omega
    rw [e]
    have z := gcd_emod' a b
    rw [hg] at z
    exact z
  by_cases hp : f.p = 0
  · rw [ring_zero hp]
    unfold RingOk
    rw [if_pos rfl]
  · rcases Int.lt_or_gt_of_ne hp with k | k
    · rw [ring_neg k]
      unfold RingOk
      rw [if_neg (by show f.p.natAbs ≠ 0; omega)]
      have z := key (-(f.q : Int)) (-f.p) (by omega) (by rw [Int.neg_gcd, Int.gcd_neg]; exact g)
      rw [Int.natAbs_neg] at z
      exact z
    · rw [ring_pos k]
      unfold RingOk
      rw [if_neg (by show f.p.natAbs ≠ 0; omega)]
      exact key (f.q : Int) f.p k g
theorem ring_size (f : Frac) : (Kqz3.ringOf f).p = f.p.natAbs := by
  unfold Kqz3.ringOf
  show (if f.p.natAbs = 0 then (⟨0, 0⟩ : Ring) else _).p = _
  by_cases h : f.p.natAbs = 0
  · rw [if_pos h, h]
  · rw [if_neg h]

/-! ### the other share -/
/-- what holds between two turns of the loop -/
structure Shares (size share one other first second : Int) : Prop where
  pos : 0 < one
  most : one ≤ size
  nn : 0 ≤ other
  less : other < one ∨ other ≤ size
  low : other ≤ size
  gcd : Int.gcd one other = 1
  d1 : size ∣ first * share - one
  d2 : size ∣ second * share - other
theorem shares_start {p q : Nat} (h0 : 0 < p) (h1 : q < p) (h2 : Nat.gcd p q = 1) : Shares p q p q 0 1 := by
  refine ⟨by omega, by omega, by omega, .inr (by omega), by omega, ?_, ?_, ?_⟩
  · show Nat.gcd (p : Int).natAbs (q : Int).natAbs = 1
    exact h2
  · refine ⟨-1, ?_⟩
    omega
  · refine ⟨0, ?_⟩
    omega
theorem shares_turn {size share one other first second : Int} (S : Shares size share one other first second) (h : 0 < other) :
    Shares size share other (one - one / other * other) second (first - one / other * second) := by
  have e : one - one / other * other = one % other := by
    have z := Int.emod_add_mul_ediv one other
    rw [Int.mul_comm] at z
    omega
  have n0 := Int.emod_nonneg one (show other ≠ 0 by omega)
  have n1 := Int.emod_lt_of_pos one h
  refine ⟨h, S.low, by rw [e]; exact n0, .inl (by rw [e]; exact n1), by rw [e]; have := S.low; omega, ?_, S.d2, ?_⟩
  · rw [e, gcd_emod', Int.gcd_comm]
    exact S.gcd
  · obtain ⟨a, ha⟩ := S.d1
    obtain ⟨b, hb⟩ := S.d2
    refine ⟨a - one / other * b, ?_⟩
    have z1 : (first - one / other * second) * share = first * share - one / other * (second * share) := by
      rw [Int.sub_mul, Int.mul_assoc]
    have z2 : first * share = one + size * a := by omega
    have z3 : second * share = other + size * b := by omega
    rw [z1, z2, z3, Int.mul_add, Int.mul_sub]
    have z4 : one / other * (size * b) = size * (one / other * b) := by
      rw [← Int.mul_assoc, Int.mul_comm (one / other) size, Int.mul_assoc]
    rw [z4]
    omega
theorem shares_less {one other : Int} (h : 0 < other) : (one - one / other * other).toNat < other.toNat := by
  have e : one - one / other * other = one % other := by
    have z := Int.emod_add_mul_ediv one other
    rw [Int.mul_comm] at z
    omega
  have n1 := Int.emod_lt_of_pos one h
  rw [e]
  omega
/-- one number alone leaves 1 -/
theorem inverse_one {p q x y : Nat} (hx : x < p) (hy : y < p) (ex : q * x % p = 1 % p) (ey : q * y % p = 1 % p) : x = y := by
  have a : (y * (q * x)) % p = y % p := by
    rw [Nat.mul_mod, ex, ← Nat.mul_mod, Nat.mul_one]
  have b : (x * (q * y)) % p = x % p := by
    rw [Nat.mul_mod, ey, ← Nat.mul_mod, Nat.mul_one]
  have e : y * (q * x) = x * (q * y) := by
    rw [← Nat.mul_assoc, Nat.mul_comm y q, Nat.mul_comm (q * y) x]
  rw [e, b, Nat.mod_eq_of_lt hx, Nat.mod_eq_of_lt hy] at a
  exact a
theorem inverse_is {p q x : Nat} (hx : x < p) (ex : q * x % p = 1 % p) : Kqz3.inverse ⟨p, q⟩ = x := by
  unfold Kqz3.inverse
  show ((List.range p).find? fun x => q * x % p == 1 % p).getD 0 = x
  cases h : (List.range p).find? fun x => q * x % p == 1 % p with
  | none =>
    have z := List.find?_eq_none.mp h x (List.mem_range.mpr hx)
    exact absurd (beq_iff_eq.mpr ex) z
  | some y =>
    have z := List.find?_some h
    have m := List.mem_range.mp (List.mem_of_find?_eq_some h)
    exact (inverse_one hx m ex (beq_iff_eq.mp z)).symm
theorem shares_end {p q : Nat} {one other first second : Int} (h0 : 0 < p) (S : Shares p q one other first second) (h : ¬ 0 < other) : first % (p : Int) = (Kqz3.inverse ⟨p, q⟩ : Nat) := by
  have e0 : other = 0 := by have := S.nn; omega
  have e1 : one = 1 := by
    have g := S.gcd
    rw [e0] at g
    have z : one.natAbs = 1 := by simpa using g
    have := S.pos
    omega
  obtain ⟨a, ha⟩ := S.d1
  have n0 := Int.emod_nonneg first (show (p : Int) ≠ 0 by omega)
  have n1 := Int.emod_lt_of_pos first (show (0 : Int) < p by omega)
  have key : q * (first % (p : Int)).toNat % p = 1 % p := by
    have z : (((q * (first % (p : Int)).toNat % p : Nat)) : Int) = ((1 % p : Nat) : Int) := by
      rw [Int.natCast_emod, Int.natCast_mul, Int.toNat_of_nonneg n0, Int.mul_emod, Int.emod_emod_of_dvd _ (Int.dvd_refl _), ← Int.mul_emod]
      have t : (q : Int) * first = 1 + (p : Int) * a := by
        rw [Int.mul_comm]
        omega
      rw [t, Int.add_mul_emod_self_left]
      rfl
    exact Int.ofNat.inj z
  have r := inverse_is (p := p) (q := q) (x := (first % (p : Int)).toNat) (by omega) key
  rw [r]
  omega
/-- the least share of both -/
theorem name_is {p q : Nat} (h0 : 0 < p) : Kqz3.name ⟨p, q⟩ = ⟨p, if Kqz3.inverse ⟨p, q⟩ < q then Kqz3.inverse ⟨p, q⟩ else q⟩ := by
  unfold Kqz3.name
  show (if p = 0 then _ else if Kqz3.inverse ⟨p, q⟩ < q then Kqz3.swapped ⟨p, q⟩ else ⟨p, q⟩) = _
  rw [if_neg (by omega)]
  split <;> rfl
theorem name_none {q : Nat} : Kqz3.name ⟨0, q⟩ = ⟨0, q⟩ := by
  unfold Kqz3.name
  exact if_pos rfl

/-! ### one change -/
def undoneBy (size share n : Nat) : Bool := 2 * n * n % size == share || 2 * n * n % size == size - share
def undoneM (size share half m : Nat) : Bool := half % m == 0 && (Nat.gcd m (half / m) == 1 && undoneBy size share (half / m))
def undoneAt (size share half : Nat) : Bool := (List.range half).any fun i => undoneM size share half (i + 1)
def oneChange (r : Ring) : Bool := if r.p < 3 ∨ r.p % 2 = 0 then false else undoneAt r.p r.q ((r.p - 1) / 2) || undoneAt r.p r.q ((r.p + 1) / 2)
theorem share_iff {p q a : Nat} (hq : q < p) : (a % p = q % p ∨ (a + q) % p = 0) ↔ (a % p = q ∨ a % p = p - q) := by
  rw [Nat.mod_eq_of_lt hq]
  have h1 : a % p < p := Nat.mod_lt _ (by omega)
  have h2 : (a + q) % p = (a % p + q) % p := by rw [Nat.mod_add_mod]
  rw [h2]
  constructor
  · rintro (h | h)
    · exact .inl h
    · by_cases c : a % p + q < p
      · rw [Nat.mod_eq_of_lt c] at h
        exact .inl (by omega)
      · rw [Nat.mod_eq_sub_mod (by omega)] at h
        rw [Nat.mod_eq_of_lt (by omega)] at h
        exact .inr (by omega)
  · rintro (h | h)
    · exact .inl h
    · refine .inr ?_
      rw [h]
      have e : p - q + q = p := by omega
      rw [e]
      exact Nat.mod_self p
theorem undoneAt_iff {p q half : Nat} (hq : q < p) (hh : half ≤ p) : undoneAt p q half = true ↔
    ∃ m n, m < p + 1 ∧ n < p + 1 ∧ m ≠ 0 ∧ n ≠ 0 ∧ Nat.gcd m n = 1 ∧ m * n = half ∧ half ≠ 0 ∧ (2 * n * n % p = q % p ∨ (2 * n * n + q) % p = 0) := by
  unfold undoneAt
  rw [List.any_eq_true]
  constructor
  · rintro ⟨i, hi, h⟩
    have hi := List.mem_range.mp hi
    unfold undoneM undoneBy at h
    simp only [Bool.and_eq_true, beq_iff_eq, Bool.or_eq_true] at h
    obtain ⟨h1, h2, h3⟩ := h
    have e : (i + 1) * (half / (i + 1)) = half := Nat.mul_div_cancel' (Nat.dvd_of_mod_eq_zero h1)
    have n0 : half / (i + 1) ≠ 0 := by
      intro z
      rw [z, Nat.mul_zero] at e
      omega
    refine ⟨i + 1, half / (i + 1), by omega, ?_, by omega, n0, h2, e, by omega, (share_iff hq).mpr h3⟩
    have := Nat.div_le_self half (i + 1)
    omega
  · rintro ⟨m, n, hm, hn, m0, n0, hg, e, hz, h⟩
    have le : m ≤ half := by
      rw [← e]
      exact Nat.le_mul_of_pos_right m (by omega)
    refine ⟨m - 1, List.mem_range.mpr (by omega), ?_⟩
    have em : m - 1 + 1 = m := by omega
    have ed : half / m = n := by
      rw [← e]
      exact Nat.mul_div_cancel_left n (by omega)
    rw [em]
    unfold undoneM undoneBy
    simp only [Bool.and_eq_true, beq_iff_eq, Bool.or_eq_true]
    rw [ed]
    refine ⟨?_, hg, (share_iff hq).mp h⟩
    rw [← e]
    exact Nat.mul_mod_right m n
theorem once_is {r : Ring} (ok : RingOk r) (h1 : r.p ≠ 1) : Kqz3.once r = oneChange r := by
  obtain ⟨p, q⟩ := r
  have h1 : p ≠ 1 := h1
  unfold Kqz3.once oneChange
  show (!(Kqz3.onces ⟨p, q⟩).isEmpty) = if p < 3 ∨ p % 2 = 0 then false else undoneAt p q ((p - 1) / 2) || undoneAt p q ((p + 1) / 2)
  by_cases c : p < 3 ∨ p % 2 = 0
  · have e : Kqz3.onces ⟨p, q⟩ = [] := by
      unfold Kqz3.onces
      exact if_pos (show p % 2 = 0 ∨ p = 1 by omega)
    rw [e, if_pos c]
    rfl
  · rw [if_neg c]
    have hp : ¬ (p % 2 = 0 ∨ p = 1) := by omega
    have hq : q < p := by
      unfold RingOk at ok
      rw [if_neg (show ¬ p = 0 by omega)] at ok
      exact ok.1
    rw [Bool.eq_iff_iff, Bool.or_eq_true, undoneAt_iff (p := p) (q := q) hq (by omega), undoneAt_iff (p := p) (q := q) hq (by omega)]
    have key : (!(Kqz3.onces ⟨p, q⟩).isEmpty) = true ↔ ∃ z, z ∈ Kqz3.onces ⟨p, q⟩ := by
      cases h : Kqz3.onces ⟨p, q⟩ with
      | nil => simp
      | cons a l => exact ⟨fun _ => ⟨a, List.mem_cons_self ..⟩, fun _ => rfl⟩
    rw [key]
    have mem : ∀ z : Nat × Nat, z ∈ Kqz3.onces ⟨p, q⟩ ↔ z.1 < p + 1 ∧ z.2 < p + 1 ∧ z.1 ≠ 0 ∧ z.2 ≠ 0 ∧ Nat.gcd z.1 z.2 = 1 ∧ (2 * z.1 * z.2 + 1 = p ∨ 2 * z.1 * z.2 = p + 1) ∧ (2 * z.2 * z.2 % p = q % p ∨ (2 * z.2 * z.2 + q) % p = 0) := by
      intro z
      unfold Kqz3.onces
      rw [if_neg hp, List.mem_flatMap]
      constructor
      · rintro ⟨m, hm, h⟩
        obtain ⟨hz, hc⟩ := List.mem_filter.mp h
        obtain ⟨n, hn, e⟩ := List.mem_map.mp hz
        subst e
        simp only [Bool.and_eq_true, bne_iff_ne, ne_eq, beq_iff_eq, Bool.or_eq_true] at hc
        obtain ⟨⟨⟨⟨c1, c2⟩, c3⟩, c4⟩, c5⟩ := hc
        exact ⟨List.mem_range.mp hm, List.mem_range.mp hn, c1, c2, c3, c4, c5⟩
      · rintro ⟨a1, a2, a3, a4, a5, a6, a7⟩
        refine ⟨z.1, List.mem_range.mpr a1, List.mem_filter.mpr ⟨List.mem_map.mpr ⟨z.2, List.mem_range.mpr a2, rfl⟩, ?_⟩⟩
        simp only [Bool.and_eq_true, bne_iff_ne, ne_eq, beq_iff_eq, Bool.or_eq_true]
        exact ⟨⟨⟨⟨a3, a4⟩, a5⟩, a6⟩, a7⟩
    constructor
    · rintro ⟨z, hz⟩
      obtain ⟨a1, a2, a3, a4, a5, a6, a7⟩ := (mem z).mp hz
      have e2 : 2 * z.1 * z.2 = 2 * (z.1 * z.2) := Nat.mul_assoc _ _ _
      rcases a6 with a6 | a6
      · exact .inl ⟨z.1, z.2, a1, a2, a3, a4, a5, by omega, by omega, a7⟩
      · exact .inr ⟨z.1, z.2, a1, a2, a3, a4, a5, by omega, by omega, a7⟩
    · rintro (⟨m, n, b1, b2, b3, b4, b5, b6, b7, b8⟩ | ⟨m, n, b1, b2, b3, b4, b5, b6, b7, b8⟩)
      · have e2 : 2 * m * n = 2 * (m * n) := Nat.mul_assoc _ _ _
        exact ⟨(m, n), (mem (m, n)).mpr ⟨b1, b2, b3, b4, b5, .inl (by show 2 * m * n + 1 = p; omega), b8⟩⟩
      · have e2 : 2 * m * n = 2 * (m * n) := Nat.mul_assoc _ _ _
        exact ⟨(m, n), (mem (m, n)).mpr ⟨b1, b2, b3, b4, b5, .inr (by show 2 * m * n = p + 1; omega), b8⟩⟩

/-! ### what may be asked for -/
theorem okFrac_zero {p : Int} : Kqz1.okFrac p 0 = decide (p = 1) := by
  rw [Bool.eq_iff_iff]
  unfold Kqz1.okFrac
  have w : Kqz1.WIDE = 9999 := rfl
  simp only [Bool.and_eq_true, decide_eq_true_eq, Bool.or_eq_true, bne_iff_ne, ne_eq, beq_iff_eq, w]
  constructor
  · rintro ⟨_, h | h⟩
    · exact absurd trivial h
    · exact h
  · intro h
    subst h
    decide
theorem okFrac_pos {p : Int} {q : Nat} (h : q ≠ 0) : Kqz1.okFrac p q = (decide ((p.natAbs : Int) ≤ 9999) && (decide ((q : Int) ≤ 9999) && decide (((Int.gcd p q : Nat) : Int) = 1))) := by
  rw [Bool.eq_iff_iff]
  unfold Kqz1.okFrac
  have w : Kqz1.WIDE = 9999 := rfl
  simp only [Bool.and_eq_true, decide_eq_true_eq, Bool.or_eq_true, bne_iff_ne, ne_eq, beq_iff_eq, w]
  constructor
  · rintro ⟨⟨⟨⟨a, b⟩, c⟩, d⟩, _⟩
    exact ⟨by omega, c, by omega⟩
  · rintro ⟨a, b, c⟩
    exact ⟨⟨⟨⟨by omega, by omega⟩, b⟩, by omega⟩, .inl h⟩
theorem okRing_zero {q : Nat} : Kqz3.okRing 0 q = decide (q = 0) := by
  rw [Bool.eq_iff_iff]
  unfold Kqz3.okRing
  simp
theorem okRing_pos {p q : Nat} (h : p ≠ 0) : Kqz3.okRing p q = (decide (p ≤ 400) && (decide (q < p) && decide (Nat.gcd p q = 1))) := by
  rw [Bool.eq_iff_iff]
  unfold Kqz3.okRing
  have w : Kqz3.WIDE = 400 := rfl
  rw [if_neg h]
  simp only [Bool.and_eq_true, decide_eq_true_eq, w, beq_iff_eq]
theorem okRing_ok {p q : Nat} (h : Kqz3.okRing p q = true) : RingOk ⟨p, q⟩ ∧ p ≤ 400 := by
  by_cases hp : p = 0
  · subst hp
    rw [okRing_zero] at h
    refine ⟨?_, by omega⟩
    unfold RingOk
    rw [if_pos rfl]
    exact of_decide_eq_true h
  · rw [okRing_pos hp] at h
    simp only [Bool.and_eq_true, decide_eq_true_eq] at h
    refine ⟨?_, h.1⟩
    unfold RingOk
    rw [if_neg hp]
    exact h.2
end FC
/-! Plain mathematics, part C: each once; figures settled; the fewest; the calls one by one. -/
namespace FC
open Kqz1 (Frac Figure)
open Kqz3 (Ring)
open Kqz6 (Desk)

/-! ### things, each once, as they first come -/
section
variable {α β : Type} [DecidableEq α] [DecidableEq β]
def put1 (a : List α) (x : α) : List α := if x ∈ a then a else a ++ [x]
def once1 (l : List α) : List α := l.foldl put1 []
theorem once1_snoc (l : List α) (x : α) : once1 (l ++ [x]) = put1 (once1 l) x := by
  unfold once1
  rw [List.foldl_append]
  rfl
theorem mem_put1 {a : List α} {x y : α} : y ∈ put1 a x ↔ y ∈ a ∨ y = x := by
  unfold put1
  by_cases h : x ∈ a
  · rw [if_pos h]
    constructor
    · exact .inl
    · rintro (k | k)
      · exact k
      · rw [k]
        exact h
  · rw [if_neg h, List.mem_append, List.mem_singleton]
theorem put1_old {a : List α} {x : α} (h : x ∈ a) : put1 a x = a := if_pos h
theorem put1_new {a : List α} {x : α} (h : ¬ x ∈ a) : put1 a x = a ++ [x] := if_neg h
/- a list, from its end -/
omit [DecidableEq α] in
theorem snoc_ind {P : List α → Prop} (h0 : P []) (h1 : ∀ l x, P l → P (l ++ [x])) (l : List α) : P l := by
  have z : ∀ l : List α, P l.reverse := fun l => by
    induction l with
    | nil => exact h0
    | cons x r ih =>
      rw [List.reverse_cons]
      exact h1 _ _ ih
  have q := z l.reverse
  rw [List.reverse_reverse] at q
  exact q
theorem mem_once1 (y : α) (l : List α) : y ∈ once1 l ↔ y ∈ l := by
  refine snoc_ind (P := fun l => y ∈ once1 l ↔ y ∈ l) (Iff.rfl) (fun l x ih => ?_) l
  rw [once1_snoc, mem_put1, ih, List.mem_append, List.mem_singleton]
theorem once1_map (g : α → β) (l : List α) : once1 ((once1 l).map g) = once1 (l.map g) := by
  refine snoc_ind (P := fun l => once1 ((once1 l).map g) = once1 (l.map g)) rfl (fun l x ih => ?_) l
  rw [once1_snoc, List.map_append, List.map_singleton, once1_snoc]
  by_cases h : x ∈ once1 l
  · rw [put1_old h, ih, put1_old]
    rw [mem_once1]
    exact List.mem_map.mpr ⟨x, (mem_once1 x l).mp h, rfl⟩
  · rw [put1_new h, List.map_append, List.map_singleton, once1_snoc, ih]
theorem once1_len (l : List α) : (once1 l).length ≤ l.length := by
  refine snoc_ind (P := fun l => (once1 l).length ≤ l.length) (Nat.le_refl _) (fun l x ih => ?_) l
  rw [once1_snoc, List.length_append, List.length_singleton]
  unfold put1
  split
  · omega
  · rw [List.length_append, List.length_singleton]
    omega
theorem once1_nodup (l : List α) : (once1 l).Nodup := by
  refine snoc_ind (P := fun l => (once1 l).Nodup) List.nodup_nil (fun l x ih => ?_) l
  rw [once1_snoc]
  by_cases h : x ∈ once1 l
  · rw [put1_old h]
    exact ih
  · rw [put1_new h]
    refine List.nodup_append.mpr ⟨ih, by simp, fun a ha b hb e => ?_⟩
    rw [List.mem_singleton.mp hb] at e
    exact h (e ▸ ha)
end
theorem fold_once {α : Type} [DecidableEq α] [BEq α] [LawfulBEq α] (l : List α) : l.foldl (fun a f => if a.contains f then a else a ++ [f]) [] = once1 l := by
  unfold once1
  have e : (fun (a : List α) (f : α) => if a.contains f then a else a ++ [f]) = put1 := by
    funext a f
    unfold put1
    by_cases h : f ∈ a
    · rw [if_pos h, if_pos (List.contains_iff_mem.mpr h)]
    · rw [if_neg h, if_neg (fun z => h (List.contains_iff_mem.mp z))]
  rw [e]
theorem after_is (l : List Figure) (t : Nat) : Kqz6.after l t = once1 ((waysF l t).map (·.2)) := by
  unfold Kqz6.after waysF
  rw [fold_once, List.map_map]
  rfl
theorem rings_is (l : List Figure) (t : Nat) : Kqz6.rings l t = once1 ((waysF l t).map fun z => Kqz3.name (Kqz3.ringOf z.2)) := by
  unfold Kqz6.rings
  rw [fold_once, after_is, once1_map, List.map_map]
  rfl

/-! ### figures changed for good -/
theorem settle_cons (x : Figure) (l : List Figure) : Kqz6.settle (x :: l) = if x = .twist 0 then Kqz6.settle l else x :: Kqz6.settle l := by
  unfold Kqz6.settle
  have key : (x != Figure.twist 0) = !decide (x = .twist 0) := by
    cases x with
    | twist n =>
      have e : (Figure.twist n == Figure.twist 0) = (n == 0) := rfl
      show (!(Figure.twist n == Figure.twist 0)) = _
      rw [e]
      by_cases h : n = 0
      · subst h
        simp
      · have h2 : ¬ Figure.twist n = Figure.twist 0 := fun z => h (Figure.twist.inj z)
        rw [decide_eq_false h2]
        simp [h]
    | turn => rfl
  by_cases h : x = .twist 0
  · rw [if_pos h, List.filter_cons_of_neg (by rw [key, decide_eq_true h]; decide)]
  · rw [if_neg h, List.filter_cons_of_pos (by rw [key, decide_eq_false h]; rfl)]
theorem settle_run : ∀ (l : List Figure) (f : Frac), (Kqz6.settle l).foldl Kqz1.after f = l.foldl Kqz1.after f
  | [], _ => rfl
  | x :: l, f => by
    rw [settle_cons]
    by_cases h : x = .twist 0
    · rw [if_pos h, settle_run l f, h]
      show _ = l.foldl Kqz1.after (Kqz1.more f 0)
      rw [more_zero]
    · rw [if_neg h]
      exact settle_run l _
theorem settle_comes (l : List Figure) : Kqz1.comes (Kqz6.settle l) = Kqz1.comes l := settle_run l _
theorem settle_mem {l : List Figure} {x : Figure} (h : x ∈ Kqz6.settle l) : x ∈ l ∧ x ≠ .twist 0 := by
  induction l with
  | nil => cases h
  | cons y r ih =>
    rw [settle_cons] at h
    by_cases c : y = .twist 0
    · rw [if_pos c] at h
      have z := ih h
      exact ⟨List.mem_cons_of_mem _ z.1, z.2⟩
    · rw [if_neg c] at h
      rcases List.mem_cons.mp h with e | m
      · rw [e]
        exact ⟨List.mem_cons_self .., c⟩
      · have z := ih m
        exact ⟨List.mem_cons_of_mem _ z.1, z.2⟩
theorem settle_ok {l : List Figure} (h : FigsW l) : FigsOk (Kqz6.settle l) := fun x hx => by
  have z := settle_mem hx
  have w := h x z.1
  cases x with
  | twist n => exact ⟨fun e => z.2 (by rw [e]), w⟩
  | turn => trivial
theorem settle_len (l : List Figure) : (Kqz6.settle l).length ≤ l.length := List.length_filter_le _ _
/-- what the program keeps of a figure changed -/
theorem settle_step {x : Figure} {k : Nat} {l : List Figure} (h : FigOk x) (hk : k ≤ Kqz6.room x) :
    (Kqz6.settle (Kqz6.changed x k :: l)).map Kqz6.code = (if Kqz6.code x = 0 ∨ chg (Kqz6.code x) k ≠ 0 then [chg (Kqz6.code x) k] else []) ++ (Kqz6.settle l).map Kqz6.code := by
  rw [settle_cons, chg_code h hk]
  cases x with
  | twist n =>
    have h0 : ¬ Kqz6.code (.twist n) = 0 := h.1
    by_cases c : Kqz6.code (Kqz6.changed (.twist n) k) = 0
    · have e : Kqz6.changed (.twist n) k = .twist 0 := congrArg Figure.twist c
      rw [if_pos e, if_neg (by rintro (z | z); exact h0 z; exact z c)]
      rfl
    · have e : ¬ Kqz6.changed (.twist n) k = .twist 0 := fun z => c (by rw [z]; rfl)
      rw [if_neg e, if_pos (.inr c)]
      rfl
  | turn =>
    have e : ¬ Kqz6.changed .turn k = .twist 0 := fun z => by cases z
    rw [if_neg e, if_pos (.inl rfl)]
    rfl
theorem settle_snoc (l : List Figure) (x : Figure) : Kqz6.settle (l ++ [x]) = Kqz6.settle l ++ Kqz6.settle [x] := by
  unfold Kqz6.settle
  exact List.filter_append ..

/-- half twists of one figure alone are changed -/
def oneWay (n i k : Nat) : List Nat := (List.range n).map fun j => if j = i then k else 0
theorem oneWay_succ (n i k : Nat) : oneWay (n + 1) i k = (if 0 = i then k else 0) :: (match i with | 0 => List.replicate n 0 | j + 1 => oneWay n j k) := by
  unfold oneWay
  rw [List.range_succ_eq_map, List.map_cons, List.map_map]
  congr 1
  cases i with
  | zero =>
    rw [List.eq_replicate_iff]
    refine ⟨by simp, fun b hb => ?_⟩
    obtain ⟨j, _, e⟩ := List.mem_map.mp hb
    rw [← e]
    show (if j + 1 = 0 then k else 0) = 0
    rw [if_neg (by omega)]
  | succ m =>
    show _ = (List.range n).map fun j => if j = m then k else 0
    apply List.map_congr_left
    intro j _
    show (if j + 1 = m + 1 then k else 0) = if j = m then k else 0
    by_cases h : j = m
    · rw [if_pos h, if_pos (by omega)]
    · rw [if_neg h, if_neg (by omega)]
theorem made_zeros : ∀ l : List Figure, Kqz6.made l (List.replicate l.length 0) = l
  | [] => rfl
  | x :: l => by
    show Kqz6.changed x 0 :: Kqz6.made l (List.replicate l.length 0) = x :: l
    rw [changed_none, made_zeros l]
theorem fits_zeros : ∀ l : List Figure, Fits l (List.replicate l.length 0)
  | [] => .nil
  | _ :: l => .cons (Nat.zero_le _) (fits_zeros l)
theorem made_one : ∀ (l : List Figure) (i k : Nat) (x : Figure), l[i]? = some x → Kqz6.made l (oneWay l.length i k) = l.set i (Kqz6.changed x k)
  | [], _, _, _, h => by simp at h
  | y :: l, 0, k, x, h => by
    have e : y = x := Option.some.inj h
    subst e
    rw [List.length_cons, oneWay_succ]
    show Kqz6.changed y (if 0 = 0 then k else 0) :: Kqz6.made l (List.replicate l.length 0) = Kqz6.changed y k :: l
    rw [if_pos rfl, made_zeros]
  | y :: l, i + 1, k, x, h => by
    rw [List.length_cons, oneWay_succ]
    show Kqz6.changed y (if 0 = i + 1 then k else 0) :: Kqz6.made l (oneWay l.length i k) = y :: l.set i (Kqz6.changed x k)
    rw [if_neg (by omega), changed_none, made_one l i k x h]
theorem fits_one : ∀ (l : List Figure) (i k : Nat) (x : Figure), l[i]? = some x → k ≤ Kqz6.room x → Fits l (oneWay l.length i k)
  | [], _, _, _, h, _ => by simp at h
  | y :: l, 0, k, x, h, hk => by
    have e : y = x := Option.some.inj h
    subst e
    rw [List.length_cons, oneWay_succ]
    refine .cons ?_ (fits_zeros l)
    rw [if_pos rfl]
    exact hk
  | y :: l, i + 1, k, x, h, hk => by
    rw [List.length_cons, oneWay_succ]
    refine .cons ?_ (fits_one l i k x h hk)
    rw [if_neg (by omega)]
    exact Nat.zero_le _

/-! ### the fewest -/
theorem firstOf_none {l : List Figure} {t : Nat} {p : Frac → Bool} (h : ∀ z ∈ waysF l t, p z.2 = false) : Kqz6.firstOf l t p = none := by
  unfold Kqz6.firstOf
  refine List.find?_eq_none.mpr fun w hw z => ?_
  have q := h (w, Kqz1.comes (Kqz6.made l w)) (List.mem_map.mpr ⟨w, hw, rfl⟩)
  rw [show p (Kqz1.comes (Kqz6.made l w)) = false from q] at z
  exact Bool.false_ne_true z
theorem find_first {α : Type} {p : α → Bool} : ∀ (l : List α) (j : Nat) (a : α), l[j]? = some a → p a = true → (∀ i b, i < j → l[i]? = some b → p b = false) → l.find? p = some a
  | [], _, _, h, _, _ => by simp at h
  | x :: l, 0, a, h, hp, _ => by
    have e : x = a := Option.some.inj h
    subst e
    rw [List.find?_cons_of_pos hp]
  | x :: l, j + 1, a, h, hp, hb => by
    rw [List.find?_cons_of_neg (by rw [hb 0 x (by omega) rfl]; exact Bool.false_ne_true)]
    exact find_first l j a h hp fun i b hi e => hb (i + 1) b (by omega) e
theorem firstOf_some {l : List Figure} {t j : Nat} {p : Frac → Bool} {w : List Nat} {f : Frac} (h : (waysF l t)[j]? = some (w, f)) (hp : p f = true) (hb : ∀ i z, i < j → (waysF l t)[i]? = some z → p z.2 = false) : Kqz6.firstOf l t p = some w := by
  unfold waysF at h hb
  rw [List.getElem?_map] at h
  cases e : (Kqz6.which l t)[j]? with
  | none =>
    rw [e] at h
    cases h
  | some v =>
    rw [e] at h
    have z := Option.some.inj h
    have z1 : v = w := congrArg Prod.fst z
    have z2 : Kqz1.comes (Kqz6.made l v) = f := congrArg Prod.snd z
    subst z1
    unfold Kqz6.firstOf
    refine find_first _ j v e (by rw [z2]; exact hp) fun i b hi eb => ?_
    refine hb i (b, Kqz1.comes (Kqz6.made l b)) hi ?_
    rw [List.getElem?_map, eb]
    rfl
theorem findSome_range {α : Type} {g : Nat → Option α} : ∀ (n t : Nat) (a : α), t < n → g t = some a → (∀ i, i < t → g i = none) → (List.range n).findSome? g = some a := by
  intro n t a ht ha hb
  obtain ⟨m, rfl⟩ : ∃ m, n = t + 1 + m := ⟨n - t - 1, by omega⟩
  rw [List.range_add, List.range_succ, List.append_assoc, List.findSome?_append]
  have e3 : (List.range t).findSome? g = none := List.findSome?_eq_none_iff.mpr fun i hi => hb i (List.mem_range.mp hi)
  rw [e3, List.singleton_append, List.findSome?_cons, ha]
  rfl
theorem fewest_some {l : List Figure} {t : Nat} {p : Frac → Bool} {w : List Nat} (ht : t < 5) (h : Kqz6.firstOf l t p = some w) (hb : ∀ i, i < t → Kqz6.firstOf l i p = none) : Kqz6.fewest l p = some (t, w) := by
  unfold Kqz6.fewest
  refine findSome_range 5 t (t, w) ht ?_ fun i hi => ?_
  · rw [h]
    rfl
  · rw [hb i hi]
    rfl
theorem fewest_none {l : List Figure} {p : Frac → Bool} (hb : ∀ i, i < 5 → Kqz6.firstOf l i p = none) : Kqz6.fewest l p = none := by
  unfold Kqz6.fewest
  refine List.findSome?_eq_none_iff.mpr fun i hi => ?_
  rw [hb i (List.mem_range.mp hi)]
  rfl
theorem firstOf_fits {l : List Figure} {t : Nat} {p : Frac → Bool} {w : List Nat} (h : Kqz6.firstOf l t p = some w) : Fits l w :=
  which_fits l t w (List.mem_of_find?_eq_some h)
theorem fewest_fits {l : List Figure} {p : Frac → Bool} {z : Nat × List Nat} (h : Kqz6.fewest l p = some z) : Fits l z.2 := by
  unfold Kqz6.fewest at h
  obtain ⟨t, _, e⟩ := List.exists_of_findSome?_eq_some h
  obtain ⟨w, hw, e2⟩ := Option.map_eq_some_iff.mp e
  rw [← e2]
  exact firstOf_fits hw

/-! ### a desk as the program keeps it -/
structure DeskOk (d : Desk) : Prop where
  len : d.l.length ≤ 10
  figs : FigsOk d.l
  fits : ∀ w, d.last = some w → Fits d.l w
def StateOk (s : Option Desk) : Prop := ∀ d, s = some d → DeskOk d
theorem desk_fresh {l : List Figure} (h1 : l.length ≤ 10) (h2 : FigsOk l) : DeskOk ⟨l, none⟩ := ⟨h1, h2, fun w h => by cases h⟩
theorem desk_found {d : Desk} (h : DeskOk d) (p : Frac → Bool) : StateOk (Kqz6.found d p).1 := fun e he => by
  have e1 : (⟨d.l, (Kqz6.fewest d.l p).map (·.2)⟩ : Desk) = e := Option.some.inj he
  subst e1
  refine ⟨h.len, h.figs, fun w hw => ?_⟩
  obtain ⟨z, hz, ez⟩ := Option.map_eq_some_iff.mp hw
  rw [← ez]
  exact fewest_fits hz
end FC
/-! Plain mathematics, part D: each call's answer, as the program finds it; a list of calls, one behind another. -/
namespace FC
open Kqz1 (Frac Figure)
open Kqz3 (Ring)
open Kqz6 (Desk Call Ans)

/-! ### one call each -/
theorem step_none (c : Call) (h : c ≠ .start) : Kqz6.step none c = (none, .num (-11)) := by
  cases c <;> first | rfl | exact absurd rfl h
section
variable {d : Desk}
theorem twist_beyond {n : Int} (h : n = 0 ∨ 6 < (n.natAbs : Int)) : Kqz6.step (some d) (.twist n) = (some d, .num (-22)) := by
  show (if n < -6 ∨ (6 : Int) < n ∨ n = 0 then _ else _) = _
  rw [if_pos (by omega)]
theorem twist_full {n : Int} (h : ¬ (n = 0 ∨ 6 < (n.natAbs : Int))) (hl : d.l.length = 10) : Kqz6.step (some d) (.twist n) = (some d, .num (-28)) := by
  show (if n < -6 ∨ (6 : Int) < n ∨ n = 0 then _ else if 10 ≤ d.l.length then _ else _) = _
  rw [if_neg (by omega), if_pos (by omega)]
theorem twist_more {n : Int} (h : ¬ (n = 0 ∨ 6 < (n.natAbs : Int))) (hl : ¬ d.l.length = 10) (hd : DeskOk d) :
    Kqz6.step (some d) (.twist n) = (some ⟨d.l ++ [.twist n], none⟩, Kqz6.frac (Kqz1.comes (d.l ++ [.twist n]))) ∧ DeskOk ⟨d.l ++ [.twist n], none⟩ := by
  have hl2 := hd.len
  refine ⟨?_, desk_fresh ?_ fun x hx => ?_⟩
  · show (if n < -6 ∨ (6 : Int) < n ∨ n = 0 then _ else if 10 ≤ d.l.length then _ else _) = _
    rw [if_neg (by omega), if_neg (by omega)]
    rfl
  · rw [List.length_append, List.length_singleton]
    omega
  · rcases List.mem_append.mp hx with m | m
    · exact hd.figs x m
    · rw [List.mem_singleton.mp m]
      exact ⟨fun z => h (.inl z), by omega, by omega⟩
theorem turn_full (hl : d.l.length = 10) : Kqz6.step (some d) .turn = (some d, .num (-28)) := by
  show (if 10 ≤ d.l.length then _ else _) = _
  rw [if_pos (by omega)]
theorem turn_more (hl : ¬ d.l.length = 10) (hd : DeskOk d) :
    Kqz6.step (some d) .turn = (some ⟨d.l ++ [.turn], none⟩, Kqz6.frac (Kqz1.comes (d.l ++ [.turn]))) ∧ DeskOk ⟨d.l ++ [.turn], none⟩ := by
  have hl2 := hd.len
  refine ⟨?_, desk_fresh ?_ fun x hx => ?_⟩
  · show (if 10 ≤ d.l.length then _ else _) = _
    rw [if_neg (by omega)]
    rfl
  · rw [List.length_append, List.length_singleton]
    omega
  · rcases List.mem_append.mp hx with m | m
    · exact hd.figs x m
    · rw [List.mem_singleton.mp m]
      trivial
theorem off_none (h : d.l = []) : Kqz6.step (some d) .off = (some d, .num (-6)) := by
  show (if d.l.isEmpty = true then _ else _) = _
  rw [h]
  rfl
theorem off_last (h : ¬ d.l = []) (hd : DeskOk d) : Kqz6.step (some d) .off = (some ⟨d.l.dropLast, none⟩, .num d.l.dropLast.length) ∧ DeskOk ⟨d.l.dropLast, none⟩ := by
  have hl2 := hd.len
  refine ⟨?_, desk_fresh ?_ fun x hx => hd.figs x ((List.dropLast_sublist d.l).subset hx)⟩
  · show (if d.l.isEmpty = true then _ else _) = _
    cases e : d.l with
    | nil => exact absurd e h
    | cons x r => rfl
  · show d.l.dropLast.length ≤ 10
    rw [List.length_dropLast]
    omega
theorem change_no {i k : Nat} (h : d.l.length ≤ i) : Kqz6.step (some d) (.change i k) = (some d, .num (-2)) := by
  show (match d.l[i]? with | none => _ | some x => _) = _
  rw [List.getElem?_eq_none h]
theorem change_beyond {i k : Nat} {x : Figure} (h : d.l[i]? = some x) (hk : Kqz6.room x < k) : Kqz6.step (some d) (.change i k) = (some d, .num (-22)) := by
  show (match d.l[i]? with | none => _ | some x => _) = _
  rw [h]
  exact if_pos hk
theorem fits_settle {w : List Nat} (hd : DeskOk d) (h : Fits d.l w) : DeskOk ⟨Kqz6.settle (Kqz6.made d.l w), none⟩ := by
  refine desk_fresh ?_ (settle_ok (h.made_w hd.figs))
  have z := settle_len (Kqz6.made d.l w)
  rw [made_len h] at z
  exact Nat.le_trans z hd.len
theorem change_done {i k : Nat} {x : Figure} (h : d.l[i]? = some x) (hk : k ≤ Kqz6.room x) (hd : DeskOk d) :
    Kqz6.step (some d) (.change i k) = (some ⟨Kqz6.settle (Kqz6.made d.l (oneWay d.l.length i k)), none⟩, Kqz6.frac (Kqz1.comes (Kqz6.settle (Kqz6.made d.l (oneWay d.l.length i k))))) ∧
      DeskOk ⟨Kqz6.settle (Kqz6.made d.l (oneWay d.l.length i k)), none⟩ := by
  refine ⟨?_, fits_settle hd (fits_one d.l i k x h hk)⟩
  rw [settle_comes, made_one d.l i k x h]
  show (match d.l[i]? with | none => _ | some x => _) = _
  rw [h]
  exact if_neg (by omega)
theorem do_none (h : d.last = none) : Kqz6.step (some d) .do_ = (some d, .num (-6)) := by
  show (match d.last with | none => _ | some w => _) = _
  rw [h]
theorem do_way {w : List Nat} (h : d.last = some w) (hd : DeskOk d) :
    Kqz6.step (some d) .do_ = (some ⟨Kqz6.settle (Kqz6.made d.l w), none⟩, Kqz6.frac (Kqz1.comes (Kqz6.settle (Kqz6.made d.l w)))) ∧ DeskOk ⟨Kqz6.settle (Kqz6.made d.l w), none⟩ := by
  refine ⟨?_, fits_settle hd (hd.fits w h)⟩
  rw [settle_comes]
  show (match d.last with | none => _ | some w => _) = _
  rw [h]
  rfl
theorem way_none (h : d.last = none) : Kqz6.step (some d) .way = (some d, .num (-6)) := by
  show (some d, match d.last with | none => _ | some w => _) = _
  rw [h]
theorem way_some {w : List Nat} (h : d.last = some w) : Kqz6.step (some d) .way = (some d, .some_ w.length w) := by
  show (some d, match d.last with | none => _ | some w => _) = _
  rw [h]
theorem found_some {p : Frac → Bool} {t : Nat} {w : List Nat} (h : Kqz6.fewest d.l p = some (t, w)) : Kqz6.found d p = (some ⟨d.l, some w⟩, .num (t : Int)) := by
  show (some ({ d with last := (Kqz6.fewest d.l p).map (·.2) } : Desk), Kqz6.tell (Kqz6.fewest d.l p)) = _
  rw [h]
  rfl
theorem found_none {p : Frac → Bool} (h : Kqz6.fewest d.l p = none) : Kqz6.found d p = (some ⟨d.l, none⟩, .num (-33)) := by
  show (some ({ d with last := (Kqz6.fewest d.l p).map (·.2) } : Desk), Kqz6.tell (Kqz6.fewest d.l p)) = _
  rw [h]
  rfl
theorem keeps_some {w : List Nat} (hd : DeskOk d) (h : Fits d.l w) : DeskOk ⟨d.l, some w⟩ := ⟨hd.len, hd.figs, fun v e => by
  cases e
  exact h⟩
theorem keeps_none (hd : DeskOk d) : DeskOk ⟨d.l, none⟩ := desk_fresh hd.len hd.figs
theorem to_beyond {p : Int} {q : Nat} (h : Kqz1.okFrac p q = false) : Kqz6.step (some d) (.to_ p q) = (some d, .num (-22)) := by
  show (if Kqz1.okFrac p q = false then _ else _) = _
  rw [if_pos h]
theorem to_found {p : Int} {q : Nat} (h : Kqz1.okFrac p q = true) : Kqz6.step (some d) (.to_ p q) = Kqz6.found d (fun f => decide (f = ⟨p, q⟩)) := by
  show (if Kqz1.okFrac p q = false then _ else _) = _
  rw [if_neg (by rw [h]; decide)]
  congr 1
  funext f
  exact frac_eq
theorem flat_found : Kqz6.step (some d) .flat = Kqz6.found d (fun f => decide (f = Kqz1.flat)) := by
  show Kqz6.found d (Kqz6.same Kqz1.flat) = _
  congr 1
  funext f
  exact frac_eq
theorem undone_found : Kqz6.step (some d) .undone = Kqz6.found d (fun f => (Kqz3.ringOf f).p == 1) := rfl
theorem split_found : Kqz6.step (some d) .split = Kqz6.found d (fun f => (Kqz3.ringOf f).p == 0) := rfl
theorem closes_beyond {p q : Nat} (h : Kqz3.okRing p q = false) : Kqz6.step (some d) (.closes p q) = (some d, .num (-22)) := by
  show (if Kqz3.okRing p q = false then _ else _) = _
  rw [if_pos h]
theorem closes_found {p q : Nat} (h : Kqz3.okRing p q = true) : Kqz6.step (some d) (.closes p q) = Kqz6.found d (fun f => decide (Kqz3.name (Kqz3.ringOf f) = Kqz3.name ⟨p, q⟩)) := by
  show (if Kqz3.okRing p q = false then _ else _) = _
  rw [if_neg (by rw [h]; decide)]
  congr 1
  funext f
  exact ring_eq
theorem ways_beyond {t : Nat} (h : 4 < t) : Kqz6.step (some d) (.ways t) = (some d, .num (-22)) := by
  show (some d, if 4 < t then _ else _) = _
  rw [if_pos h]
theorem ways_told {t : Nat} (h : ¬ 4 < t) : Kqz6.step (some d) (.ways t) = (some d, .num ((waysF d.l t).length : Int)) := by
  show (some d, if 4 < t then _ else _) = _
  rw [if_neg h]
  unfold waysF
  rw [List.length_map]
theorem results_beyond {t : Nat} (h : 4 < t) : Kqz6.step (some d) (.results t) = (some d, .num (-22)) := by
  show (some d, if 4 < t then _ else _) = _
  rw [if_pos h]
theorem results_told {t : Nat} (h : ¬ 4 < t) : Kqz6.step (some d) (.results t) = (some d, .num ((once1 ((waysF d.l t).map (·.2))).length : Int)) := by
  show (some d, if 4 < t then _ else _) = _
  rw [if_neg h, after_is]
theorem rings_beyond {t : Nat} (h : 4 < t) : Kqz6.step (some d) (.rings t) = (some d, .num (-22)) := by
  show (some d, if 4 < t then _ else _) = _
  rw [if_pos h]
def namesOf (l : List Figure) (t : Nat) : List Ring := once1 ((waysF l t).map fun z => Kqz3.name (Kqz3.ringOf z.2))
theorem rings_told {t : Nat} (h : ¬ 4 < t) : Kqz6.step (some d) (.rings t) = (some d, .some_ ((namesOf d.l t).length : Int) ((namesOf d.l t).flatMap fun r => [r.p, r.q])) := by
  show (some d, if 4 < t then _ else _) = _
  rw [if_neg h, rings_is]
  rfl
theorem bound_told : Kqz6.step (some d) .bound = (some d, .num (if (Kqz3.ringOf (Kqz1.comes d.l)).p = 1 then 0 else if oneChange (Kqz3.ringOf (Kqz1.comes d.l)) then 1 else 2)) := by
  show (some d, Ans.num (if (Kqz3.ringOf (Kqz1.comes d.l)).p = 1 then 0 else if Kqz3.once (Kqz3.ringOf (Kqz1.comes d.l)) then 1 else 2)) = _
  by_cases h : (Kqz3.ringOf (Kqz1.comes d.l)).p = 1
  · rw [if_pos h, if_pos h]
  · rw [if_neg h, if_neg h, once_is (ring_ok (good_comes d.l)) h]
end
/-- how many half twists, as the program adds them up -/
theorem twists_is (l : List Figure) : ((Kqz1.twists l : Nat) : Int) = (l.map fun x => ((Kqz6.code x).natAbs : Int)).sum := by
  unfold Kqz1.twists
  have key : ∀ (m : List Figure) (a : Nat), (((m.map fun x => match x with | Figure.twist n => n.natAbs | Figure.turn => 0).foldl (fun a b => a + b) a : Nat) : Int) = (a : Int) + (m.map fun x => ((Kqz6.code x).natAbs : Int)).sum := by
    intro m
    induction m with
    | nil =>
      intro a
      show (a : Int) = a + 0
      omega
    | cons x r ih =>
      intro a
      rw [List.map_cons, List.foldl_cons, ih, List.map_cons, List.sum_cons]
      cases x with
      | twist n =>
        show ((a + n.natAbs : Nat) : Int) + _ = (a : Int) + ((n.natAbs : Int) + _)
        omega
      | turn =>
        show ((a + 0 : Nat) : Int) + _ = (a : Int) + ((((0 : Int).natAbs : Nat) : Int) + _)
        omega
  exact (key l 0).trans (by omega)

/-! ### a list of calls -/
def counts : List Int := [0, 1, 0, 0, 0, 0, 0, 2, 0, 0, 0, 2, 2, 1, 1, 1, 0, 0, 0, 0, 0]
theorem whole_id (c : List (List Int)) : PyKqz6.whole c = c := by
  unfold PyKqz6.whole
  split <;> rfl
theorem ite_or {α : Type} {c : Prop} [Decidable c] {a x : α} {b : Option α} (h : (if c then some a else b) = some x) : (c ∧ a = x) ∨ b = some x := by
  by_cases k : c
  · rw [if_pos k] at h
    exact .inl ⟨k, Option.some.inj h⟩
  · rw [if_neg k] at h
    exact .inr h
theorem shape_some {p : Int} {nk : Nat × Nat} (h : PyKqz6.shape p = some nk) : ∃ c : Nat, p = (c : Int) ∧ c ≤ 20 ∧ counts[c]? = some (nk.1 : Int) ∧ nk.2 = 0 := by
  refine ⟨p.toNat, ?_⟩
  unfold PyKqz6.shape at h
  iterate 21
    rcases ite_or h with ⟨e, rfl⟩ | h
    · subst e
      exact ⟨by decide, by decide, by decide, rfl⟩
  cases h
/-- what a rest of the calls makes of a state: the numbers that are still to be told -/
def Rest (s : Option Desk) (r out : List Int) : Prop := ∃ raw : List (List (List Int)), (∃ f, PyFlat.calls PyKqz6.shape f r = some raw) ∧ (∀ c ∈ raw, Kqz6Neutral.asked1 c = true) ∧ out = PyFlat.told (PyFlat.played Kqz6Neutral.step s raw)
theorem rest_nil {s : Option Desk} {out : List Int} (h : Rest s [] out) : out = [] := by
  obtain ⟨raw, ⟨f, hf⟩, _, e⟩ := h
  have z : raw = [] := by
    cases f <;> exact (Option.some.inj hf).symm
  subst z
  exact e
theorem rest_cons {s : Option Desk} {x : Int} {r out : List Int} (h : Rest s (x :: r) out) :
    ∃ c n : Nat, x = (c : Int) ∧ c ≤ 20 ∧ counts[c]? = some (n : Int) ∧ n ≤ r.length ∧ Kqz6Neutral.asked1 [x :: r.take n] = true ∧
      ∃ out', out = (((Kqz6Neutral.step s [x :: r.take n]).2.length : Int) :: (Kqz6Neutral.step s [x :: r.take n]).2) ++ out' ∧ Rest (Kqz6Neutral.step s [x :: r.take n]).1 (r.drop n) out' := by
  obtain ⟨raw, ⟨f, hf⟩, ha, e⟩ := h
  cases f with
  | zero => cases hf
  | succ f =>
    have hf : (match PyFlat.call PyKqz6.shape (x :: r) with
      | none => none
      | some (c, t) => match PyFlat.calls PyKqz6.shape f t with
        | none => none
        | some cs => some (c :: cs)) = some raw := hf
    cases hc : PyFlat.call PyKqz6.shape (x :: r) with
    | none =>
      rw [hc] at hf
      cases hf
    | some ct =>
      obtain ⟨c, t⟩ := ct
      rw [hc] at hf
      have hf : (match PyFlat.calls PyKqz6.shape f t with
        | none => none
        | some cs => some (c :: cs)) = some raw := hf
      cases ht : PyFlat.calls PyKqz6.shape f t with
      | none =>
        rw [ht] at hf
        cases hf
      | some cs =>
        rw [ht] at hf
        have er : c :: cs = raw := Option.some.inj hf
        subst er
        have hc : (match PyKqz6.shape x with
          | none => none
          | some (n, k) => if r.length < n then none else match PyFlat.rows k (r.drop n) with
            | none => none
            | some (xs, t) => some ((x :: r.take n) :: xs, t)) = some (c, t) := hc
        cases hs : PyKqz6.shape x with
        | none =>
          rw [hs] at hc
          cases hc
        | some nk =>
          obtain ⟨n, k⟩ := nk
          rw [hs] at hc
          obtain ⟨cn, ex, hcn, hn, hk⟩ := shape_some hs
          have hk : k = 0 := hk
          subst hk
          have hc : (if r.length < n then none else some ([x :: r.take n], r.drop n)) = some (c, t) := hc
          by_cases hl : r.length < n
          · rw [if_pos hl] at hc
            cases hc
          · rw [if_neg hl] at hc
            have z := Option.some.inj hc
            have z1 : [x :: r.take n] = c := congrArg Prod.fst z
            have z2 : r.drop n = t := congrArg Prod.snd z
            subst z1 z2
            refine ⟨cn, n, ex, hcn, hn, by omega, ha _ (List.mem_cons_self ..), _, ?_, cs, ⟨f, ht⟩, fun c hc => ha c (List.mem_cons_of_mem _ hc), rfl⟩
            rw [e]
            show PyFlat.told (_ :: _) = _
            rfl
theorem played_is : ∀ (l : List (List (List Int))) (s : Option Desk), Kqz6Neutral.answersFrom s l = PyFlat.played Kqz6Neutral.step s l
  | [], _ => rfl
  | _ :: l, _ => congrArg (List.cons _) (played_is l _)
theorem told_len : ∀ l : List (List Int), (PyFlat.told l).length = l.length + (l.map List.length).sum
  | [] => rfl
  | a :: l => by
    have ih := told_len l
    show ((_ :: a) ++ PyFlat.told l).length = _
    rw [List.length_append, List.length_cons, ih, List.length_cons, List.map_cons, List.sum_cons]
    omega
theorem played_len : ∀ (l : List (List (List Int))) (s : Option Desk), (PyFlat.played Kqz6Neutral.step s l).length = l.length
  | [], _ => rfl
  | c :: l, s => by
    show (_ :: PyFlat.played Kqz6Neutral.step _ l).length = _
    rw [List.length_cons, played_len l, List.length_cons]
theorem fold_sum (l : List Nat) (a : Nat) : l.foldl (fun x y => x + y) a = a + l.sum := by
  induction l generalizing a with
  | nil => rfl
  | cons x r ih =>
    rw [List.foldl_cons, ih, List.sum_cons]
    omega
theorem map_whole (l : List (List (List Int))) : l.map PyKqz6.whole = l := by
  have e : PyKqz6.whole = id := funext whole_id
  rw [e, List.map_id]
/-- what is asked: the whole list, from no drawing -/
theorem rest_start {l : List Int} (h : PyKqz6.answers_asked l = true) : Rest none l (PyKqz6.answers l) ∧ (PyKqz6.answers l).length ≤ 1000200 := by
  unfold PyKqz6.answers_asked at h
  cases hc : PyFlat.calls PyKqz6.shape l.length l with
  | none =>
    rw [hc] at h
    cases h
  | some raw =>
    rw [hc] at h
    have h : (!raw.isEmpty && PyFlat.atMost 200 raw && PyInside.calls PyKqz6.bound raw && Kqz6Neutral.asked (raw.map PyKqz6.whole) && PyFlat.short 10000000 (PyKqz6.answers l)) = true := h
    rw [map_whole] at h
    simp only [Bool.and_eq_true] at h
    obtain ⟨⟨⟨⟨_, h2⟩, _⟩, h4⟩, _⟩ := h
    have h2 : raw.length ≤ 200 := of_decide_eq_true h2
    unfold Kqz6Neutral.asked at h4
    simp only [Bool.and_eq_true] at h4
    obtain ⟨⟨_, h5, _⟩, h6⟩ := h4
    have ea : PyKqz6.answers l = PyFlat.told (PyFlat.played Kqz6Neutral.step none raw) := by
      unfold PyKqz6.answers PyKqz6.calls
      rw [hc]
      show PyFlat.told (PyFlat.played Kqz6Neutral.step Kqz6Neutral.start (raw.map PyKqz6.whole)) = _
      rw [map_whole]
      rfl
    refine ⟨⟨raw, ⟨l.length, hc⟩, fun c hc => List.all_eq_true.mp h5 c hc, ea⟩, ?_⟩
    rw [ea, told_len, played_len]
    have h6 : ((Kqz6Neutral.answersFrom none raw).map List.length).foldl (fun x y => x + y) 0 < 1000000 := of_decide_eq_true h6
    rw [played_is, fold_sum] at h6
    omega
end FC
/-! The walk, part 0: the text by places; words that every def's proof uses. -/
namespace FC
open PySem PySem.Spec PyProof.Rows L2
open Kqz1 (Frac Figure)
open Kqz3 (Ring)
/-- the i-th statement of the program -/
def top (i : Nat) : Stmt := PySem.Challenge.pw_fewchanges_s01_answers.main.body.getD i (.Pass ⟨0, 0, 0, 0⟩)

/-- a def of the program, as it stands behind the top -/
structure Def (K : PySem.W.Frag) (mg : Str → Option Value) (x : Str) (st : Stmt) (ps : List Str) (f : Addr) (fd : FuncData) : Prop where
  fn : Fun K x x st f fd
  g : mg x = some (.ref f)
  b : Binds K fd ps []
/-- the def of that name keeps the promise sp, by k rooms -/
structure Can (P : Program) (w : World) (K : PySem.W.Frag) (mg : Str → Option Value) (base : Heap) (x : Str) (k : Nat) (ps : List Str) (sp : Sp) : Prop where
  ex : ∃ f fd, FnOk P w K mg base CX0 k f fd ps sp ∧ mg x = some (.ref f) ∧ PySem.W.keepIn K (.ref f) = true ∧ Binds K fd ps []
theorem Def.can {P : Program} {w : World} {K : PySem.W.Frag} {mg : Str → Option Value} {base : Heap} {x : Str} {st : Stmt} {k : Nat} {ps : List Str} {sp : Sp} {f : Addr} {fd : FuncData} (D : Def K mg x st ps f fd) (F : FnOk P w K mg base CX0 k f fd ps sp) :
    Can P w K mg base x k ps sp := ⟨f, fd, F, D.g, D.fn.kp, D.b⟩
def tCan (sp : Sp) (t : TA) : TE := fun σ H Q => t σ H fun vs H1 => sp vs H1 Q E0
/-- x(e, ..) by the promise of x -/
theorem pe_can {X : Cx} {x : Str} {k : Nat} {ps : List Str} {sp : Sp} {p pos : Pos} {e : Expr} {es : List Expr} {t : TA} (C : Can X.prog X.w X.K X.mg X.base x k ps sp) (hr : Room k X.A) (hg : Gl X x) (ha : PA X (e :: es) t)
    (hdb : (x == ("__debug__" : Str)) = false := by decide) (he : starEach (e :: es) X.env = (false, eval e X.env) :: starEach es X.env := by rfl) (hpl : (backTo pos (starEach es X.env)).any (·.1) = false := by rfl) :
    PE X (.Call (.Name x p) (e :: es) [] pos) (tCan sp t) := by
  obtain ⟨f, fd, F, hm, hk, hb⟩ := C.ex
  have z := pe_call (p := p) F hr hg hm hk hb .nil pass0 ha hdb he hpl
  have e0 : tCall sp [] E0 t = tCan sp t := by
    funext σ H Q
    unfold tCall tCan
    congr 1
    funext vs H1
    rw [List.append_nil]
  rw [e0] at z
  exact z

/-! ### heaps -/
theorem same_new {H : Hp} {p : Addr} {o : HO} (h : H p = none) : Same H (upd H p o) := fun b x e => by
  rw [upd_ne (ne_of_none e h)]
  exact e
theorem Same.tup {K : PySem.W.Frag} {H H' : Hp} {a : Addr} {xs : List V} (e : Same H H') (h : SqT K H a xs) : SqT K H' a xs := by
  rcases h with (h | ⟨o, h⟩) | h
  · exact .inl (.inl (e _ _ h))
  · exact .inl (.inr ⟨o, e _ _ h⟩)
  · exact .inr h
/-- a fraction stands at t -/
def FracT (K : PySem.W.Frag) (H : Hp) (t : Addr) (f : Frac) : Prop := SqT K H t [.int f.p, .int (f.q : Int)]
theorem FracT.keep {K : PySem.W.Frag} {H H' : Hp} {t : Addr} {f : Frac} (h : FracT K H t f) (e : Same H H') : FracT K H' t f := Same.tup e h
/-- if, else by a truth that is open -/
theorem ite_b {c : Bool} {A B : Prop} (h1 : c = true → A) (h2 : c = false → B) : if c = true then A else B := by
  cases c with
  | true => exact iteT (h1 rfl)
  | false => exact iteF (h2 rfl)
theorem ite_yes {c : Prop} [Decidable c] {A B : Prop} (hc : c) (h : A) : if decide c = true then A else B := by
  rw [decide_eq_true hc]
  exact iteT h
theorem ite_no {c : Prop} [Decidable c] {A B : Prop} (hc : ¬ c) (h : B) : if decide c = true then A else B := by
  rw [decide_eq_false hc]
  exact iteF h
theorem eq_ii {i j : Int} : decide (V.int i = V.int j) = decide (i = j) := by
  rw [dec_int]
  exact Bool.beq_eq_decide_eq i j
theorem abs_if (n : Int) : (if n < 0 then -n else n) = (n.natAbs : Int) := by
  split <;> omega
/-- a fraction in the program -/
structure Consts (K : PySem.W.Frag) (mg : Str → Option Value) : Prop where
  zero : ∃ a, mg "ZERO" = some (.ref a) ∧ ∀ H, FracT K H a Kqz1.flat
  endless : ∃ a, mg "ENDLESS" = some (.ref a) ∧ ∀ H, FracT K H a ⟨1, 0⟩
section
variable {P : Program} {w : World} {K : PySem.W.Frag} {mg : Str → Option Value} {base : Heap}

/-! ### common_part -/
abbrev sCommon : Stmt := top 4
theorem scCommon : FnScope ["one", "other", "first", "second"] ["one", "other"] (defScope sCommon) := ⟨rfl, rfl, rfl, by decide +kernel, rfl, by decide +kernel, by decide +kernel⟩
def spCommon : Sp := fun vs H Q _ => ∃ a b : Int, vs = [.int a, .int b] ∧ Q (.int (Int.gcd a b : Nat)) H
theorem gcd_turn' {a b : Int} (h : 0 < b) : Int.gcd b (a % b) = Int.gcd a b := by
  rw [gcd_emod', Int.gcd_comm]
theorem ok_common {f : Addr} {fd : FuncData} (D : Def K mg "common_part" sCommon ["one", "other"] f fd) (zA : mg "abs" = none) : Can P w K mg base "common_part" 1 ["one", "other"] spCommon := by
  refine D.can (D.fn.ok scCommon (fun vs H Q E h => ?_) (fun cdv A outer s H vs Q E hr h => ?_))
  · obtain ⟨a, b, rfl, _⟩ := h
    rfl
  · obtain ⟨a, b, rfl, q⟩ := h
    refine ⟨_, pss_cons (ps_par (i := 2) (j := 3) rfl scCommon.nd rfl rfl (by decide) rfl rfl (pa_cons (pe_callB call_abs (by rfl) zA (by decide +kernel) (pa_cons (pv 0) pa_nil)) (pa_cons (pe_callB call_abs (by rfl) zA (by decide +kernel) (pa_cons (pv 1) pa_nil)) pa_nil)) (by rfl))
      (pss_cons (ps_while PassesOwn.never (pt_cmpR op_gt (pv 3) pe_int (nomark _)) (pss_one (ps_par (i := 2) (j := 3) rfl scCommon.nd rfl rfl (by decide) rfl rfl (pa_cons (pv 3) (pa_cons (pe_op op_mod (pv 2) (pv 3)) pa_nil)) (by rfl))))
      (pss_one (ps_ret (pv 2)))), ?_⟩
    refine ⟨_, rfl, a, rfl, _, rfl, b, rfl, _, _, rfl, ?_⟩
    refine while_by (fun σ H' => H' = H ∧ ∃ x y : Int, σ = [some (.int a), some (.int b), some (.int x), some (.int y)] ∧ 0 ≤ x ∧ 0 ≤ y ∧ Int.gcd x y = Int.gcd a b) (fun σ _ => match σ with | [_, _, _, some (.int y)] => y.toNat | _ => 0)
      ⟨rfl, _, _, rfl, by split <;> omega, by split <;> omega, ?_⟩ ?_ ?_
    · rw [abs_if, abs_if]
      rfl
    · rintro σ H' ⟨rfl, x, y, rfl, hx, hy, hg⟩
      refine ⟨_, rfl, y, 0, rfl, rfl, _, rfl, ?_⟩
      by_cases c : 0 < y
      · refine ite_yes c ⟨_, rfl, _, rfl, _, rfl, x, y, rfl, rfl, c, _, _, rfl, ⟨rfl, y, x % y, rfl, by omega, Int.emod_nonneg _ (by omega), ?_⟩, ?_⟩
        · rw [gcd_turn' c]
          exact hg
        · have z := Int.emod_lt_of_pos x c
          show (x % y).toNat < y.toNat
          omega
      · refine ite_no c ⟨_, rfl, ?_⟩
        have e : y = 0 := by omega
        subst e
        have e2 : x = (Int.gcd a b : Nat) := by
          rw [← hg, Int.gcd_zero_right]
          omega
        rw [e2]
        exact q
    · rintro σ H' Q Q' hQ ⟨v, h1, i, j, h2, h3, k, h4, h5⟩
      exact ⟨v, h1, i, j, h2, h3, k, h4, hQ _ _ h5⟩

/-! ### twisted, turned -/
abbrev sTwisted : Stmt := top 5
theorem scTwisted : FnScope ["fraction", "many", "upper", "lower"] ["fraction", "many"] (defScope sTwisted) := ⟨rfl, rfl, rfl, by decide +kernel, rfl, by decide +kernel, by decide +kernel⟩
def spTwisted (K : PySem.W.Frag) : Sp := fun vs H Q _ => ∃ (t : Addr) (f : Frac) (n : Int), vs = [.ref t, .int n] ∧ FracT K H t f ∧ (-(2 ^ 64) < n ∧ n < 2 ^ 64) ∧ ∀ H' r, Same H H' → FracT K H' r (Kqz1.more f n) → Q (.ref r) H'
theorem ok_twisted {f : Addr} {fd : FuncData} (D : Def K mg "twisted" sTwisted ["fraction", "many"] f fd) : Can P w K mg base "twisted" 1 ["fraction", "many"] (spTwisted K) := by
  refine D.can (D.fn.ok scTwisted (fun vs H Q E h => ?_) (fun cdv A outer s H vs Q E hr h => ?_))
  · obtain ⟨t, f, n, rfl, _⟩ := h
    rfl
  · obtain ⟨t, f, n, rfl, hf, hn, q⟩ := h
    refine ⟨_, pss_cons (ps_asg (pv 0) (pg_tup rfl (pgs_cons (pg_name (i := 2) scTwisted.nd rfl (.inl rfl)) (pgs_cons (pg_name (i := 3) scTwisted.nd rfl (.inl rfl)) pgs_nil))))
      (pss_one (ps_ret (pe_tup (pa_cons (pe_op op_add (pv 2) (pe_op op_mul (pv 1) (pv 3))) (pa_cons (pv 3) pa_nil))))), ?_⟩
    refine ⟨_, rfl, t, _, rfl, hf, rfl, _, _, rfl, _, _, rfl, rfl, ?_⟩
    refine ⟨_, rfl, _, rfl, _, rfl, n, _, rfl, rfl, .inl hn, _, _, rfl, rfl, _, rfl, by show 2 ≤ sizeLine; decide, fun r hr => ?_⟩
    exact q _ r (same_new hr) (SqT.of upd_same)
abbrev sTurned : Stmt := top 6
theorem scTurned : FnScope ["fraction", "upper", "lower"] ["fraction"] (defScope sTurned) := ⟨rfl, rfl, rfl, by decide +kernel, rfl, by decide +kernel, by decide +kernel⟩
def spTurned (K : PySem.W.Frag) : Sp := fun vs H Q _ => ∃ (t : Addr) (f : Frac), vs = [.ref t] ∧ FracT K H t f ∧ Good f ∧ ∀ H' r, Same H H' → FracT K H' r (Kqz1.turned f) → Q (.ref r) H'
theorem ok_turned {f : Addr} {fd : FuncData} (D : Def K mg "turned" sTurned ["fraction"] f fd) (C : Consts K mg) : Can P w K mg base "turned" 1 ["fraction"] (spTurned K) := by
  refine D.can (D.fn.ok scTurned (fun vs H Q E h => ?_) (fun cdv A outer s H vs Q E hr h => ?_))
  · obtain ⟨t, f, rfl, _⟩ := h
    rfl
  · obtain ⟨t, f, rfl, hf, hg, q⟩ := h
    obtain ⟨az, mz, hz⟩ := C.zero
    obtain ⟨ae, me, he⟩ := C.endless
    refine ⟨_, pss_cons (ps_asg (pv 0) (pg_tup rfl (pgs_cons (pg_name (i := 1) scTurned.nd rfl (.inl rfl)) (pgs_cons (pg_name (i := 2) scTurned.nd rfl (.inl rfl)) pgs_nil))))
      (pss_cons (ps_if (pt_cmpR op_eq (pv 1) pe_int (nomark _)) (pss_one (ps_ret (pe_glob (v := .ref ae) rfl me rfl))) pss_nil)
      (pss_cons (ps_if (pt_cmpR op_eq (pv 2) pe_int (nomark _)) (pss_one (ps_ret (pe_glob (v := .ref az) rfl mz rfl))) pss_nil)
      (pss_cons (ps_if (pt_cmpR op_gt (pv 1) pe_int (nomark _)) (pss_one (ps_ret (pe_tup (pa_cons (pe_un un_neg (pv 2)) (pa_cons (pv 1) pa_nil))))) pss_nil)
      (pss_one (ps_ret (pe_tup (pa_cons (pv 2) (pa_cons (pe_un un_neg (pv 1)) pa_nil)))))))), ?_⟩
    refine ⟨_, rfl, t, _, rfl, hf, rfl, _, _, rfl, _, _, rfl, rfl, ?_⟩
    refine ⟨_, rfl, rfl, _, rfl, ?_⟩
    rw [eq_ii]
    by_cases h0 : f.p = 0
    · refine ite_yes h0 ?_
      refine q H ae (Same.refl H) ?_
      rw [turned_zero h0]
      exact he H
    · refine ite_no h0 ⟨_, rfl, rfl, _, rfl, ?_⟩
      rw [eq_ii]
      by_cases h1 : (f.q : Int) = 0
      · refine ite_yes h1 ?_
        refine q H az (Same.refl H) ?_
        rw [turned_under hg h0 (by omega)]
        exact hz H
      · refine ite_no h1 ⟨_, rfl, _, _, rfl, rfl, _, rfl, ?_⟩
        by_cases h2 : 0 < f.p
        · refine ite_yes h2 ⟨_, rfl, _, rfl, _, rfl, by show 2 ≤ sizeLine; decide, fun r hr => ?_⟩
          refine q _ r (same_new hr) (SqT.of ?_)
          rw [turned_pos hg h2, upd_same]
          show some (HO.tup [.int (-(f.q : Int)), .int f.p]) = some (HO.tup [.int (-(f.q : Int)), .int ((f.p.toNat : Nat) : Int)])
          rw [Int.toNat_of_nonneg (by omega)]
        · refine ite_no h2 ⟨_, rfl, _, rfl, _, rfl, by show 2 ≤ sizeLine; decide, fun r hr => ?_⟩
          refine q _ r (same_new hr) (SqT.of ?_)
          rw [turned_neg hg (by omega), upd_same]
          show some (HO.tup [.int (f.q : Int), .int (-f.p)]) = some (HO.tup [.int (f.q : Int), .int (((-f.p).toNat : Nat) : Int)])
          rw [Int.toNat_of_nonneg (by omega)]
end
end FC
/-! The walk, part 1: fractions and rings. -/
namespace FC
open PySem PySem.Spec PyProof.Rows L2
open Kqz1 (Frac Figure)
open Kqz3 (Ring)
/-- a row of figures stands at a -/
def codes (l : List Figure) : List V := l.map fun x => V.int (Kqz6.code x)
def FigsAt (K : PySem.W.Frag) (H : Hp) (a : Addr) (l : List Figure) : Prop := SqL K H a (codes l)
theorem codes_len (l : List Figure) : (codes l).length = l.length := List.length_map ..
theorem codes_at {l : List Figure} {i : Nat} {v : V} (h : (codes l)[i]? = some v) : ∃ x, l[i]? = some x ∧ v = .int (Kqz6.code x) := by
  unfold codes at h
  rw [List.getElem?_map] at h
  cases e : l[i]? with
  | none =>
    rw [e] at h
    cases h
  | some x =>
    rw [e] at h
    exact ⟨x, rfl, (Option.some.inj h).symm⟩
theorem take_snoc {α : Type} {l : List α} {i : Nat} {x : α} (h : l[i]? = some x) : l.take (i + 1) = l.take i ++ [x] := by
  rw [List.take_add_one, h]
  rfl
theorem comes_more {l : List Figure} {i : Nat} {x : Figure} (h : l[i]? = some x) : Kqz1.comes (l.take (i + 1)) = Kqz1.after (Kqz1.comes (l.take i)) x := by
  rw [take_snoc h]
  unfold Kqz1.comes
  rw [List.foldl_append]
  rfl
theorem figs_at {l : List Figure} {i : Nat} {x : Figure} (h : l[i]? = some x) (g : FigsOk l) : FigOk x := g x (List.mem_of_getElem? h)
/-- what a figure does to a fraction, by its number -/
theorem after_turn {f : Frac} {x : Figure} (h : FigW x) (e : x = .turn) : Kqz1.after f x = Kqz1.turned f := by
  rw [e]
  rfl
theorem after_twist {f : Frac} {x : Figure} (e : x ≠ .turn) : Kqz1.after f x = Kqz1.more f (Kqz6.code x) := by
  cases x with
  | twist n => rfl
  | turn => exact absurd rfl e
theorem code_small {x : Figure} (h : FigW x) : -(2 ^ 64) < Kqz6.code x ∧ Kqz6.code x < 2 ^ 64 := by
  have z := code_natAbs h
  omega
section
variable {P : Program} {w : World} {K : PySem.W.Frag} {mg : Str → Option Value} {base : Heap}

/-! ### comes_to -/
abbrev sComes : Stmt := top 7
theorem scComes : FnScope ["figures", "found", "figure"] ["figures"] (defScope sComes) := ⟨rfl, rfl, rfl, by decide +kernel, rfl, by decide +kernel, by decide +kernel⟩
def spComes (K : PySem.W.Frag) : Sp := fun vs H Q _ => ∃ (a : Addr) (l : List Figure), vs = [.ref a] ∧ FigsAt K H a l ∧ FigsOk l ∧ ∀ H' r, Same H H' → FracT K H' r (Kqz1.comes l) → Q (.ref r) H'
theorem ok_comes {f : Addr} {fd : FuncData} (D : Def K mg "comes_to" sComes ["figures"] f fd) (C : Consts K mg) (CT : Can P w K mg base "turned" 1 ["fraction"] (spTurned K)) (CW : Can P w K mg base "twisted" 1 ["fraction", "many"] (spTwisted K)) :
    Can P w K mg base "comes_to" 2 ["figures"] (spComes K) := by
  refine D.can (D.fn.ok scComes (fun vs H Q E h => ?_) (fun cdv A outer s H vs Q E hr h => ?_))
  · obtain ⟨a, l, rfl, _⟩ := h
    rfl
  · obtain ⟨a, l, rfl, hl, hg, q⟩ := h
    obtain ⟨az, mz, hz⟩ := C.zero
    refine ⟨_, pss_cons (ps_set (i := 1) scComes.nd rfl (.inl rfl) (pe_glob (v := .ref az) rfl mz rfl))
      (pss_cons (ps_for PassesOwn.never rfl (pi_list (pv 0)) (pg_name (i := 2) scComes.nd rfl (.inl rfl))
        (pss_one (ps_set (i := 1) scComes.nd rfl (.inl rfl) (pe_ifExp (pt_cmpR op_eq (pv 2) pe_int (nomark _)) (pe_can CT hr rfl (pa_cons (pv 1) pa_nil)) (pe_can CW hr rfl (pa_cons (pv 1) (pa_cons (pv 2) pa_nil)))))))
      (pss_one (ps_ret (pv 1)))), ?_⟩
    refine ⟨_, rfl, a, rfl, ⟨_, hl⟩, for_list (K := K) (a := a) (xs := codes l) (fun i σ H' => ∃ (r : Addr) (v : Option V), σ = [some (.ref a), some (.ref r), v] ∧ Same H H' ∧ FracT K H' r (Kqz1.comes (l.take i)))
      ⟨az, none, rfl, Same.refl H, hz H⟩ (fun i σ H' _ ⟨_, _, _, s1, _⟩ => s1.seq hl) ?_ ?_⟩
    · rintro i y σ H' hi ⟨r, v, rfl, s1, hf⟩
      obtain ⟨x, hx, rfl⟩ := codes_at hi
      have ox := figs_at hx hg
      refine ⟨_, rfl, rfl, _, rfl, ?_⟩
      rw [eq_ii]
      by_cases c : Kqz6.code x = 0
      · have ex := (code_zero ox).mp c
        refine ite_yes c ⟨_, rfl, r, _, rfl, hf, good_comes _, fun H2 r2 s2 f2 => ⟨r2, _, rfl, s1.trans s2, ?_⟩⟩
        rw [comes_more hx, after_turn ox.w ex]
        exact f2
      · have ex : x ≠ .turn := fun z => c ((code_zero ox).mpr z)
        refine ite_no c ⟨_, rfl, _, rfl, r, _, _, rfl, hf, code_small ox.w, fun H2 r2 s2 f2 => ⟨r2, _, rfl, s1.trans s2, ?_⟩⟩
        rw [comes_more hx, after_twist ex]
        exact f2
    · rintro σ H' ⟨r, v, rfl, s1, hf⟩
      rw [codes_len, List.take_length] at hf
      exact ⟨_, rfl, q H' r s1 hf⟩

/-! ### is_fraction -/
abbrev sIsFrac : Stmt := top 8
theorem scIsFrac : FnScope ["upper", "lower"] ["upper", "lower"] (defScope sIsFrac) := ⟨rfl, rfl, rfl, by decide +kernel, rfl, by decide +kernel, by decide +kernel⟩
def spIsFrac : Sp := fun vs H Q _ => ∃ (p : Int) (n : Nat), vs = [.int p, .int (n : Int)] ∧ Q (.bl (Kqz1.okFrac p n)) H
theorem ok_isFrac {f : Addr} {fd : FuncData} {t9 : Tok} (D : Def K mg "is_fraction" sIsFrac ["upper", "lower"] f fd) (zA : mg "abs" = none) (mP : mg "MOST_PART" = some (.int 9999 t9)) (CC : Can P w K mg base "common_part" 1 ["one", "other"] spCommon) :
    Can P w K mg base "is_fraction" 2 ["upper", "lower"] spIsFrac := by
  refine D.can (D.fn.ok scIsFrac (fun vs H Q E h => ?_) (fun cdv A outer s H vs Q E hr h => ?_))
  · obtain ⟨p, n, rfl, _⟩ := h
    rfl
  · obtain ⟨p, n, rfl, q⟩ := h
    refine ⟨_, pss_cons (ps_if (pt_cmpR op_eq (pv 1) pe_int (nomark _)) (pss_one (ps_ret (pe_cmpR op_eq (pv 0) pe_int (nomark _)))) pss_nil)
      (pss_one (ps_ret (pe_and (pe_cmpR op_le (pe_callB call_abs (by rfl) zA (by decide +kernel) (pa_cons (pv 0) pa_nil)) (pe_glob (v := .int 9999) rfl mP ⟨_, rfl⟩) (nomark _))
        (pe_and (pe_cmpR op_le (pv 1) (pe_glob (v := .int 9999) rfl mP ⟨_, rfl⟩) (nomark _))
        (pe_one (pe_cmpR op_eq (pe_can CC hr rfl (pa_cons (pv 0) (pa_cons (pv 1) pa_nil))) pe_int (nomark _))))))), ?_⟩
    refine ⟨_, rfl, rfl, _, rfl, ?_⟩
    rw [eq_ii]
    by_cases c : (n : Int) = 0
    · have e : n = 0 := by omega
      subst e
      refine ite_yes c ⟨_, rfl, rfl, ?_⟩
      rw [eq_ii]
      rw [okFrac_zero] at q
      exact q
    · refine ite_no c ⟨_, rfl, p, rfl, _, _, rfl, rfl, _, rfl, ?_⟩
      rw [okFrac_pos (show n ≠ 0 by omega)] at q
      rw [abs_if]
      refine ite_b (fun h1 => ⟨_, rfl, _, _, rfl, rfl, _, rfl, ?_⟩) (fun h1 => ?_)
      · rw [h1] at q
        refine ite_b (fun h2 => ⟨_, rfl, _, rfl, p, (n : Int), rfl, rfl, ?_⟩) (fun h2 => ?_)
        · rw [h2] at q
          rw [eq_ii]
          exact q
        · rw [h2] at q
          exact q
      · rw [h1] at q
        exact q

/-! ### ring_of -/
abbrev sRingOf : Stmt := top 11
theorem scRingOf : FnScope ["fraction", "upper", "lower"] ["fraction"] (defScope sRingOf) := ⟨rfl, rfl, rfl, by decide +kernel, rfl, by decide +kernel, by decide +kernel⟩
/-- a ring stands at t -/
def RingT (K : PySem.W.Frag) (H : Hp) (t : Addr) (r : Ring) : Prop := SqT K H t [.int (r.p : Int), .int (r.q : Int)]
def spRingOf (K : PySem.W.Frag) : Sp := fun vs H Q _ => ∃ (t : Addr) (f : Frac), vs = [.ref t] ∧ FracT K H t f ∧ ∀ r, H r = none → Q (.ref r) (upd H r (.tup [.int ((Kqz3.ringOf f).p : Int), .int ((Kqz3.ringOf f).q : Int)]))
theorem ok_ringOf {f : Addr} {fd : FuncData} (D : Def K mg "ring_of" sRingOf ["fraction"] f fd) : Can P w K mg base "ring_of" 1 ["fraction"] (spRingOf K) := by
  refine D.can (D.fn.ok scRingOf (fun vs H Q E h => ?_) (fun cdv A outer s H vs Q E hr h => ?_))
  · obtain ⟨t, f, rfl, _⟩ := h
    rfl
  · obtain ⟨t, f, rfl, hf, q⟩ := h
    refine ⟨_, pss_cons (ps_asg (pv 0) (pg_tup rfl (pgs_cons (pg_name (i := 1) scRingOf.nd rfl (.inl rfl)) (pgs_cons (pg_name (i := 2) scRingOf.nd rfl (.inl rfl)) pgs_nil))))
      (pss_cons (ps_if (pt_cmpR op_eq (pv 1) pe_int (nomark _)) (pss_one (ps_ret (pe_tup (pa_cons pe_int (pa_cons pe_int pa_nil))))) pss_nil)
      (pss_cons (ps_if (pt_cmpR op_gt (pv 1) pe_int (nomark _)) (pss_one (ps_ret (pe_tup (pa_cons (pv 1) (pa_cons (pe_op op_mod (pv 2) (pv 1)) pa_nil))))) pss_nil)
      (pss_one (ps_ret (pe_tup (pa_cons (pe_un un_neg (pv 1)) (pa_cons (pe_op op_mod (pe_un un_neg (pv 2)) (pe_un un_neg (pv 1))) pa_nil))))))), ?_⟩
    refine ⟨_, rfl, t, _, rfl, hf, rfl, _, _, rfl, _, _, rfl, rfl, ?_⟩
    refine ⟨_, rfl, rfl, _, rfl, ?_⟩
    rw [eq_ii]
    by_cases h0 : f.p = 0
    · refine ite_yes h0 ⟨by show 2 ≤ sizeLine; decide, fun r hr => ?_⟩
      rw [ring_zero h0] at q
      exact q r hr
    · refine ite_no h0 ⟨_, rfl, _, _, rfl, rfl, _, rfl, ?_⟩
      by_cases h2 : 0 < f.p
      · refine ite_yes h2 ⟨_, rfl, _, rfl, _, rfl, _, _, rfl, rfl, h2, by show 2 ≤ sizeLine; decide, fun r hr => ?_⟩
        rw [ring_pos h2] at q
        have e1 : ((f.p.natAbs : Nat) : Int) = f.p := by omega
        have e2 : ((((f.q : Int) % f.p).toNat : Nat) : Int) = (f.q : Int) % f.p := Int.toNat_of_nonneg (Int.emod_nonneg _ (by omega))
        have z := q r hr
        rw [show ((Ring.mk f.p.natAbs ((f.q : Int) % f.p).toNat).p : Int) = f.p from e1, show ((Ring.mk f.p.natAbs ((f.q : Int) % f.p).toNat).q : Int) = (f.q : Int) % f.p from e2] at z
        exact z
      · have h3 : f.p < 0 := by omega
        refine ite_no h2 ⟨_, rfl, _, rfl, _, rfl, _, rfl, _, rfl, _, rfl, _, _, rfl, rfl, by omega, by show 2 ≤ sizeLine; decide, fun r hr => ?_⟩
        rw [ring_neg h3] at q
        have e1 : ((f.p.natAbs : Nat) : Int) = -f.p := by omega
        have e2 : (((-(f.q : Int) % -f.p).toNat : Nat) : Int) = -(f.q : Int) % -f.p := Int.toNat_of_nonneg (Int.emod_nonneg _ (by omega))
        have z := q r hr
        rw [show ((Ring.mk f.p.natAbs (-(f.q : Int) % -f.p).toNat).p : Int) = -f.p from e1, show ((Ring.mk f.p.natAbs (-(f.q : Int) % -f.p).toNat).q : Int) = -(f.q : Int) % -f.p from e2] at z
        exact z
end
end FC
/-! The walk, part 2: names of rings, one change. -/
namespace FC
open PySem PySem.Spec PyProof.Rows L2
open Kqz1 (Frac Figure)
open Kqz3 (Ring)
theorem Same.ring {K : PySem.W.Frag} {H H' : Hp} {t : Addr} {r : Ring} (e : Same H H') (h : RingT K H t r) : RingT K H' t r := Same.tup e h
section
variable {P : Program} {w : World} {K : PySem.W.Frag} {mg : Str → Option Value} {base : Heap}

/-! ### other_share -/
abbrev sOther : Stmt := top 12
theorem scOther : FnScope ["size", "share", "one", "other", "first", "second", "many"] ["size", "share"] (defScope sOther) := ⟨rfl, rfl, rfl, by decide +kernel, rfl, by decide +kernel, by decide +kernel⟩
def spOther : Sp := fun vs H Q _ => ∃ (p n : Nat), vs = [.int (p : Int), .int (n : Int)] ∧ 0 < p ∧ n < p ∧ Nat.gcd p n = 1 ∧ p < 1073741824 ∧ ∀ H', Same H H' → Q (.int (Kqz3.inverse ⟨p, n⟩ : Nat)) H'
theorem ok_other {f : Addr} {fd : FuncData} (D : Def K mg "other_share" sOther ["size", "share"] f fd) : Can P w K mg base "other_share" 1 ["size", "share"] spOther := by
  refine D.can (D.fn.ok scOther (fun vs H Q E h => ?_) (fun cdv A outer s H vs Q E hr h => ?_))
  · obtain ⟨p, n, rfl, _⟩ := h
    rfl
  · obtain ⟨p, n, rfl, h0, h1, h2, h3, q⟩ := h
    refine ⟨_, pss_cons (ps_par (i := 2) (j := 3) rfl scOther.nd rfl rfl (by decide) rfl rfl (pa_cons (pv 0) (pa_cons (pv 1) pa_nil)) (by rfl))
      (pss_cons (ps_asg (pe_tup (pa_cons pe_int (pa_cons pe_int pa_nil))) (pg_tup rfl (pgs_cons (pg_name (i := 4) scOther.nd rfl (.inl rfl)) (pgs_cons (pg_name (i := 5) scOther.nd rfl (.inl rfl)) pgs_nil))))
      (pss_cons (ps_while PassesOwn.never (pt_cmpR op_gt (pv 3) pe_int (nomark _))
        (pss_cons (ps_set (i := 6) scOther.nd rfl (.inl rfl) (pe_op op_fdiv (pv 2) (pv 3)))
        (pss_cons (ps_par (i := 2) (j := 3) rfl scOther.nd rfl rfl (by decide) rfl rfl (pa_cons (pv 3) (pa_cons (pe_op op_sub (pv 2) (pe_op op_mul (pv 6) (pv 3))) pa_nil)) (by rfl))
        (pss_one (ps_par (i := 4) (j := 5) rfl scOther.nd rfl rfl (by decide) rfl rfl (pa_cons (pv 5) (pa_cons (pe_op op_sub (pv 4) (pe_op op_mul (pv 6) (pv 5))) pa_nil)) (by rfl))))))
      (pss_one (ps_ret (pe_op op_mod (pv 4) (pv 0)))))), ?_⟩
    refine ⟨_, rfl, _, rfl, _, _, rfl, by show 2 ≤ sizeLine; decide, fun u hu => ?_⟩
    refine ⟨u, _, rfl, SqT.of upd_same, rfl, _, _, rfl, _, _, rfl, rfl, ?_⟩
    refine while_by (fun σ H' => Same H H' ∧ ∃ (x y a b : Int) (v : Option V), σ = [some (.int (p : Int)), some (.int (n : Int)), some (.int x), some (.int y), some (.int a), some (.int b), v] ∧ Shares p n x y a b) (fun σ _ => match σ with | [_, _, _, some (.int y), _, _, _] => y.toNat | _ => 0)
      ⟨same_new hu, _, _, _, _, _, rfl, shares_start h0 h1 h2⟩ ?_ ?_
    · rintro σ H' ⟨s1, x, y, a, b, v, rfl, S⟩
      refine ⟨_, rfl, y, 0, rfl, rfl, _, rfl, ?_⟩
      by_cases c : 0 < y
      · have hx : x < 1073741824 := by have := S.most; omega
        have hy : y < 1073741824 := by have := S.low; omega
        have hm0 : 0 ≤ x / y := Int.ediv_nonneg (by have := S.pos; omega) (by omega)
        have hm1 : x / y ≤ x := Int.ediv_le_self y (by have := S.pos; omega)
        refine ite_yes c ⟨_, rfl, _, rfl, x, y, rfl, rfl, ⟨c, hy⟩, ?_⟩
        refine ⟨_, rfl, _, rfl, _, rfl, _, rfl, _, _, rfl, rfl, .inl ⟨by omega, by omega⟩, _, _, rfl, rfl, _, _, rfl, ?_⟩
        refine ⟨_, rfl, _, rfl, _, rfl, _, rfl, _, _, rfl, rfl, .inl ⟨by omega, by omega⟩, _, _, rfl, rfl, _, _, rfl, ?_⟩
        refine ⟨⟨s1, _, _, _, _, _, rfl, shares_turn S c⟩, ?_⟩
        show (x - x / y * y).toNat < y.toNat
        exact shares_less c
      · refine ite_no c ⟨_, rfl, _, rfl, _, _, rfl, rfl, by omega, ?_⟩
        show Q (V.int (a % (p : Int))) _
        rw [shares_end h0 S c]
        exact q _ s1
    · rintro σ H' Q Q' hQ ⟨v, h1, i, j, h2, h3, k, h4, h5⟩
      exact ⟨v, h1, i, j, h2, h3, k, h4, hQ _ _ h5⟩

/-! ### name_of -/
abbrev sName : Stmt := top 13
theorem scName : FnScope ["ring", "size", "share"] ["ring"] (defScope sName) := ⟨rfl, rfl, rfl, by decide +kernel, rfl, by decide +kernel, by decide +kernel⟩
def spName (K : PySem.W.Frag) : Sp := fun vs H Q _ => ∃ (t : Addr) (r : Ring), vs = [.ref t] ∧ RingT K H t r ∧ RingOk r ∧ r.p < 1073741824 ∧ ∀ H' u, Same H H' → RingT K H' u (Kqz3.name r) → Q (.ref u) H'
theorem ok_name {f : Addr} {fd : FuncData} (D : Def K mg "name_of" sName ["ring"] f fd) (zM : mg "min" = none) (CO : Can P w K mg base "other_share" 1 ["size", "share"] spOther) : Can P w K mg base "name_of" 2 ["ring"] (spName K) := by
  refine D.can (D.fn.ok scName (fun vs H Q E h => ?_) (fun cdv A outer s H vs Q E hr h => ?_))
  · obtain ⟨t, r, rfl, _⟩ := h
    rfl
  · obtain ⟨t, ⟨p, n⟩, rfl, ht, ok, hp, q⟩ := h
    refine ⟨_, pss_cons (ps_asg (pv 0) (pg_tup rfl (pgs_cons (pg_name (i := 1) scName.nd rfl (.inl rfl)) (pgs_cons (pg_name (i := 2) scName.nd rfl (.inl rfl)) pgs_nil))))
      (pss_cons (ps_if (pt_cmpR op_eq (pv 1) pe_int (nomark _)) (pss_one (ps_ret (pv 0))) pss_nil)
      (pss_one (ps_ret (pe_tup (pa_cons (pv 1) (pa_cons (pe_callB (call_min2 rfl) (by rfl) zM (by decide +kernel) (pa_cons (pv 2) (pa_cons (pe_can CO hr rfl (pa_cons (pv 1) (pa_cons (pv 2) pa_nil))) pa_nil))) pa_nil)))))), ?_⟩
    refine ⟨_, rfl, t, _, rfl, ht, rfl, _, _, rfl, _, _, rfl, rfl, ?_⟩
    refine ⟨_, rfl, rfl, _, rfl, ?_⟩
    rw [eq_ii]
    by_cases c : (p : Int) = 0
    · have e : p = 0 := by omega
      subst e
      rw [name_none] at q
      exact ite_yes c ⟨_, rfl, q H t (Same.refl H) ht⟩
    · have h0 : p ≠ 0 := by omega
      unfold RingOk at ok
      rw [if_neg (show ¬ (Ring.mk p n).p = 0 from h0)] at ok
      refine ite_no c ⟨_, rfl, _, rfl, _, rfl, _, rfl, p, n, rfl, by omega, ok.1, ok.2, hp, fun H1 s1 => ⟨_, _, rfl, by show 2 ≤ sizeLine; decide, fun u hu => ?_⟩⟩
      refine q _ u (s1.trans (same_new hu)) (SqT.of ?_)
      rw [upd_same, name_is (by omega)]
      have e : (if (Kqz3.inverse ⟨p, n⟩ : Int) < (n : Int) then (Kqz3.inverse ⟨p, n⟩ : Int) else (n : Int)) = ((if Kqz3.inverse ⟨p, n⟩ < n then Kqz3.inverse ⟨p, n⟩ else n : Nat) : Int) := by
        split <;> split <;> omega
      show some (HO.tup [.int (p : Int), .int (if (Kqz3.inverse ⟨p, n⟩ : Int) < (n : Int) then (Kqz3.inverse ⟨p, n⟩ : Int) else (n : Int))]) = _
      rw [e]

/-! ### is_ring -/
abbrev sIsRing : Stmt := top 14
theorem scIsRing : FnScope ["size", "share"] ["size", "share"] (defScope sIsRing) := ⟨rfl, rfl, rfl, by decide +kernel, rfl, by decide +kernel, by decide +kernel⟩
def spIsRing : Sp := fun vs H Q _ => ∃ (p n : Nat), vs = [.int (p : Int), .int (n : Int)] ∧ Q (.bl (Kqz3.okRing p n)) H
theorem dec_le {a b : Nat} : decide ((a : Int) ≤ (b : Int)) = decide (a ≤ b) := by
  rw [Bool.eq_iff_iff]
  simp only [decide_eq_true_eq]
  omega
theorem dec_lt {a b : Nat} : decide ((a : Int) < (b : Int)) = decide (a < b) := by
  rw [Bool.eq_iff_iff]
  simp only [decide_eq_true_eq]
  omega
theorem dec_eq {a b : Nat} : decide ((a : Int) = (b : Int)) = decide (a = b) := by
  rw [Bool.eq_iff_iff]
  simp only [decide_eq_true_eq]
  omega
theorem ok_isRing {f : Addr} {fd : FuncData} {t4 : Tok} (D : Def K mg "is_ring" sIsRing ["size", "share"] f fd) (mS : mg "MOST_SIZE" = some (.int 400 t4)) (CC : Can P w K mg base "common_part" 1 ["one", "other"] spCommon) : Can P w K mg base "is_ring" 2 ["size", "share"] spIsRing := by
  refine D.can (D.fn.ok scIsRing (fun vs H Q E h => ?_) (fun cdv A outer s H vs Q E hr h => ?_))
  · obtain ⟨p, n, rfl, _⟩ := h
    rfl
  · obtain ⟨p, n, rfl, q⟩ := h
    refine ⟨_, pss_cons (ps_if (pt_cmpR op_eq (pv 0) pe_int (nomark _)) (pss_one (ps_ret (pe_cmpR op_eq (pv 1) pe_int (nomark _)))) pss_nil)
      (pss_one (ps_ret (pe_and (pe_cmpR op_le (pv 0) (pe_glob (v := .int 400) rfl mS ⟨_, rfl⟩) (nomark _))
        (pe_and (pe_cmpR op_lt (pv 1) (pv 0) (nomark _)) (pe_one (pe_cmpR op_eq (pe_can CC hr rfl (pa_cons (pv 0) (pa_cons (pv 1) pa_nil))) pe_int (nomark _))))))), ?_⟩
    refine ⟨_, rfl, rfl, _, rfl, ?_⟩
    rw [eq_ii]
    by_cases c : (p : Int) = 0
    · have e : p = 0 := by omega
      subst e
      refine ite_yes c ⟨_, rfl, rfl, ?_⟩
      rw [eq_ii]
      rw [okRing_zero] at q
      have e2 : decide ((n : Int) = 0) = decide (n = 0) := dec_eq (b := 0)
      rw [e2]
      exact q
    · rw [okRing_pos (show p ≠ 0 by omega)] at q
      refine ite_no c ⟨_, rfl, _, _, rfl, rfl, _, rfl, ?_⟩
      have e1 : decide ((p : Int) ≤ 400) = decide (p ≤ 400) := dec_le (b := 400)
      rw [e1]
      refine ite_b (fun h1 => ⟨_, rfl, _, rfl, _, _, rfl, rfl, _, rfl, ?_⟩) (fun h1 => ?_)
      · rw [h1] at q
        rw [dec_lt]
        refine ite_b (fun h2 => ⟨_, rfl, _, rfl, _, _, rfl, rfl, ?_⟩) (fun h2 => ?_)
        · rw [h2] at q
          rw [eq_ii]
          have e3 : decide (((Int.gcd (p : Int) (n : Int) : Nat) : Int) = 1) = decide (Nat.gcd p n = 1) := dec_eq (b := 1)
          rw [e3]
          exact q
        · rw [h2] at q
          exact q
      · rw [h1] at q
        exact q

/-! ### is_undone_by, is_undone_at, is_one_change -/
abbrev sBy : Stmt := top 15
theorem scBy : FnScope ["size", "share", "n", "left"] ["size", "share", "n"] (defScope sBy) := ⟨rfl, rfl, rfl, by decide +kernel, rfl, by decide +kernel, by decide +kernel⟩
def spBy : Sp := fun vs H Q _ => ∃ (p r n : Nat), vs = [.int (p : Int), .int (r : Int), .int (n : Int)] ∧ r < p ∧ n < 2 ^ 62 ∧ Q (.bl (undoneBy p r n)) H
theorem ok_by {f : Addr} {fd : FuncData} (D : Def K mg "is_undone_by" sBy ["size", "share", "n"] f fd) : Can P w K mg base "is_undone_by" 1 ["size", "share", "n"] spBy := by
  refine D.can (D.fn.ok scBy (fun vs H Q E h => ?_) (fun cdv A outer s H vs Q E hr h => ?_))
  · obtain ⟨p, r, n, rfl, _⟩ := h
    rfl
  · obtain ⟨p, r, n, rfl, h1, h2, q⟩ := h
    refine ⟨_, pss_cons (ps_set (i := 3) scBy.nd rfl (.inl rfl) (pe_op op_mod (pe_op op_mul (pe_op op_mul pe_int (pv 2)) (pv 2)) (pv 0)))
      (pss_one (ps_ret (pe_or (pe_cmpR op_eq (pv 3) (pv 1) (nomark _)) (pe_one (pe_cmpR op_eq (pv 3) (pe_op op_sub (pv 0) (pv 1)) (nomark _)))))), ?_⟩
    refine ⟨_, rfl, _, _, rfl, rfl, .inl ⟨by decide, by decide⟩, _, rfl, _, _, rfl, rfl, .inr ⟨by omega, by omega⟩, _, rfl, _, _, rfl, rfl, by omega, ?_⟩
    have e : (2 * (n : Int) * (n : Int)) % (p : Int) = ((2 * n * n % p : Nat) : Int) := by
      rw [Int.natCast_emod, Int.natCast_mul, Int.natCast_mul]
      rfl
    refine ⟨_, rfl, _, rfl, rfl, _, rfl, ?_⟩
    rw [eq_ii]
    have e2 : decide ((2 * (n : Int) * (n : Int)) % (p : Int) = (r : Int)) = (2 * n * n % p == r) := by
      rw [e, dec_eq, Bool.beq_eq_decide_eq]
    have e3 : decide ((2 * (n : Int) * (n : Int)) % (p : Int) = (p : Int) - (r : Int)) = (2 * n * n % p == p - r) := by
      rw [e, show (p : Int) - (r : Int) = ((p - r : Nat) : Int) by omega, dec_eq, Bool.beq_eq_decide_eq]
    rw [e2]
    unfold undoneBy at q
    refine ite_b (fun z => ?_) (fun z => ⟨_, rfl, _, rfl, _, rfl, _, _, rfl, rfl, rfl, ?_⟩)
    · rw [z] at q
      exact q
    · rw [z] at q
      rw [eq_ii, e3]
      exact q
abbrev sAt : Stmt := top 16
theorem scAt : FnScope ["size", "share", "half", "m", "n"] ["size", "share", "half"] (defScope sAt) := ⟨rfl, rfl, rfl, by decide +kernel, rfl, by decide +kernel, by decide +kernel⟩
def spAt : Sp := fun vs H Q _ => ∃ (p r n : Nat), vs = [.int (p : Int), .int (r : Int), .int (n : Int)] ∧ r < p ∧ n < 1000000000 ∧ Q (.bl (undoneAt p r n)) H
theorem any_found {n i : Nat} {g : Nat → Bool} (hi : i < n) (h : g i = true) : (List.range n).any g = true := List.any_eq_true.mpr ⟨i, List.mem_range.mpr hi, h⟩
theorem any_none {n : Nat} {g : Nat → Bool} (h : ∀ i, i < n → g i = false) : (List.range n).any g = false := by
  rw [Bool.eq_false_iff]
  intro z
  obtain ⟨i, hi, e⟩ := List.any_eq_true.mp z
  rw [h i (List.mem_range.mp hi)] at e
  exact Bool.false_ne_true e
theorem ok_at {f : Addr} {fd : FuncData} (D : Def K mg "is_undone_at" sAt ["size", "share", "half"] f fd) (zR : mg "range" = none) (CC : Can P w K mg base "common_part" 1 ["one", "other"] spCommon) (CB : Can P w K mg base "is_undone_by" 1 ["size", "share", "n"] spBy) :
    Can P w K mg base "is_undone_at" 2 ["size", "share", "half"] spAt := by
  refine D.can (D.fn.ok scAt (fun vs H Q E h => ?_) (fun cdv A outer s H vs Q E hr h => ?_))
  · obtain ⟨p, r, n, rfl, _⟩ := h
    rfl
  · obtain ⟨p, r, n, rfl, h1, h2, q⟩ := h
    refine ⟨_, pss_cons (ps_for PassesOwn.never rfl (pi_range2 rfl zR (pa_cons pe_int (pa_cons (pe_op op_add (pv 2) pe_int) pa_nil))) (pg_name (i := 3) scAt.nd rfl (.inl rfl))
        (pss_one (ps_if (pt_cmpR op_eq (pe_op op_mod (pv 2) (pv 3)) pe_int (nomark _))
          (pss_cons (ps_set (i := 4) scAt.nd rfl (.inl rfl) (pe_op op_fdiv (pv 2) (pv 3)))
          (pss_one (ps_if (PW.pt (pw_and (pt_cmpR op_eq (pe_can CC hr rfl (pa_cons (pv 3) (pa_cons (pv 4) pa_nil))) pe_int (nomark _)) (pw_and1 (pt_val (pe_can CB hr rfl (pa_cons (pv 0) (pa_cons (pv 1) (pa_cons (pv 4) pa_nil))))))))
            (pss_one (ps_ret pe_bl)) pss_nil))) pss_nil)))
      (pss_one (ps_ret pe_bl)), ?_⟩
    refine ⟨_, rfl, _, _, rfl, rfl, 1, (n : Int) + 1, rfl, ⟨by decide, by decide, by omega, by omega⟩, ?_⟩
    have en : ((n : Int) + 1 - 1).toNat = n := by omega
    rw [en]
    refine for_range (lo := 1) (n := n) (fun i σ H' => H' = H ∧ (∀ j, j < i → undoneM p r n (j + 1) = false) ∧ ∃ (v w : Option V), σ = [some (.int (p : Int)), some (.int (r : Int)), some (.int (n : Int)), v, w])
      ⟨rfl, fun j hj => absurd hj (Nat.not_lt_zero j), none, none, rfl⟩ ?_ ?_
    · rintro i σ H' hi ⟨rfl, hb, v, w, rfl⟩
      have em : (1 : Int) + (i : Int) = ((i + 1 : Nat) : Int) := by omega
      rw [em]
      have next : undoneM p r n (i + 1) = false → ∀ j, j < i + 1 → undoneM p r n (j + 1) = false := fun z j hj => by
        by_cases e : j = i
        · rw [e]
          exact z
        · exact hb j (by omega)
      refine ⟨_, rfl, _, rfl, _, _, rfl, rfl, by omega, rfl, _, rfl, ?_⟩
      rw [eq_ii]
      have e1 : (n : Int) % ((i + 1 : Nat) : Int) = ((n % (i + 1) : Nat) : Int) := (Int.natCast_emod n (i + 1)).symm
      have e2 : (n : Int) / ((i + 1 : Nat) : Int) = ((n / (i + 1) : Nat) : Int) := (Int.natCast_ediv n (i + 1)).symm
      rw [e1, show decide (((n % (i + 1) : Nat) : Int) = 0) = decide (n % (i + 1) = 0) from dec_eq (b := 0)]
      refine ite_b (fun c => ?_) (fun c => ?_)
      · have c := of_decide_eq_true c
        have hd := Nat.div_le_self n (i + 1)
        refine ⟨_, rfl, _, rfl, _, _, rfl, rfl, ⟨by omega, by omega⟩, ?_⟩
        refine ⟨_, rfl, _, rfl, _, _, rfl, rfl, _, rfl, ?_⟩
        rw [eq_ii, e2, show decide (((Int.gcd ((i + 1 : Nat) : Int) ((n / (i + 1) : Nat) : Int) : Nat) : Int) = 1) = decide (Nat.gcd (i + 1) (n / (i + 1)) = 1) from dec_eq (b := 1)]
        refine ite_b (fun g => ⟨_, rfl, _, rfl, _, rfl, p, r, n / (i + 1), congrArg (fun z => [V.int (p : Int), V.int (r : Int), V.int z]) e2, h1, by omega, _, rfl, ?_⟩) (fun g => ?_)
        · have g := of_decide_eq_true g
          have eM : undoneM p r n (i + 1) = undoneBy p r (n / (i + 1)) := by
            unfold undoneM
            rw [c, g]
            rfl
          refine ite_b (fun u => ?_) (fun u => ⟨rfl, next (by rw [eM]; exact u), _, _, rfl⟩)
          have e5 : undoneAt p r n = true := any_found (i := i) hi (by rw [eM]; exact u)
          rw [e5] at q
          exact q
        · have g := of_decide_eq_false g
          refine iteF ⟨rfl, next ?_, _, _, rfl⟩
          unfold undoneM
          rw [beq_eq_false_iff_ne.mpr g, Bool.false_and, Bool.and_false]
      · have c := of_decide_eq_false c
        refine ⟨rfl, next ?_, _, _, rfl⟩
        unfold undoneM
        rw [beq_eq_false_iff_ne.mpr c, Bool.false_and]
    · rintro σ H' ⟨rfl, hb, v, w, rfl⟩
      have e5 : undoneAt p r n = false := any_none hb
      rw [e5] at q
      exact q
abbrev sOne : Stmt := top 17
theorem scOne : FnScope ["ring", "size", "share"] ["ring"] (defScope sOne) := ⟨rfl, rfl, rfl, by decide +kernel, rfl, by decide +kernel, by decide +kernel⟩
def spOne (K : PySem.W.Frag) : Sp := fun vs H Q _ => ∃ (t : Addr) (r : Ring), vs = [.ref t] ∧ RingT K H t r ∧ RingOk r ∧ r.p < 1000000000 ∧ Q (.bl (oneChange r)) H
theorem ok_one {f : Addr} {fd : FuncData} (D : Def K mg "is_one_change" sOne ["ring"] f fd) (CA : Can P w K mg base "is_undone_at" 2 ["size", "share", "half"] spAt) : Can P w K mg base "is_one_change" 3 ["ring"] (spOne K) := by
  refine D.can (D.fn.ok scOne (fun vs H Q E h => ?_) (fun cdv A outer s H vs Q E hr h => ?_))
  · obtain ⟨t, r, rfl, _⟩ := h
    rfl
  · obtain ⟨t, ⟨p, n⟩, rfl, ht, ok, hp, q⟩ := h
    have hp : p < 1000000000 := hp
    refine ⟨_, pss_cons (ps_asg (pv 0) (pg_tup rfl (pgs_cons (pg_name (i := 1) scOne.nd rfl (.inl rfl)) (pgs_cons (pg_name (i := 2) scOne.nd rfl (.inl rfl)) pgs_nil))))
      (pss_cons (ps_if (PW.pt (pw_or (pt_cmpR op_lt (pv 1) pe_int (nomark _)) (pw_or1 (pt_cmpR op_eq (pe_op op_mod (pv 1) pe_int) pe_int (nomark _))))) (pss_one (ps_ret pe_bl)) pss_nil)
      (pss_one (ps_ret (pe_or (pe_can CA hr rfl (pa_cons (pv 1) (pa_cons (pv 2) (pa_cons (pe_op op_fdiv (pe_op op_sub (pv 1) pe_int) pe_int) pa_nil))))
        (pe_one (pe_can CA hr rfl (pa_cons (pv 1) (pa_cons (pv 2) (pa_cons (pe_op op_fdiv (pe_op op_add (pv 1) pe_int) pe_int) pa_nil))))))))), ?_⟩
    refine ⟨_, rfl, t, _, rfl, ht, rfl, _, _, rfl, _, _, rfl, rfl, ?_⟩
    refine ⟨_, rfl, _, _, rfl, rfl, _, rfl, ?_⟩
    unfold oneChange at q
    have q : Q (.bl (if p < 3 ∨ p % 2 = 0 then false else undoneAt p n ((p - 1) / 2) || undoneAt p n ((p + 1) / 2))) H := q
    by_cases c : (p : Int) < 3
    · refine ite_yes c (iteT ?_)
      rw [if_pos (show p < 3 ∨ p % 2 = 0 from .inl (by omega))] at q
      exact q
    · refine ite_no c ⟨_, rfl, _, _, rfl, rfl, (by show (0 : Int) < 2; decide), rfl, _, rfl, ?_⟩
      rw [eq_ii]
      by_cases c2 : (p : Int) % 2 = 0
      · refine ite_yes c2 ?_
        rw [if_pos (show p < 3 ∨ p % 2 = 0 from .inr (by omega))] at q
        exact q
      · rw [if_neg (show ¬ (p < 3 ∨ p % 2 = 0) by omega)] at q
        have hn : n < p := by
          unfold RingOk at ok
          rw [if_neg (show ¬ (Ring.mk p n).p = 0 by show ¬ p = 0; omega)] at ok
          exact ok.1
        have d1 : ((p : Int) - 1) / 2 = (((p - 1) / 2 : Nat) : Int) := by omega
        have d2 : ((p : Int) + 1) / 2 = (((p + 1) / 2 : Nat) : Int) := by omega
        refine ite_no c2 ⟨_, rfl, _, rfl, _, rfl, _, _, rfl, rfl, _, _, rfl, rfl, ⟨by decide, by decide⟩, p, n, (p - 1) / 2, congrArg (fun z => [V.int (p : Int), V.int (n : Int), V.int z]) d1, hn, by omega, _, rfl, ?_⟩
        refine ite_b (fun z => ?_) (fun z => ⟨_, rfl, _, rfl, _, rfl, _, _, rfl, rfl, _, _, rfl, rfl, ⟨by decide, by decide⟩, p, n, (p + 1) / 2, congrArg (fun z => [V.int (p : Int), V.int (n : Int), V.int z]) d2, hn, by omega, ?_⟩)
        · rw [z] at q
          exact q
        · rw [z] at q
          exact q
end
end FC
/-! The walk, part 3: rows of ways. -/
namespace FC
open PySem PySem.Spec PyProof.Rows L2
open Kqz1 (Frac Figure)
open Kqz3 (Ring)
/-! ### heaps that keep their tuples -/
def Tups (K : PySem.W.Frag) (H H' : Hp) : Prop := ∀ t xs, SqT K H t xs → SqT K H' t xs
theorem Same.tups {K : PySem.W.Frag} {H H' : Hp} (e : Same H H') : Tups K H H' := fun _ _ h => Same.tup e h
theorem Tups.trans {K : PySem.W.Frag} {H H1 H2 : Hp} (a : Tups K H H1) (b : Tups K H1 H2) : Tups K H H2 := fun t xs h => b t xs (a t xs h)
theorem tups_lst {K : PySem.W.Frag} {H : Hp} {b : Addr} {ys zs : List V} (h : H b = some (.lst ys)) : Tups K H (upd H b (.lst zs)) := fun t xs q => by
  rcases q with (q | ⟨o, q⟩) | q
  · exact .inl (.inl (by rw [upd_ne (ne_of q h (fun z => by cases z))]; exact q))
  · exact .inl (.inr ⟨o, by rw [upd_ne (ne_of q h (fun z => by cases z))]; exact q⟩)
  · exact .inr q
/-- the part that was there ahead of b stands, whatever b holds -/
theorem same_at {H H' : Hp} {b : Addr} {o : HO} (s : Same H H') (hb : H b = none) : Same H (upd H' b o) := fun c x e => by
  rw [upd_ne (ne_of_none e hb)]
  exact s c x e
/-- a way stands at a -/
def wayV (w : List Nat) : List V := w.map fun (k : Nat) => V.int (k : Int)
def RowT (K : PySem.W.Frag) (H : Hp) (v : V) (r : Row) : Prop := ∃ t a f, v = .ref t ∧ SqT K H t [.ref a, .int (r.left : Int), .ref f] ∧ SqT K H a (wayV r.way) ∧ FracT K H f r.frac
theorem RowT.keep {K : PySem.W.Frag} {H H' : Hp} {v : V} {r : Row} (h : RowT K H v r) (e : Tups K H H') : RowT K H' v r := by
  obtain ⟨t, a, f, h1, h2, h3, h4⟩ := h
  exact ⟨t, a, f, h1, e _ _ h2, e _ _ h3, e _ _ h4⟩
def RowsT (K : PySem.W.Frag) (H : Hp) (xs : List V) (rows : List Row) : Prop := Paired (RowT K H) xs rows
theorem RowsT.keep {K : PySem.W.Frag} {H H' : Hp} {xs : List V} {rows : List Row} (h : RowsT K H xs rows) (e : Tups K H H') : RowsT K H' xs rows := Paired.mapP h fun _ _ z => z.keep e
theorem paired_at {α β : Type} {F : α → β → Prop} : ∀ {xs : List α} {ys : List β} {i : Nat} {x : α}, Paired F xs ys → xs[i]? = some x → ∃ y, ys[i]? = some y ∧ F x y
  | _, _, _, _, .nil, h => by simp at h
  | _, _, 0, _, .cons r _, h => by
    have e := Option.some.inj h
    subst e
    exact ⟨_, rfl, r⟩
  | _, _, i + 1, x, .cons _ t, h => paired_at (i := i) (x := x) t h
def GoodRows (rows : List Row) : Prop := ∀ r ∈ rows, Good r.frac
theorem goodRows_longer {x : Figure} {rows : List Row} (h : GoodRows rows) : GoodRows (longer x rows) := fun r hr => by
  unfold longer at hr
  obtain ⟨r0, h0, h1⟩ := List.mem_flatMap.mp hr
  obtain ⟨k, _, e⟩ := List.mem_map.mp h1
  rw [← e]
  exact good_after (h r0 h0) _
theorem longer_snoc {x : Figure} {rows : List Row} {i : Nat} {r : Row} (h : rows[i]? = some r) : longer x (rows.take (i + 1)) = longer x (rows.take i) ++ (picks x r.left).map (longer1 x r) := by
  rw [take_snoc h]
  unfold longer
  rw [List.flatMap_append, List.flatMap_singleton]
theorem picks_at (x : Figure) (t j : Nat) (h : j < min (Kqz6.room x) t + 1) : (picks x t)[j]? = some (min (Kqz6.room x) t - j) := by
  unfold picks
  rw [List.getElem?_reverse (by rw [List.length_range]; exact h), List.length_range, List.getElem?_range (by omega)]
  congr 1
theorem picks_length (x : Figure) (t : Nat) : (picks x t).length = min (Kqz6.room x) t + 1 := by
  unfold picks
  rw [List.length_reverse, List.length_range]
theorem longer_le {x : Figure} {rows : List Row} {i : Nat} : (longer x (rows.take i)).length ≤ (longer x rows).length := by
  have e : rows = rows.take i ++ rows.drop i := (List.take_append_drop i rows).symm
  have z : longer x rows = longer x (rows.take i) ++ longer x (rows.drop i) := by
    conv => lhs; rw [e]
    unfold longer
    rw [List.flatMap_append]
  rw [z, List.length_append]
  omega
/-- t + u of two tuples, whichever object it is -/
def rCatU (K : PySem.W.Frag) : R2 := fun x y H Q => ∃ a b xs ys, x = .ref a ∧ y = .ref b ∧ SqT K H a xs ∧ SqT K H b ys ∧ xs.length + ys.length ≤ sizeLine ∧ ∀ H' r, Same H H' → SqT K H' r (xs ++ ys) → Q (.ref r) H'
theorem op_catU {X : Cx} : OpR X (binaryOp .Add) (rCatU X.K) := by
  intro pins s σ H x y v u Q I rx ry h
  obtain ⟨a, b, xs, ys, ex, ey, ha, hb, hz, q⟩ := h
  refine op_catA pins s σ H x y v u Q I rx ry ⟨a, b, xs, ys, ex, ey, ha, hb, hz, fun e => ?_, fun _ e => ?_, fun _ _ p hp => ?_⟩
  · subst e
    exact q H b (Same.refl H) hb
  · subst e
    exact q H a (Same.refl H) (by rw [List.append_nil]; exact ha)
  · exact q _ p (same_new hp) (SqT.of upd_same)
section
variable {P : Program} {w : World} {K : PySem.W.Frag} {mg : Str → Option Value} {base : Heap}

/-! ### changed -/
abbrev sChanged : Stmt := top 20
theorem scChanged : FnScope ["figure", "many"] ["figure", "many"] (defScope sChanged) := ⟨rfl, rfl, rfl, by decide +kernel, rfl, by decide +kernel, by decide +kernel⟩
def spChanged : Sp := fun vs H Q _ => ∃ (n : Int) (k : Nat), vs = [.int n, .int (k : Int)] ∧ Q (.int (chg n k)) H
theorem ok_changed {f : Addr} {fd : FuncData} (D : Def K mg "changed" sChanged ["figure", "many"] f fd) : Can P w K mg base "changed" 1 ["figure", "many"] spChanged := by
  refine D.can (D.fn.ok scChanged (fun vs H Q E h => ?_) (fun cdv A outer s H vs Q E hr h => ?_))
  · obtain ⟨n, k, rfl, _⟩ := h
    rfl
  · obtain ⟨n, k, rfl, q⟩ := h
    refine ⟨_, pss_one (ps_ret (pe_ifExp (pt_cmpR op_gt (pv 0) pe_int (nomark _)) (pe_op op_sub (pv 0) (pe_op op_mul pe_int (pv 1))) (pe_op op_add (pv 0) (pe_op op_mul pe_int (pv 1))))), ?_⟩
    refine ⟨_, rfl, n, 0, rfl, rfl, _, rfl, ?_⟩
    unfold chg at q
    by_cases c : 0 < n
    · rw [if_pos c] at q
      exact ite_yes c ⟨_, rfl, _, rfl, _, _, rfl, rfl, .inl ⟨by decide, by decide⟩, _, _, rfl, rfl, q⟩
    · rw [if_neg c] at q
      exact ite_no c ⟨_, rfl, _, rfl, _, _, rfl, rfl, .inl ⟨by decide, by decide⟩, _, _, rfl, rfl, q⟩

/-! ### behind -/
abbrev sBehind : Stmt := top 21
theorem scBehind : FnScope ["fraction", "figure", "many"] ["fraction", "figure", "many"] (defScope sBehind) := ⟨rfl, rfl, rfl, by decide +kernel, rfl, by decide +kernel, by decide +kernel⟩
def spBehind (K : PySem.W.Frag) : Sp := fun vs H Q _ => ∃ (t : Addr) (f : Frac) (x : Figure) (k : Nat), vs = [.ref t, .int (Kqz6.code x), .int (k : Int)] ∧ FracT K H t f ∧ Good f ∧ FigOk x ∧ k ≤ Kqz6.room x ∧
  ∀ H' r, Same H H' → FracT K H' r (Kqz1.after f (Kqz6.changed x k)) → Q (.ref r) H'
theorem ok_behind {f : Addr} {fd : FuncData} (D : Def K mg "behind" sBehind ["fraction", "figure", "many"] f fd) (CT : Can P w K mg base "turned" 1 ["fraction"] (spTurned K)) (CW : Can P w K mg base "twisted" 1 ["fraction", "many"] (spTwisted K))
    (CC : Can P w K mg base "changed" 1 ["figure", "many"] spChanged) : Can P w K mg base "behind" 2 ["fraction", "figure", "many"] (spBehind K) := by
  refine D.can (D.fn.ok scBehind (fun vs H Q E h => ?_) (fun cdv A outer s H vs Q E hr h => ?_))
  · obtain ⟨t, f, x, k, rfl, _⟩ := h
    rfl
  · obtain ⟨t, f, x, k, rfl, hf, hg, hx, hk, q⟩ := h
    refine ⟨_, pss_cons (ps_if (pt_cmpR op_eq (pv 1) pe_int (nomark _)) (pss_one (ps_ret (pe_can CT hr rfl (pa_cons (pv 0) pa_nil)))) pss_nil)
      (pss_one (ps_ret (pe_can CW hr rfl (pa_cons (pv 0) (pa_cons (pe_can CC hr rfl (pa_cons (pv 1) (pa_cons (pv 2) pa_nil))) pa_nil))))), ?_⟩
    refine ⟨_, rfl, rfl, _, rfl, ?_⟩
    rw [eq_ii]
    have cw := changed_w hx hk
    by_cases c : Kqz6.code x = 0
    · have ex := (code_zero hx).mp c
      refine ite_yes c ⟨_, rfl, t, f, rfl, hf, hg, fun H2 r2 s2 f2 => q H2 r2 s2 ?_⟩
      rw [ex]
      exact f2
    · have ex : x ≠ .turn := fun z => c ((code_zero hx).mpr z)
      have ec : Kqz6.changed x k ≠ .turn := by
        cases x with
        | twist n => exact fun z => by cases z
        | turn => exact absurd rfl ex
      refine ite_no c ⟨_, rfl, _, rfl, _, rfl, _, k, rfl, t, f, chg (Kqz6.code x) k, rfl, hf, ?_, fun H2 r2 s2 f2 => q H2 r2 s2 ?_⟩
      · rw [chg_code hx hk]
        exact code_small cw
      · rw [after_twist ec, ← chg_code hx hk]
        exact f2

/-! ### longer_rows -/
abbrev sLonger : Stmt := top 22
theorem scLonger : FnScope ["rows", "figure", "found", "way", "left", "fraction", "most", "many"] ["rows", "figure"] (defScope sLonger) := ⟨rfl, rfl, rfl, by decide +kernel, rfl, by decide +kernel, by decide +kernel⟩
def spLonger (K : PySem.W.Frag) : Sp := fun vs H Q _ => ∃ (a : Addr) (x : Figure) (xs : List V) (rows : List Row), vs = [.ref a, .int (Kqz6.code x)] ∧ SqL K H a xs ∧ RowsT K H xs rows ∧ LeftOk rows ∧ GoodRows rows ∧ FigOk x ∧ (longer x rows).length ≤ 9765625 ∧
  (∀ r ∈ rows, r.way.length ≤ 100) ∧ ∀ H' b ys, Same H H' → H b = none → H' b = some (.lst ys) → RowsT K H' ys (longer x rows) → Q (.ref b) H'
theorem ok_longer {f : Addr} {fd : FuncData} (D : Def K mg "longer_rows" sLonger ["rows", "figure"] f fd) (zA : mg "abs" = none) (zM : mg "min" = none) (zR : mg "range" = none)
    (CB : Can P w K mg base "behind" 2 ["fraction", "figure", "many"] (spBehind K)) : Can P w K mg base "longer_rows" 3 ["rows", "figure"] (spLonger K) := by
  refine D.can (D.fn.ok scLonger (fun vs H Q E h => ?_) (fun cdv A outer s H vs Q E hr h => ?_))
  · obtain ⟨a, x, xs, rows, rfl, _⟩ := h
    rfl
  · obtain ⟨a, x, xs, rows, rfl, hS, hR, hL, hG, hx, hz, hw, q⟩ := h
    refine ⟨_, pss_cons (ps_set (i := 2) scLonger.nd rfl (.inl rfl) (pe_lst pa_nil))
      (pss_cons (ps_for PassesOwn.never rfl (pi_list (pv 0)) (pg_tup rfl (pgs_cons (pg_name (i := 3) scLonger.nd rfl (.inl rfl)) (pgs_cons (pg_name (i := 4) scLonger.nd rfl (.inl rfl)) (pgs_cons (pg_name (i := 5) scLonger.nd rfl (.inl rfl)) pgs_nil))))
        (pss_cons (ps_set (i := 6) scLonger.nd rfl (.inl rfl) (pe_callB (call_min2 rfl) (by rfl) zM (by decide +kernel) (pa_cons (pe_callB call_abs (by rfl) zA (by decide +kernel) (pa_cons (pv 1) pa_nil)) (pa_cons (pv 4) pa_nil))))
        (pss_one (ps_for PassesOwn.never rfl (pi_range3 rfl zR (pa_cons (pv 6) (pa_cons (pe_un un_neg pe_int) (pa_cons (pe_un un_neg pe_int) pa_nil)))) (pg_name (i := 7) scLonger.nd rfl (.inl rfl))
          (pss_one (ps_expr (pe_bm PySem.F.plainAttrs_list PySem.F.slot_list_append PySem.F.type_list_append mt_append (pv 2)
            (pa_cons (pe_tup (pa_cons (pe_op op_catU (pv 3) (pe_tup (pa_cons (pv 7) pa_nil))) (pa_cons (pe_op op_sub (pv 4) (pv 7)) (pa_cons (pe_can CB hr rfl (pa_cons (pv 5) (pa_cons (pv 1) (pa_cons (pv 7) pa_nil)))) pa_nil)))) pa_nil))))))))
      (pss_one (ps_ret (pv 2)))), ?_⟩
    refine ⟨Nat.zero_le _, fun b hb => ?_⟩
    refine ⟨_, rfl, a, rfl, ⟨_, (same_new hb).seq hS⟩, for_list (K := K) (a := a) (xs := xs) (fun i σ H' => ∃ (ys : List V) (v3 v4 v5 v6 v7 : Option V), σ = [some (.ref a), some (.int (Kqz6.code x)), some (.ref b), v3, v4, v5, v6, v7] ∧ Same H H' ∧ H' b = some (.lst ys) ∧ RowsT K H' ys (longer x (rows.take i)))
      ⟨[], none, none, none, none, none, rfl, same_new hb, upd_same, .nil⟩ (fun i σ H' _ ⟨_, _, _, _, _, _, _, s1, _⟩ => s1.seq hS) ?_ ?_⟩
    · rintro i y σ H' hi ⟨ys, v3, v4, v5, v6, v7, rfl, s1, hb', hy⟩
      obtain ⟨r, hri, hrow⟩ := paired_at hR hi
      obtain ⟨t, aw, af, rfl, ht, hway, hfr⟩ := hrow.keep (Same.tups s1)
      have hr4 : r.left ≤ 4 := hL r (List.mem_of_getElem? hri)
      have hgr : Good r.frac := hG r (List.mem_of_getElem? hri)
      have hwl : r.way.length ≤ 100 := hw r (List.mem_of_getElem? hri)
      have eM : (if (r.left : Int) < (((Kqz6.code x).natAbs : Nat) : Int) then (r.left : Int) else (((Kqz6.code x).natAbs : Nat) : Int)) = ((min (Kqz6.room x) r.left : Nat) : Int) := by
        rw [room_code]
        split <;> omega
      refine ⟨t, _, rfl, ht, rfl, _, _, rfl, _, _, rfl, _, _, rfl, rfl, ?_⟩
      refine ⟨_, rfl, _, rfl, _, rfl, _, _, rfl, ?_⟩
      rw [abs_if, eM]
      have hm : min (Kqz6.room x) r.left ≤ 4 := by omega
      refine ⟨_, rfl, 1, rfl, 1, rfl, ((min (Kqz6.room x) r.left : Nat) : Int), -1, -1, _, rfl, RgC.neg (by omega) (by omega) (by decide) (by decide), ?_⟩
      have en : (((min (Kqz6.room x) r.left : Nat) : Int) - -1).toNat = min (Kqz6.room x) r.left + 1 := by omega
      rw [en]
      refine for_rangeC (lo := ((min (Kqz6.room x) r.left : Nat) : Int)) (c := -1) (n := min (Kqz6.room x) r.left + 1)
        (fun j σ H' => ∃ (ys : List V) (v7 : Option V), σ = [some (.ref a), some (.int (Kqz6.code x)), some (.ref b), some (.ref aw), some (.int (r.left : Int)), some (.ref af), some (.int ((min (Kqz6.room x) r.left : Nat) : Int)), v7] ∧ Same H H' ∧ H' b = some (.lst ys) ∧
          RowsT K H' ys (longer x (rows.take i) ++ ((picks x r.left).take j).map (longer1 x r)) ∧ SqT K H' aw (wayV r.way) ∧ FracT K H' af r.frac)
        ⟨ys, _, rfl, s1, hb', by rw [List.take_zero, List.map_nil, List.append_nil]; exact hy, hway, hfr⟩ ?_ ?_
      · rintro j σ H2 hj ⟨zs, u7, rfl, s2, hb2, hz2, hw2, hf2⟩
        have ek : ((min (Kqz6.room x) r.left : Nat) : Int) + ((j : Nat) : Int) * -1 = ((min (Kqz6.room x) r.left - j : Nat) : Int) := by omega
        rw [ek]
        have pk := picks_at x r.left j hj
        have hk : min (Kqz6.room x) r.left - j ≤ Kqz6.room x := by omega
        have hk2 : min (Kqz6.room x) r.left - j ≤ r.left := by omega
        generalize min (Kqz6.room x) r.left - j = k at pk hk hk2
        have eL : (longer x (rows.take i) ++ ((picks x r.left).take (j + 1)).map (longer1 x r)) = (longer x (rows.take i) ++ ((picks x r.left).take j).map (longer1 x r)) ++ [longer1 x r k] := by
          rw [take_snoc pk, List.map_append, List.map_singleton, List.append_assoc]
        have hzl : zs.length < 9765625 := by
          have z1 := Paired.length hz2
          have z2 : (longer x (rows.take i) ++ ((picks x r.left).take (j + 1)).map (longer1 x r)).length ≤ (longer x (rows.take (i + 1))).length := by
            rw [longer_snoc hri, List.length_append, List.length_append, List.length_map, List.length_map, List.length_take]
            omega
          have z3 := longer_le (x := x) (rows := rows) (i := i + 1)
          rw [eL, List.length_append, List.length_singleton] at z2
          omega
        refine ⟨_, rfl, .inl ⟨rfl, _, SqL.of hb2⟩, _, rfl, _, rfl, by show 1 ≤ sizeLine; decide, fun u hu => ?_⟩
        have s3 := same_new (o := .tup [.int (k : Int)]) hu
        refine ⟨aw, u, _, _, rfl, rfl, Same.tup s3 hw2, SqT.of upd_same, ?_, fun H3 wa s4 hwa => ?_⟩
        · unfold wayV
          rw [List.length_map]
          show r.way.length + 1 ≤ sizeLine
          exact Nat.le_trans (by omega) (Nat.le_of_lt (small1000 (n := 101) (by decide)))
        have s34 := s3.trans s4
        refine ⟨_, rfl, _, rfl, _, _, rfl, rfl, ?_⟩
        refine ⟨_, rfl, _, rfl, _, rfl, af, r.frac, x, k, rfl, FracT.keep hf2 s34, hgr, hx, hk, fun H4 fa s5 hfa => ?_⟩
        refine ⟨by show 3 ≤ sizeLine; decide, fun v hv => ?_⟩
        have s6 := same_new (o := .tup [.ref wa, .int ((r.left : Int) - (k : Int)), .ref fa]) hv
        have s36 := (s34.trans s5).trans s6
        have hb6 := s36 b _ hb2
        refine ⟨b, zs, _, rfl, rfl, hb6, Nat.lt_of_lt_of_le hzl (by show 9765625 ≤ sizeLine; decide), ?_⟩
        have tu := tups_lst (K := K) (zs := zs ++ [V.ref v]) hb6
        have s26 := (s2.trans s36)
        refine ⟨zs ++ [.ref v], _, rfl, same_at s26 hb, upd_same, ?_, tu _ _ (Same.tup s36 hw2), tu _ _ (FracT.keep hf2 s36)⟩
        rw [eL]
        refine Paired.snoc (hz2.keep (Tups.trans (Same.tups s36) tu)) ⟨v, wa, fa, rfl, tu _ _ (SqT.of ?_), tu _ _ ?_, tu _ _ ?_⟩
        · rw [upd_same]
          show some (HO.tup [.ref wa, .int ((r.left : Int) - (k : Int)), .ref fa]) = some (HO.tup [.ref wa, .int ((r.left - k : Nat) : Int), .ref fa])
          rw [show (r.left : Int) - (k : Int) = ((r.left - k : Nat) : Int) by omega]
        · have z := Same.tup (s5.trans s6) hwa
          unfold wayV at z ⊢
          rw [show (longer1 x r k).way = r.way ++ [k] from rfl, List.map_append]
          exact z
        · exact FracT.keep hfa s6
      · rintro σ H2 ⟨zs, u7, rfl, s2, hb2, hz2, _, _⟩
        refine ⟨zs, _, _, _, _, _, rfl, s2, hb2, ?_⟩
        rw [longer_snoc hri]
        have ep : (picks x r.left).take (min (Kqz6.room x) r.left + 1) = picks x r.left := List.take_of_length_le (by rw [picks_length]; exact Nat.le_refl _)
        rw [ep] at hz2
        exact hz2
    · rintro σ H' ⟨ys, v3, v4, v5, v6, v7, rfl, s1, hb', hy⟩
      refine ⟨_, rfl, q H' b ys s1 hb hb' ?_⟩
      have e : rows.take xs.length = rows := List.take_of_length_le (by rw [Paired.length hR]; exact Nat.le_refl _)
      rw [e] at hy
      exact hy
end
end FC
/-! The walk, part 4: all ways of so many changes. -/
namespace FC
open PySem PySem.Spec PyProof.Rows L2
open Kqz1 (Frac Figure)
open Kqz3 (Ring)
theorem rowsOf_more {l : List Figure} {i : Nat} {x : Figure} (h : l[i]? = some x) (rows : List Row) : rowsOf (l.take (i + 1)) rows = longer x (rowsOf (l.take i) rows) := by
  rw [take_snoc h]
  unfold rowsOf
  rw [List.foldl_append]
  rfl
def WayLen (n : Nat) (rows : List Row) : Prop := ∀ r ∈ rows, r.way.length ≤ n
theorem wayLen_longer {x : Figure} {n : Nat} {rows : List Row} (h : WayLen n rows) : WayLen (n + 1) (longer x rows) := fun r hr => by
  unfold longer at hr
  obtain ⟨r0, h0, h1⟩ := List.mem_flatMap.mp hr
  obtain ⟨k, _, e⟩ := List.mem_map.mp h1
  rw [← e]
  have z := h r0 h0
  show (r0.way ++ [k]).length ≤ n + 1
  rw [List.length_append, List.length_singleton]
  omega
/-- a way, and what comes of it -/
def PairT (K : PySem.W.Frag) (H : Hp) (v : V) (z : List Nat × Frac) : Prop := ∃ t a f, v = .ref t ∧ SqT K H t [.ref a, .ref f] ∧ SqT K H a (wayV z.1) ∧ FracT K H f z.2
theorem PairT.keep {K : PySem.W.Frag} {H H' : Hp} {v : V} {z : List Nat × Frac} (h : PairT K H v z) (e : Tups K H H') : PairT K H' v z := by
  obtain ⟨t, a, f, h1, h2, h3, h4⟩ := h
  exact ⟨t, a, f, h1, e _ _ h2, e _ _ h3, e _ _ h4⟩
def PairsT (K : PySem.W.Frag) (H : Hp) (xs : List V) (zs : List (List Nat × Frac)) : Prop := Paired (PairT K H) xs zs
theorem PairsT.keep {K : PySem.W.Frag} {H H' : Hp} {xs : List V} {zs : List (List Nat × Frac)} (h : PairsT K H xs zs) (e : Tups K H H') : PairsT K H' xs zs := Paired.mapP h fun _ _ z => z.keep e
theorem done_snoc {rows : List Row} {i : Nat} {r : Row} (h : rows[i]? = some r) : done (rows.take (i + 1)) = done (rows.take i) ++ (if r.left = 0 then [(r.way, r.frac)] else []) := by
  rw [take_snoc h]
  unfold done
  rw [List.filter_append, List.map_append]
  congr 1
  by_cases c : r.left = 0
  · rw [if_pos c, List.filter_cons_of_pos (by rw [c]; rfl)]
    rfl
  · rw [if_neg c, List.filter_cons_of_neg (by rw [beq_eq_false_iff_ne.mpr c]; exact Bool.false_ne_true)]
    rfl
theorem done_le (rows : List Row) : (done rows).length ≤ rows.length := by
  unfold done
  rw [List.length_map]
  exact List.length_filter_le _ _
section
variable {P : Program} {w : World} {K : PySem.W.Frag} {mg : Str → Option Value} {base : Heap}
abbrev sWays : Stmt := top 23
abbrev nWays : List Str := ["figures", "changes", "rows", "figure", "way", "left", "fraction"]
theorem scWays : FnScope nWays ["figures", "changes"] (defScope sWays) := ⟨rfl, rfl, rfl, by decide +kernel, rfl, by decide +kernel, by decide +kernel⟩
def spWays (K : PySem.W.Frag) : Sp := fun vs H Q _ => ∃ (a : Addr) (l : List Figure) (t : Nat), vs = [.ref a, .int (t : Int)] ∧ FigsAt K H a l ∧ FigsOk l ∧ l.length ≤ 10 ∧ t ≤ 4 ∧
  ∀ H' b ys, Same H H' → H b = none → H' b = some (.lst ys) → PairsT K H' ys (waysF l t) → Q (.ref b) H'
theorem ok_ways {f : Addr} {fd : FuncData} (D : Def K mg "ways_of" sWays ["figures", "changes"] f fd) (C : Consts K mg) (CL : Can P w K mg base "longer_rows" 3 ["rows", "figure"] (spLonger K)) : Can P w K mg base "ways_of" 4 ["figures", "changes"] (spWays K) := by
  refine D.can (D.fn.ok scWays (fun vs H Q E h => ?_) (fun cdv A outer s H vs Q E hr h => ?_))
  · obtain ⟨a, l, t, rfl, _⟩ := h
    rfl
  · obtain ⟨a, l, t, rfl, hl, hg, hlen, ht, q⟩ := h
    obtain ⟨az, mz, hz⟩ := C.zero
    refine ⟨_, pss_cons (ps_set (i := 2) scWays.nd rfl (.inl rfl) (pe_lst (pa_cons (pe_tup (pa_cons (pe_tup pa_nil) (pa_cons (pv 1) (pa_cons (pe_glob (v := .ref az) rfl mz rfl) pa_nil)))) pa_nil)))
      (pss_cons (ps_for PassesOwn.never rfl (pi_list (pv 0)) (pg_name (i := 3) scWays.nd rfl (.inl rfl)) (pss_one (ps_set (i := 2) scWays.nd rfl (.inl rfl) (pe_can CL hr rfl (pa_cons (pv 2) (pa_cons (pv 3) pa_nil))))))
      (pss_one (ps_ret (pe_lc (own := [("way", 4), ("left", 5), ("fraction", 6)]) (g := gTup K 3 (gCons (gName 4) (gCons (gName 5) (gCons (gName 6) gNil)))) rfl scWays.nd (pi_list (pv 2)) (blkOk_by (N := nWays) (sc := defScope sWays) (by decide +kernel))
        (fun _ _ _ _ _ => pg_tup rfl (pgs_cons (pg_name (i := 4) scWays.nd rfl (.inl rfl) (.inr rfl)) (pgs_cons (pg_name (i := 5) scWays.nd rfl (.inl rfl) (.inr rfl)) (pgs_cons (pg_name (i := 6) scWays.nd rfl (.inl rfl) (.inr rfl)) pgs_nil))))
        (fun _ _ _ _ _ => pts_one (pt_cmpR op_eq (pv 5) pe_int (nomark _))) (fun _ _ _ _ _ => pe_tup (pa_cons (pv 4) (pa_cons (pv 6) pa_nil))))))), ?_⟩
    -- rows = [((), changes, ZERO)]
    refine ⟨by show 0 ≤ sizeLine; decide, fun e he => ⟨_, rfl, by show 3 ≤ sizeLine; decide, fun u hu => ⟨by show 1 ≤ sizeLine; decide, fun b hb => ?_⟩⟩⟩
    have s1 := same_new (o := .tup []) he
    have s2 := s1.trans (same_new (o := .tup [.ref e, .int (t : Int), .ref az]) hu)
    have s3 := s2.trans (same_new (o := .lst [.ref u]) hb)
    have hub := same_new (o := .lst [.ref u]) hb
    have heu := same_new (o := .tup [.ref e, .int (t : Int), .ref az]) hu
    refine ⟨_, rfl, a, rfl, ⟨_, s3.seq hl⟩, for_list (K := K) (a := a) (xs := codes l) (fun i σ H' => ∃ (b : Addr) (xs : List V) (v : Option V), σ = [some (.ref a), some (.int (t : Int)), some (.ref b), v, none, none, none] ∧ Same H H' ∧ H' b = some (.lst xs) ∧ RowsT K H' xs (rowsOf (l.take i) (start t)) ∧
        GoodRows (rowsOf (l.take i) (start t)) ∧ WayLen i (rowsOf (l.take i) (start t)))
      ⟨b, _, none, rfl, s3, upd_same, .cons ⟨u, e, az, rfl, SqT.of (hub _ _ upd_same), SqT.of (hub _ _ (heu _ _ upd_same)), hz _⟩ .nil, fun r hr => ?_, fun r hr => ?_⟩ (fun i σ H' _ ⟨_, _, _, _, s4, _⟩ => s4.seq hl) ?_ ?_⟩
    · rw [List.mem_singleton.mp hr]
      exact good_flat
    · rw [List.mem_singleton.mp hr]
      exact Nat.le_refl _
    · rintro i y σ H' hi ⟨b', xs, v, rfl, s4, hb', hR, hG, hW⟩
      obtain ⟨x, hx, rfl⟩ := codes_at hi
      have hil : i < l.length := (List.getElem?_eq_some_iff.mp hx).1
      have hfew : (longer x (rowsOf (l.take i) (start t))).length ≤ 9765625 := by
        rw [← rowsOf_more hx]
        exact rows_few (by rw [List.length_take]; omega) ht
      refine ⟨_, rfl, _, rfl, b', x, xs, _, rfl, SqL.of hb', hR, rowsOf_left _ (start_left ht), hG, figs_at hx hg, hfew, fun r hr => Nat.le_trans (hW r hr) (by omega), fun H2 b2 ys s5 hn hb2 hR2 => ?_⟩
      refine ⟨b2, ys, _, rfl, s4.trans s5, hb2, ?_, ?_, ?_⟩
      · rw [rowsOf_more hx]
        exact hR2
      · rw [rowsOf_more hx]
        exact goodRows_longer hG
      · rw [rowsOf_more hx]
        exact wayLen_longer hW
    · rintro σ H' ⟨b', xs, v, rfl, s4, hb', hR, hG, hW⟩
      rw [codes_len, List.take_length] at hR
      have hxl : xs.length ≤ 9765625 := by
        rw [Paired.length hR]
        exact rows_few hlen ht
      refine ⟨_, rfl, b', rfl, ⟨_, SqL.of hb'⟩, fun D hD => ?_⟩
      have sD := same_new (o := .lst []) hD
      refine lc_list (K := K) (a := b') (xs := xs) (fun i H2 => ∃ ys, Same H' H2 ∧ H2 D = some (.lst ys) ∧ PairsT K H2 ys (done ((rowsOf l (start t)).take i)))
        ⟨[], sD, upd_same, .nil⟩ (fun i H2 _ ⟨_, s5, _⟩ => s5.seq (SqL.of hb')) ?_ ?_
      · rintro i y H2 hi ⟨ys, s5, hD2, hP⟩
        obtain ⟨r, hri, hrow⟩ := paired_at hR hi
        obtain ⟨u2, aw, af, rfl, hu2, hway, hfr⟩ := hrow.keep (Same.tups s5)
        refine ⟨u2, _, rfl, hu2, rfl, _, _, rfl, _, _, rfl, _, _, rfl, rfl, rfl, _, rfl, rfl, _, rfl, ?_⟩
        rw [eq_ii, show decide ((r.left : Int) = 0) = decide (r.left = 0) from dec_eq (b := 0)]
        have hyl : ys.length ≤ i := by
          rw [Paired.length hP]
          refine Nat.le_trans (done_le _) ?_
          rw [List.length_take]
          exact Nat.min_le_left _ _
        have hil : i < xs.length := (List.getElem?_eq_some_iff.mp hi).1
        by_cases c : r.left = 0
        · refine ite_yes c ⟨_, rfl, _, rfl, by show 2 ≤ sizeLine; decide, fun v hv => ?_⟩
          have s6 := same_new (o := .tup [.ref aw, .ref af]) hv
          have hD3 := s6 _ _ hD2
          have tu := tups_lst (K := K) (zs := ys ++ [V.ref v]) hD3
          refine ⟨ys, hD3, Nat.lt_of_lt_of_le (show ys.length < 9765626 by omega) (by show 9765626 ≤ sizeLine; decide), ys ++ [.ref v], same_at (s5.trans s6) hD, upd_same, ?_⟩
          rw [done_snoc hri, if_pos c]
          exact Paired.snoc (hP.keep (Tups.trans (Same.tups s6) tu)) ⟨v, aw, af, rfl, tu _ _ (SqT.of upd_same), tu _ _ (Same.tup s6 hway), tu _ _ (FracT.keep hfr s6)⟩
        · refine ite_no c ⟨ys, s5, hD2, ?_⟩
          rw [done_snoc hri, if_neg c, List.append_nil]
          exact hP
      · rintro H2 ⟨ys, s5, hD2, hP⟩
        have e : (rowsOf l (start t)).take xs.length = rowsOf l (start t) := List.take_of_length_le (by rw [Paired.length hR]; exact Nat.le_refl _)
        rw [e, rows_ways] at hP
        exact q H2 D ys (s4.trans s5) (s4.free hD) hD2 hP
end
end FC
/-! The walk, part 5: zip of a list and a tuple; figures_behind. -/
namespace FC
open PySem PySem.Spec PyProof.Rows L2
open Kqz1 (Frac Figure)
open Kqz3 (Ring)
/-! ### zip(list, tuple) -/
/-- the list at a and the tuple at b, item by item, in new pairs -/
def ItzM (K : PySem.W.Frag) (a b : Addr) : It where
  go := fun i H => ∃ (xs ys : List V) (x y : V), SqL K H a xs ∧ SqT K H b ys ∧ xs[i]? = some x ∧ ys[i]? = some y
  yld := fun i H v H' => ∃ T x y, v = .ref T ∧ H T = none ∧ H' = upd H T (.tup [x, y]) ∧ (∀ xs, SqL K H a xs → xs[i]? = some x) ∧ ∀ ys, SqT K H b ys → ys[i]? = some y
  stop := fun i H => ∃ xs ys : List V, SqL K H a xs ∧ SqT K H b ys ∧ xs.length = ys.length ∧ xs.length = i
theorem sepM {z TI TO i1 i2 a b : Addr} (D : ZipApart z TI TO i1 i2 a b) : ZipSep2 z TI TO i1 i2 [i1, a] [i2, b] where
  TIz := D.TIz
  TOz := D.TOz
  TITO := D.TITO
  TIi1 := D.TIi1
  mem1 := List.mem_cons_self ..
  zf1 := by
    intro h
    rcases List.mem_cons.mp h with e | h
    · exact D.i1z e.symm
    · exact D.l1z (List.mem_singleton.mp h).symm
  Tf1 := by
    intro h
    rcases List.mem_cons.mp h with e | h
    · exact D.TOi1 e
    · exact D.l1TO (List.mem_singleton.mp h).symm
  TIi2 := D.TIi2
  mem2 := List.mem_cons_self ..
  zf2 := by
    intro h
    rcases List.mem_cons.mp h with e | h
    · exact D.i2z e.symm
    · exact D.l2z (List.mem_singleton.mp h).symm
  Tf2 := by
    intro h
    rcases List.mem_cons.mp h with e | h
    · exact D.TOi2 e
    · exact D.l2TO (List.mem_singleton.mp h).symm
  sep1_2 := by
    intro h
    rcases List.mem_cons.mp h with e | h
    · exact D.i12 e
    · exact D.l2i1 (List.mem_singleton.mp h).symm
  sep2_1 := by
    intro h
    rcases List.mem_cons.mp h with e | h
    · exact D.i12 e.symm
    · exact D.l1i2 (List.mem_singleton.mp h).symm
/-- how a running zip over the list at a and the tuple at b stands -/
def ZipM (z TI TO i1 i2 a b : Addr) (i : Nat) (h : Heap) : Prop :=
  IsZip h z TI TO .none ∧ IsTupOf2 h TI (.ref i1) (.ref i2) ∧ (∃ x y, IsTupOf2 h TO x y) ∧ h.IsListIter i1 a i ∧ h.IsTupleIter i2 b i
theorem fiveM {z TI TO i1 i2 c : Addr} (h : c ∈ [z, TI, TO, i1, i2]) : c = z ∨ c = TI ∨ c = TO ∨ c = i1 ∨ c = i2 := by simpa using h
theorem ZipM.each {z TI TO i1 i2 a b : Addr} {i : Nat} {h : Heap} (st : ZipM z TI TO i1 i2 a b i h) : ∀ c ∈ [z, TI, TO, i1, i2], ∃ o, h.get? c = some o ∧ ∀ v, o.data ≠ .cell v := fun c hc => by
  obtain ⟨hz, hI, ⟨x, y, hO⟩, ⟨o1, e1, _, d1⟩, ⟨o2, e2, _, d2⟩⟩ := st
  rcases fiveM hc with rfl | rfl | rfl | rfl | rfl
  · exact ⟨_, hz, fun v q => by cases q⟩
  · exact ⟨_, hI, fun v q => by cases q⟩
  · exact ⟨_, hO, fun v q => by cases q⟩
  · exact ⟨o1, e1, fun v q => by rw [d1] at q; cases q⟩
  · exact ⟨o2, e2, fun v q => by rw [d2] at q; cases q⟩
theorem turnM {P : Program} {w : World} {K : PySem.W.Frag} {elts : List Expr} {kk : Nat} {tpos : Pos} {a b z TI TO i1 i2 : Addr} (D : ZipApart z TI TO i1 i2 a b) :
    Turn P w K (.Tuple elts kk tpos) (ItzM K a b) [z, TI, TO, i1, i2] z (ZipM z TI TO i1 i2 a b) where
  mem := List.mem_cons_self ..
  obj := fun i h st => st.each
  keep := fun i h h' st k => by
    obtain ⟨hz, hI, ⟨x, y, hO⟩, h1, h2⟩ := st
    have k1 := k i1 (by simp)
    have k2 := k i2 (by simp)
    exact ⟨k z (by simp) _ hz, k TI (by simp) _ hI, ⟨x, y, k TO (by simp) _ hO⟩, h1.at k1, h2.at k2⟩
  item := by
    intro X hP hw hK hc i pins s σ H E I hf st hg
    subst hP hw hK
    have each := st.each
    obtain ⟨hz, hI, ⟨x0, y0, hO⟩, h1, h2⟩ := st
    obtain ⟨xs, ys, x, y, qx, qy, hx, hy⟩ := hg
    obtain ⟨its, rv, p1, _⟩ := I.list qx
    obtain ⟨its2, rv2, p2, _⟩ := I.tuple qy
    have hh : X.A.in1.handled = none := I.ok.hd hc
    have lx : i < its.toArray.size := by
      have l := (List.getElem?_eq_some_iff.mp hx).1
      rw [List.size_toArray, ← rv.length]
      exact l
    have ly : i < its2.toArray.size := by
      have l := (List.getElem?_eq_some_iff.mp hy).1
      rw [List.size_toArray, ← rv2.length]
      exact l
    refine wpAny_pyNext_zipD2_item (sepM D) (Draws.list hh i1 a D.l1i1 its.toArray) (Draws.tuple hh i2 b D.l2i2 its2.toArray) hz hI hO ⟨h1, p1.isList⟩ ⟨h2, p2⟩ lx ly fun u1 u2 h' tk e1 e2 hz' hO' n1 n2 hT hsz hk => ?_
    obtain ⟨w1, g1, r1⟩ := rv.get hx
    obtain ⟨w2, g2, r2⟩ := rv2.get hy
    have e1' : u1 = w1 := Option.some.inj (e1.symm.trans (by rw [List.getElem?_toArray]; exact g1))
    have e2' : u2 = w2 := Option.some.inj (e2.symm.trans (by rw [List.getElem?_toArray]; exact g2))
    subst e1' e2'
    have fr : H s.heap.objs.size = none := I.hok.fresh (Nat.le_refl _)
    refine ⟨_, rfl, wpAny_letOwnedTupleGo_zip (s := { s with heap := h', toks := tk }) hz' fun h2' hz2 sb => ?_⟩
    have notz : s.heap.objs.size ≠ z := Nat.ne_of_gt (Heap.lt_size hz)
    have new : ObjOk X.prog X.w (upd H s.heap.objs.size (.tup [x, y])) h2' s.heap.objs.size (.tup [x, y]) :=
      ⟨by show 2 ≤ sizeLine; decide, [u1, u2], .cons r1 (.cons r2 .nil), _, (sb.2 _ notz).trans hT, rfl, _, rfl⟩
    have stay : ∀ c o, c ∉ [z, TI, TO, i1, i2] → s.heap.get? c = some o → h2'.get? c = some o := fun c o nc q => by
      have n : c ≠ z ∧ c ≠ TO ∧ c ≠ i1 ∧ c ≠ i2 := ⟨fun e => nc (by simp [e]), fun e => nc (by simp [e]), fun e => nc (by simp [e]), fun e => nc (by simp [e])⟩
      exact (sb.2 c n.1).trans (hk c o n.1 n.2.1 n.2.2.1 n.2.2.2 q)
    have J : Inv X pins σ (upd H s.heap.objs.size (.tup [x, y])) { s with heap := h2', toks := tk } := I.turnedNew stay hf (Nat.le_refl _) new
    refine ⟨.ref s.heap.objs.size, _, J, rfl, ⟨_, x, y, rfl, fr, rfl, fun l hl => ?_, fun l hl => ?_⟩, ⟨hz2, ?_, ⟨u1, u2, ?_⟩, ?_, ?_⟩, fun c hcm => ?_⟩
    · rw [I.list_inj hl qx]
      exact hx
    · rw [I.tuple_inj hl qy]
      exact hy
    · exact (sb.2 _ D.TIz).trans (hk _ _ D.TIz D.TITO D.TIi1 D.TIi2 hI)
    · exact (sb.2 _ D.TOz).trans hO'
    · exact n1.1.at fun o q => (sb.2 _ D.i1z).trans q
    · exact n2.1.at fun o q => (sb.2 _ D.i2z).trans q
    · obtain ⟨o, ho, _⟩ := each c hcm
      rw [upd_ne (Nat.ne_of_lt (Heap.lt_size ho))]
      exact (hf c hcm).1
  done := by
    intro X hP hw hK hc i pins s σ H E I hf st hg
    subst hP hw hK
    obtain ⟨hz, hI, ⟨x0, y0, hO⟩, h1, h2⟩ := st
    obtain ⟨xs, ys, qx, qy, exy, ei⟩ := hg
    obtain ⟨its, rv, p1, _⟩ := I.list qx
    obtain ⟨its2, rv2, p2, _⟩ := I.tuple qy
    have l1 : i = its.toArray.size := by rw [List.size_toArray, ← rv.length, ei]
    have l2 : i = its2.toArray.size := by rw [List.size_toArray, ← rv2.length, ← exy, ei]
    have hh : X.A.in1.handled = none := I.ok.hd hc
    refine wpAny_pyNext_zipD2_end (sepM D) (Draws.list hh i1 a D.l1i1 its.toArray) (Draws.tuple hh i2 b D.l2i2 its2.toArray) hz hI hO ⟨h1, p1.isList⟩ ⟨h2, p2⟩ (Nat.le_of_eq l1) (Nat.le_of_eq l2) (.inl l1) fun h' tk hk => ⟨rfl, ?_⟩
    refine I.turnedL (ch := [z, TI, TO, i1, i2]) (fun c o nc q => ?_) hf
    have n : c ≠ z ∧ c ≠ TO ∧ c ≠ i1 ∧ c ≠ i2 := ⟨fun e => nc (by simp [e]), fun e => nc (by simp [e]), fun e => nc (by simp [e]), fun e => nc (by simp [e])⟩
    exact hk c o n.1 n.2.1 n.2.2.1 n.2.2.2 q
  self := fun A i s Q E st h => wpAny_pyIter_zip st.1 h
/-- zip(a list, a list or a tuple) -/
def iZipM (K : PySem.W.Frag) (ta : TA) : TI := fun σ H R => ta σ H fun vs H1 => ∃ a b xs ys, vs = [.ref a, .ref b] ∧ SqL K H1 a xs ∧ ((SqL K H1 b ys ∧ R (Itz K a b) H1) ∨ (SqT K H1 b ys ∧ R (ItzM K a b) H1))
theorem pi_zipM {X : Cx} {e e2 : Expr} {ta : TA} {p pos tpos : Pos} {elts : List Expr} {kk : Nat} (hg : Gl X "zip") (hm : X.mg "zip" = none) (ha : PA X [e, e2] ta)
    (hs : starEach [e, e2] X.env = (false, eval e X.env) :: starEach [e2] X.env := by rfl) (hpl : (backTo pos (starEach [e2] X.env)).any (·.1) = false := by rfl) :
    PI X (.Tuple elts kk tpos) (.Call (.Name "zip" p) [e, e2] [] pos) (iZipM X.K ta) := by
  refine ⟨fun pins s σ H R I h => Call_ (ld_blt I hg hm PyProof.Rows.boot_zip (PyProof.Rows.callWith_type1 (thn (ha.run pos pins s σ H _ I h) fun us s1 hq => ?_) hs hpl))⟩
  obtain ⟨vs, H1, I1, r1, a, b, xs, ys, rfl, qx, q1⟩ := hq
  obtain ⟨u1, u2, rfl, ra, rb⟩ := vals2 r1
  cases ra
  cases rb
  obtain ⟨its, rv, p1, _⟩ := I1.list qx
  have fresh : ∀ c, c ∈ [s1.heap.objs.size + 4, s1.heap.objs.size + 2, s1.heap.objs.size + 3, s1.heap.objs.size, s1.heap.objs.size + 1] → FpOk X pins H1 c := fun c hcm => by
    have hle : s1.heap.objs.size ≤ c := by
      rcases fiveM hcm with e | e | e | e | e <;> rw [e] <;> omega
    exact I1.fpOk hle (I1.hok.fresh hle)
  rcases q1 with ⟨qy, q⟩ | ⟨qy, q⟩
  · obtain ⟨its2, rv2, p2, _⟩ := I1.list qy
    refine call_zip_2 p1.isList p2.isList fun h' hz hI hO h1 h2 hsz hk => wpAny_pyIter_zip hz ?_
    exact ⟨_, _, _, _, H1, rfl, I1.kept (t' := s1.toks) hk, turn_zip (PySem.W.ktu_apart s1.heap.objs.size a b p1.lt p2.lt), ⟨hz, hI, ⟨_, _, hO⟩, h1, h2⟩, fresh, q⟩
  · obtain ⟨its2, rv2, p2, _⟩ := I1.tuple qy
    refine zip_begins2 (begins_list a its.toArray) (begins_tuple b its2.toArray) p1.isList p2 fun h' hz hI hO g1 g2 hsz hk => wpAny_pyIter_zip hz ?_
    obtain ⟨o2, ho2, _⟩ := id p2
    exact ⟨_, _, _, _, H1, rfl, I1.kept (t' := s1.toks) hk, turnM (PySem.W.ktu_apart s1.heap.objs.size a b p1.lt (Heap.lt_size ho2)), ⟨hz, hI, ⟨_, _, hO⟩, ⟨_, g1, rfl, rfl⟩, ⟨_, g2, rfl, rfl⟩⟩, fresh, q⟩
/-- a for over zip of a list and a tuple of one length -/
theorem for_zipM {K : PySem.W.Frag} {a b : Addr} {xs ys : List V} {g : TG} {tb : TS} {D : Ends} {σ : L2.St} {H : Hp} (hl : xs.length = ys.length) (Pv : Nat → L2.St → Hp → Prop) (h0 : Pv 0 σ H) (hq : ∀ i σ H, Pv i σ H → SqL K H a xs ∧ SqT K H b ys)
    (hs : ∀ (i : Nat) (x y : V) (T : Addr) (σ : L2.St) (H : Hp), xs[i]? = some x → ys[i]? = some y → Pv i σ H → H T = none → g (.ref T) σ (upd H T (.tup [x, y])) fun σ2 H2 => tb { D with nx := Pv (i + 1), ct := Pv (i + 1), bk := D.nx } σ2 H2) (hd : ∀ σ H, Pv xs.length σ H → D.nx σ H) :
    ∃ W : Nat → Nat → L2.St → Hp → Prop, (∃ m, W 0 m σ H) ∧ ∀ i m σ H, W i m σ H →
      ((ItzM K a b).stop i H ∧ D.nx σ H) ∨ ((ItzM K a b).go i H ∧ ∃ N : L2.St → Hp → Prop, (∀ σ' H', N σ' H' → ∃ m', m' < m ∧ W (i + 1) m' σ' H') ∧ ∀ v H', (ItzM K a b).yld i H v H' → g v σ H' fun σ2 H2 => tb { D with nx := N, ct := N, bk := D.nx } σ2 H2) := by
  refine ⟨fun i m σ H => m = xs.length - i ∧ i ≤ xs.length ∧ Pv i σ H, ⟨_, rfl, Nat.zero_le _, h0⟩, fun i m σ H hW => ?_⟩
  obtain ⟨rfl, hi, p⟩ := hW
  obtain ⟨qx, qy⟩ := hq i σ H p
  rcases Nat.lt_or_ge i xs.length with hlt | hge
  · have hx := List.getElem?_eq_getElem hlt
    have hy := List.getElem?_eq_getElem (show i < ys.length by omega)
    refine .inr ⟨⟨xs, ys, _, _, qx, qy, hx, hy⟩, Pv (i + 1), fun σ' H' p' => ⟨_, by omega, rfl, hlt, p'⟩, fun v H' hv => ?_⟩
    obtain ⟨T, x', y', rfl, hT, rfl, f1, f2⟩ := hv
    exact hs i x' y' T σ H (f1 _ qx) (f2 _ qy) p hT
  · obtain rfl : i = xs.length := by omega
    exact .inl ⟨⟨xs, ys, qx, qy, hl, rfl⟩, hd σ H p⟩
end FC
/-! The walk, part 6: figures_behind. -/
namespace FC
open PySem PySem.Spec PyProof.Rows L2
open Kqz1 (Frac Figure)
open Kqz3 (Ring)
theorem fits_at : ∀ {l : List Figure} {w : List Nat} {i : Nat} {x : Figure} {k : Nat}, Fits l w → l[i]? = some x → w[i]? = some k → k ≤ Kqz6.room x
  | _, _, _, _, _, .nil, h, _ => by simp at h
  | _, _, 0, _, _, .cons h1 _, e1, e2 => by
    have e1 := Option.some.inj e1
    have e2 := Option.some.inj e2
    subst e1 e2
    exact h1
  | _, _, i + 1, _, _, .cons _ h2, e1, e2 => fits_at (i := i) h2 e1 e2
theorem made_at : ∀ {l : List Figure} {w : List Nat} {i : Nat} {x : Figure} {k : Nat}, l[i]? = some x → w[i]? = some k → (Kqz6.made l w)[i]? = some (Kqz6.changed x k)
  | [], _, _, _, _, h, _ => by simp at h
  | _ :: _, [], _, _, _, _, h => by simp at h
  | _ :: _, _ :: _, 0, _, _, e1, e2 => by
    have e1 := Option.some.inj e1
    have e2 := Option.some.inj e2
    subst e1 e2
    rfl
  | _ :: l, _ :: w, i + 1, _, _, e1, e2 => made_at (l := l) (w := w) (i := i) e1 e2
theorem wayV_at {w : List Nat} {i : Nat} {v : V} (h : (wayV w)[i]? = some v) : ∃ k, w[i]? = some k ∧ v = .int (k : Int) := by
  unfold wayV at h
  rw [List.getElem?_map] at h
  cases e : w[i]? with
  | none =>
    rw [e] at h
    cases h
  | some k =>
    rw [e] at h
    exact ⟨k, rfl, (Option.some.inj h).symm⟩
theorem wayV_len (w : List Nat) : (wayV w).length = w.length := List.length_map ..
theorem settle_next {l : List Figure} {w : List Nat} {i : Nat} {x : Figure} {k : Nat} (hx : l[i]? = some x) (hk : w[i]? = some k) (g : FigOk x) (hr : k ≤ Kqz6.room x) :
    codes (Kqz6.settle ((Kqz6.made l w).take (i + 1))) = codes (Kqz6.settle ((Kqz6.made l w).take i)) ++ (if Kqz6.code x = 0 ∨ chg (Kqz6.code x) k ≠ 0 then [V.int (chg (Kqz6.code x) k)] else []) := by
  rw [take_snoc (made_at hx hk), settle_snoc]
  unfold codes
  rw [List.map_append]
  congr 1
  have z := settle_step (l := []) g hr
  have z2 := congrArg (List.map V.int) z
  rw [List.map_map] at z2
  refine Eq.trans (show _ = List.map (V.int ∘ Kqz6.code) (Kqz6.settle [Kqz6.changed x k]) from rfl) (z2.trans ?_)
  by_cases c : Kqz6.code x = 0 ∨ chg (Kqz6.code x) k ≠ 0
  · rw [if_pos c, if_pos c]
    rfl
  · rw [if_neg c, if_neg c]
    rfl
section
variable {P : Program} {w : World} {K : PySem.W.Frag} {mg : Str → Option Value} {base : Heap}
abbrev sFB : Stmt := top 25
theorem scFB : FnScope ["figures", "way", "found", "figure", "many", "left"] ["figures", "way"] (defScope sFB) := ⟨rfl, rfl, rfl, by decide +kernel, rfl, by decide +kernel, by decide +kernel⟩
def spFB (K : PySem.W.Frag) : Sp := fun vs H Q _ => ∃ (a b : Addr) (l : List Figure) (w : List Nat), vs = [.ref a, .ref b] ∧ FigsAt K H a l ∧ FigsOk l ∧ l.length ≤ 10 ∧ Fits l w ∧ (SqL K H b (wayV w) ∨ SqT K H b (wayV w)) ∧
  ∀ H' p, Same H H' → H p = none → H' p = some (.lst (codes (Kqz6.settle (Kqz6.made l w)))) → Q (.ref p) H'
/-- what holds between two turns -/
def invFB (H : Hp) (a b p : Addr) (l : List Figure) (w : List Nat) (i : Nat) (σ : L2.St) (H' : Hp) : Prop :=
  ∃ v3 v4 v5 : Option V, σ = [some (.ref a), some (.ref b), some (.ref p), v3, v4, v5] ∧ Same H H' ∧ H' p = some (.lst (codes (Kqz6.settle ((Kqz6.made l w).take i))))
theorem ok_fb {f : Addr} {fd : FuncData} (D : Def K mg "figures_behind" sFB ["figures", "way"] f fd) (zZ : mg "zip" = none) (CC : Can P w K mg base "changed" 1 ["figure", "many"] spChanged) : Can P w K mg base "figures_behind" 2 ["figures", "way"] (spFB K) := by
  refine D.can (D.fn.ok scFB (fun vs H Q E h => ?_) (fun cdv A outer s H vs Q E hr h => ?_))
  · obtain ⟨a, b, l, w, rfl, _⟩ := h
    rfl
  · obtain ⟨a, b, l, w, rfl, hl, hg, hlen, hf, hw, q⟩ := h
    refine ⟨_, pss_cons (ps_set (i := 2) scFB.nd rfl (.inl rfl) (pe_lst pa_nil))
      (pss_cons (ps_for PassesOwn.never rfl (pi_zipM (by rfl) zZ (pa_cons (pv 0) (pa_cons (pv 1) pa_nil))) (pg_tup rfl (pgs_cons (pg_name (i := 3) scFB.nd rfl (.inl rfl)) (pgs_cons (pg_name (i := 4) scFB.nd rfl (.inl rfl)) pgs_nil)))
        (pss_cons (ps_set (i := 5) scFB.nd rfl (.inl rfl) (pe_can CC hr rfl (pa_cons (pv 3) (pa_cons (pv 4) pa_nil))))
        (pss_one (ps_if (PW.pt (pw_or (pt_cmpR op_eq (pv 3) pe_int (nomark _)) (pw_or1 (pt_cmpR op_ne (pv 5) pe_int (nomark _)))))
          (pss_one (ps_expr (pe_bm PySem.F.plainAttrs_list PySem.F.slot_list_append PySem.F.type_list_append mt_append (pv 2) (pa_cons (pv 5) pa_nil)))) pss_nil))))
      (pss_one (ps_ret (pv 2)))), ?_⟩
    refine ⟨Nat.zero_le _, fun p hp => ?_⟩
    have s1 := same_new (o := .lst []) hp
    have el : (codes l).length = (wayV w).length := by rw [codes_len, wayV_len, hf.len]
    have i0 : invFB H a b p l w 0 [some (.ref a), some (.ref b), some (.ref p), none, none, none] (upd H p (.lst [])) := ⟨none, none, none, rfl, s1, upd_same⟩
    have fin : ∀ (D0 : Ends) (σ : L2.St) (H' : Hp), D0.rt = Q → invFB H a b p l w (codes l).length σ H' → tRet (tVar 2) D0 σ H' := fun D0 σ H' eD hI => by
      obtain ⟨v3, v4, v5, rfl, s2, hp2⟩ := hI
      have e : (Kqz6.made l w).take (codes l).length = Kqz6.made l w := List.take_of_length_le (by rw [made_len hf, codes_len]; exact Nat.le_refl _)
      rw [e] at hp2
      refine ⟨_, rfl, ?_⟩
      show D0.rt (.ref p) H'
      rw [eD]
      exact q H' p s2 hp hp2
    have turn : ∀ (i : Nat) (x y : V) (T : Addr) (σ : L2.St) (H' : Hp) (D0 : Ends), D0.nx = invFB H a b p l w (i + 1) → (codes l)[i]? = some x → (wayV w)[i]? = some y → invFB H a b p l w i σ H' → H' T = none →
        gTup K 2 (gCons (gName 3) (gCons (gName 4) gNil)) (.ref T) σ (upd H' T (.tup [x, y])) fun σ2 H2 => tSeq (tAsg (tCan spChanged (tCons (tVar 3) (tCons (tVar 4) tNil))) (gName 5))
          (tIfS (tOr (tTest (tOp rEq (tVar 3) (tC (.int 0)))) (tTest (tOp rNe (tVar 5) (tC (.int 0))))) (tDrop (tBM K "list" rAppend (tVar 2) (tCons (tVar 5) tNil))) tNext) D0 σ2 H2 := by
      intro i x y T σ H' D0 eD hx hy hI hT
      obtain ⟨v3, v4, v5, rfl, s2, hp2⟩ := hI
      obtain ⟨x, hxl, rfl⟩ := codes_at hx
      obtain ⟨k, hkw, rfl⟩ := wayV_at hy
      have ox := figs_at hxl hg
      have hk := fits_at hf hxl hkw
      have nx := settle_next hxl hkw ox hk
      have sT := same_new (o := .tup [V.int (Kqz6.code x), V.int (k : Int)]) hT
      have hp3 := sT _ _ hp2
      have hlt : (codes (Kqz6.settle ((Kqz6.made l w).take i))).length < sizeLine := by
        have z := settle_len ((Kqz6.made l w).take i)
        have z2 : ((Kqz6.made l w).take i).length ≤ (Kqz6.made l w).length := by
          rw [List.length_take]
          exact Nat.min_le_right _ _
        rw [made_len hf] at z2
        rw [codes_len]
        exact small1000 (by omega)
      refine ⟨T, _, rfl, SqT.of upd_same, rfl, _, _, rfl, _, _, rfl, rfl, ?_⟩
      refine ⟨_, rfl, _, rfl, _, k, rfl, ?_⟩
      have app : (Kqz6.code x = 0 ∨ chg (Kqz6.code x) k ≠ 0) → tDrop (tBM K "list" rAppend (tVar 2) (tCons (tVar 5) tNil)) D0 [some (.ref a), some (.ref b), some (.ref p), some (.int (Kqz6.code x)), some (.int (k : Int)), some (.int (chg (Kqz6.code x) k))] (upd H' T (.tup [V.int (Kqz6.code x), V.int (k : Int)])) := fun c => by
        refine ⟨_, rfl, .inl ⟨rfl, _, SqL.of hp3⟩, _, rfl, p, _, _, rfl, rfl, hp3, hlt, ?_⟩
        rw [eD]
        refine ⟨_, _, _, rfl, same_at (s2.trans sT) hp, ?_⟩
        rw [nx, if_pos c]
        exact upd_same
      refine ⟨_, rfl, rfl, _, rfl, ?_⟩
      rw [eq_ii]
      by_cases c : Kqz6.code x = 0
      · exact ite_yes c (iteT (app (.inl c)))
      · refine ite_no c ⟨_, rfl, rfl, _, rfl, ?_⟩
        rw [eq_ii]
        by_cases c2 : chg (Kqz6.code x) k = 0
        · rw [decide_eq_true c2]
          refine iteF ?_
          show D0.nx _ _
          rw [eD]
          refine ⟨_, _, _, rfl, s2.trans sT, ?_⟩
          rw [nx, if_neg (by rintro (z | z); exact c z; exact z c2), List.append_nil]
          exact hp3
        · rw [decide_eq_false c2]
          exact iteT (app (.inr c2))
    refine ⟨_, rfl, _, rfl, a, b, codes l, wayV w, rfl, s1.seq hl, ?_⟩
    rcases hw with hw | hw
    · exact .inl ⟨s1.seq hw, RZ.for_zipL el (invFB H a b p l w) i0 (fun i σ H' ⟨_, _, _, _, s2, _⟩ => ⟨s2.seq hl, s2.seq hw⟩) (fun i x y T σ H' hx hy hI hT => turn i x y T σ H' _ rfl hx hy hI hT) (fun σ H' hI => fin _ σ H' rfl hI)⟩
    · exact .inr ⟨Same.tup s1 hw, for_zipM el (invFB H a b p l w) i0 (fun i σ H' ⟨_, _, _, _, s2, _⟩ => ⟨s2.seq hl, Same.tup s2 hw⟩) (fun i x y T σ H' hx hy hI hT => turn i x y T σ H' _ rfl hx hy hI hT) (fun σ H' hI => fin _ σ H' rfl hI)⟩
end
end FC
/-! The walk, part 7: a dict whose keys are tuples of two numbers, written ones among them; unlike. -/
namespace FC
open PySem PySem.Spec PyProof.Rows L2
open Kqz1 (Frac Figure)
open Kqz3 (Ring)
/-- a key: two whole numbers -/
abbrev Two := Int × Int
def twoK (k : Two) : List Key := [Sum.inl k.1, Sum.inl k.2]
def twoV (k : Two) : List V := [V.int k.1, V.int k.2]
theorem twoK_inj {a b : Two} (h : twoK a = twoK b) : a = b := by
  have h1 := List.cons.inj h
  have h2 := List.cons.inj h1.2
  exact Prod.ext (Sum.inl.inj h1.1) (Sum.inl.inj h2.1)
/-- what stands in the dict: each key's tuple, the value True -/
abbrev Ents := List (Two × Addr)
def entX (es : Ents) : List (List Key × Addr × Value) := es.map fun e => (twoK e.1, e.2, Value.bool true)
/-- the object at d is such a dict -/
def DkO (P : Program) (w : World) (d : Addr) (es : Ents) : HO := .ext fun h =>
  (d == sysModules) = false ∧ ∃ o ar ep, h.get? d = some o ∧ o.ExactDict ∧ o.data = .dict ar ep ∧ ar.toList = (entX es).map (entryOfKey (tupleKind (mixKind P w)))
/-- the keys stand where the dict says -/
structure Keyed (K : PySem.W.Frag) (H : Hp) (es : Ents) : Prop where
  at_ : ∀ e ∈ es, SqT K H e.2 (twoV e.1)
  nd : (es.map (·.1)).Nodup
  len : es.length ≤ sizeLine
theorem Keyed.keep {K : PySem.W.Frag} {H H' : Hp} {es : Ents} (h : Keyed K H es) (e : Tups K H H') : Keyed K H' es := ⟨fun x hx => e _ _ (h.at_ x hx), h.nd, h.len⟩
theorem entX_keys (es : Ents) : (entX es).map (·.1) = (es.map (·.1)).map twoK := by
  unfold entX
  rw [List.map_map, List.map_map]
  rfl
theorem entX_nodup {es : Ents} (h : (es.map (·.1)).Nodup) : ((entX es).map (·.1)).Nodup := by
  rw [entX_keys]
  rw [List.nodup_iff_pairwise_ne] at h ⊢
  exact List.Pairwise.map twoK (fun a b hab z => hab (twoK_inj z)) h
def putE (es : Ents) (k : Two) (a : Addr) : Ents := if k ∈ es.map (·.1) then es else es ++ [(k, a)]
theorem atKey_old {es : Ents} {k : Two} (h : k ∈ es.map (·.1)) : (atKey (entX es) (twoK k)).isSome = true := by
  unfold atKey
  rw [Option.isSome_map, List.find?_isSome]
  obtain ⟨e, he, ek⟩ := List.mem_map.mp h
  exact ⟨_, List.mem_map.mpr ⟨e, he, rfl⟩, decide_eq_true (congrArg twoK ek)⟩
theorem atKey_new {es : Ents} {k : Two} (h : ¬ k ∈ es.map (·.1)) : atKey (entX es) (twoK k) = none := by
  unfold atKey
  rw [Option.map_eq_none_iff, List.find?_eq_none]
  intro x hx z
  obtain ⟨e, he, ex⟩ := List.mem_map.mp hx
  rw [← ex] at z
  exact h (List.mem_map.mpr ⟨e, he, twoK_inj (of_decide_eq_true z)⟩)
theorem stored_is (es : Ents) (k : Two) (a : Addr) : storedH (entX es) (twoK k) a (Value.bool true) = entX (putE es k a) := by
  unfold putE
  by_cases h : k ∈ es.map (·.1)
  · rw [if_pos h]
    unfold storedH
    rw [if_pos (atKey_old h)]
    unfold entX
    rw [List.map_map]
    apply List.map_congr_left
    intro e _
    show putAt (twoK k) (Value.bool true) (twoK e.1, e.2, Value.bool true) = _
    unfold putAt
    split <;> rfl
  · rw [if_neg h, storedH_new (atKey_new h)]
    unfold entX
    rw [List.map_append]
    rfl
theorem putE_keys (es : Ents) (k : Two) (a : Addr) : (putE es k a).map (·.1) = put1 (es.map (·.1)) k := by
  unfold putE put1
  by_cases h : k ∈ es.map (·.1)
  · rw [if_pos h, if_pos h]
  · rw [if_neg h, if_neg h, List.map_append]
    rfl
theorem dkO_st {P : Program} {w : World} {d : Addr} {es : Ents} {h1 h2 : Heap} (q : (d == sysModules) = false ∧ ∃ o ar ep, h1.get? d = some o ∧ o.ExactDict ∧ o.data = .dict ar ep ∧ ar.toList = (entX es).map (entryOfKey (tupleKind (mixKind P w)))) (st : ∀ o, h1.get? d = some o → h2.get? d = some o) :
    (d == sysModules) = false ∧ ∃ o ar ep, h2.get? d = some o ∧ o.ExactDict ∧ o.data = .dict ar ep ∧ ar.toList = (entX es).map (entryOfKey (tupleKind (mixKind P w))) := by
  obtain ⟨m, o, ar, ep, e, r⟩ := q
  exact ⟨m, o, ar, ep, st o e, r⟩
theorem dkO_ok {P : Program} {w : World} {H : Hp} {h : Heap} {d : Addr} {es : Ents} {o : Obj} {ar : Array DictEntry} {ep : Nat} (m : (d == sysModules) = false) (e : h.get? d = some o) (x : o.ExactDict) (hd : o.data = .dict ar ep) (l : ar.toList = (entX es).map (entryOfKey (tupleKind (mixKind P w)))) :
    ObjOk P w H h d (DkO P w d es) := ⟨⟨m, o, ar, ep, e, x, hd, l⟩, ⟨o, e⟩, fun _ _ q st => dkO_st q st⟩
theorem two_kV (k : Two) : (twoK k).map kV = twoV k := rfl
section
variable {X : Cx} {pins : List (Addr × Obj)} {σ : L2.St} {H : Hp} {s : Shared}
/-- the tuple at b is the key k -/
theorem key_is (I : Inv X pins σ H s) {b : Addr} {k : Two} (h : SqT X.K H b (twoV k)) : (tupleKind (mixKind X.prog X.w)).is s.heap (twoK k) b := by
  obtain ⟨its, rv, ⟨o, e, c, n, d⟩, _⟩ := I.tuple h
  have rv2 : Vals ((twoK k).map kV) its := rv
  exact ⟨o, its.toArray, n, e, c, d, by rw [List.toList_toArray]; exact items_are rv2⟩
theorem dict_is (I : Inv X pins σ H s) {d : Addr} {es : Ents} (h : H d = some (DkO X.prog X.w d es)) (kd : Keyed X.K H es) : s.heap.DictOfH (tupleKind (mixKind X.prog X.w)) d (entX es) := by
  obtain ⟨⟨_, o, ar, ep, e, x, hd, l⟩, _, _⟩ := I.hok d _ h
  refine ⟨o, ar, ep, e, x, hd, l, fun y hy => ?_, entX_nodup kd.nd⟩
  obtain ⟨en, hen, ey⟩ := List.mem_map.mp hy
  rw [← ey]
  exact key_is I (kd.at_ en hen)
end
/-- {} that is to be such a dict -/
def tDkNew (P : Program) (w : World) : TE := fun _ H Q => ∀ p, H p = none → Q (.ref p) (upd H p (DkO P w p []))
theorem pe_dkNew {X : Cx} {pos : Pos} : PE X (.Dict [] [] pos) (tDkNew X.prog X.w) := by
  refine ⟨fun pins s σ H Q I h => wpAny_Dict_empty ⟨.ref s.heap.objs.size, _, ?_, rfl, h _ (I.hok.fresh (Nat.le_refl _))⟩⟩
  refine I.laid (a := s.heap.objs.size) (t' := s.toks) (fun _ _ q => Heap.get?_push_of_some _ q) (Nat.le_refl _) ?_
  exact dkO_ok (beq_eq_false_iff_ne.mpr (Ne.symm (Nat.ne_of_lt I.big))) (Heap.get?_push_size _ rfl) ⟨rfl, rfl, rfl⟩ rfl rfl
/-- d[k] = True -/
def sDkPut (P : Program) (w : World) (K : PySem.W.Frag) (td ty tv : TE) : TS := fun D σ H => tv σ H fun v H1 => td σ H1 fun x H2 => ty σ H2 fun y H3 =>
  ∃ (d b : Addr) (es : Ents) (k : Two), v = .bl true ∧ x = .ref d ∧ y = .ref b ∧ H3 d = some (DkO P w d es) ∧ Keyed K H3 es ∧ SqT K H3 b (twoV k) ∧ D.nx σ (upd H3 d (DkO P w d (putE es k b)))
theorem ps_dkPut {X : Cx} {o i value : Expr} {pos pos' : Pos} {td ty tv : TE} (hu : X.A.units + 1 < cLine) (ho : PE X o td) (hi : PE X i ty) (hv : PE X value tv) (hs : swapsWith value (some (.Subscript o i pos')) pos.line X.env = pure false) :
    PS X (.Assign [.Subscript o i pos'] value pos) (sDkPut X.prog X.w X.K td ty tv) := by
  refine ⟨fun pins s σ H D I h => ?_⟩
  refine wpAny_Assign_Subscript (thn (hv.run pins s σ H _ I h) fun r s1 ⟨v, H1, I1, rv, q1⟩ => thn (ho.run pins s1 σ H1 _ I1 q1) fun u s2 ⟨x, H2, I2, rx, q2⟩ => thn (hi.run pins s2 σ H2 _ I2 q2) fun iv s3 hq => ?_) hs
  obtain ⟨y, H3, I3, ry, d, b, es, k, rfl, rfl, rfl, hd, kd, hb, q⟩ := hq
  cases rv
  cases rx
  cases ry
  obtain ⟨⟨hm, _⟩, _, _⟩ := I3.hok d _ hd
  refine wpAny_setItem_heap (hsz := by unfold entX; rw [List.length_map]; exact kd.len) (tupleKind_room_in1 hu) (key_is I3 hb) (dict_is I3 hd kd) fun h' dd sb => ?_
  rw [stored_is] at dd
  obtain ⟨ob, ar, ep, e, x, hda, l, _, _⟩ := dd
  refine ⟨σ, _, I3.write (x := d) (e := d) ?_ (.inl rfl) (fun c q hc z => (sb.2 c hc).trans z) ⟨ob, e⟩ (dkO_ok hm e x hda l), q⟩
  rw [hd]
  trivial
/-- list(d) -/
theorem call_list_dk {X : Cx} (hc : X.calm = true) : CallR X (.type "list") (fun xs H Q => ∃ (d : Addr) (es : Ents), xs = [V.ref d] ∧ H d = some (DkO X.prog X.w d es) ∧ Keyed X.K H es ∧ ∀ p, H p = none → Q (.ref p) (upd H p (.lst (es.map fun e => V.ref e.2)))) := by
  intro pins s σ H xs us Q I r h
  obtain ⟨d, es, rfl, hd, kd, q⟩ := h
  obtain ⟨u, rfl, ru⟩ := r.one
  cases ru
  obtain ⟨⟨hm, o, ar, ep, e, x, hda, l⟩, _, _⟩ := I.hok d _ hd
  have lz : ar.size = es.length := by
    rw [size_of_entries l]
    exact List.length_map ..
  refine PySem.W.kdl_call (kdl_raw hm x hda) (I.ok.hd hc) e (by rw [lz]; exact kd.len) fun h' tk acc c kp eo it => ?_
  have ea : acc.toList = (es.map fun e => e.2).map Value.ref := by
    apply List.ext_getElem?
    intro j
    rw [List.getElem?_map, List.getElem?_map]
    have lj : acc.toList.length = es.length := by rw [Array.length_toList, it.1, lz]
    cases hj : es[j]? with
    | none => exact List.getElem?_eq_none (by rw [lj]; exact List.getElem?_eq_none_iff.mp hj)
    | some z =>
      have lt : j < acc.toList.length := by rw [lj]; exact (List.getElem?_eq_some_iff.mp hj).1
      obtain ⟨en, hen, hv⟩ := it.2 j acc.toList[j] (by rw [← Array.getElem?_toList]; exact List.getElem?_eq_getElem lt)
      have en2 := entry_at l j
      rw [hen] at en2
      unfold entX at en2
      rw [List.getElem?_map, hj] at en2
      have en3 := Option.some.inj en2
      rw [List.getElem?_eq_getElem lt, hv, en3]
      rfl
  refine ⟨.ref s.heap.objs.size, _, I.laid (t' := tk) (o := .lst (es.map fun e => V.ref e.2)) kp (Nat.le_refl _) ⟨?_, acc.toList, c, ?_, by rw [Array.toArray_toList]; exact eo⟩, rfl, q _ (I.hok.fresh (Nat.le_refl _))⟩
  · rw [List.length_map]
    exact kd.len
  · rw [ea]
    have e2 : (es.map fun e => V.ref e.2) = (es.map fun e => e.2).map V.ref := by
      rw [List.map_map]
      rfl
    rw [e2]
    exact vals_refs _

/-! ### unlike -/
def KeyT (K : PySem.W.Frag) (H : Hp) (v : V) (k : Two) : Prop := ∃ t, v = .ref t ∧ SqT K H t (twoV k)
theorem KeyT.keep {K : PySem.W.Frag} {H H' : Hp} {v : V} {k : Two} (h : KeyT K H v k) (e : Tups K H H') : KeyT K H' v k := by
  obtain ⟨t, h1, h2⟩ := h
  exact ⟨t, h1, e _ _ h2⟩
theorem tups_dk {P : Program} {w : World} {K : PySem.W.Frag} {H : Hp} {d : Addr} {es es' : Ents} (h : H d = some (DkO P w d es)) : Tups K H (upd H d (DkO P w d es')) := fun t xs q => by
  have ne : ∀ o, H t = some o → (∀ φ, o ≠ .ext φ) → t ≠ d := fun o e n z => by
    rw [z, h] at e
    exact n _ (Option.some.inj e).symm
  rcases q with (q | ⟨o, q⟩) | q
  · exact .inl (.inl (by rw [upd_ne (ne _ q fun φ z => by cases z)]; exact q))
  · exact .inl (.inr ⟨o, by rw [upd_ne (ne _ q fun φ z => by cases z)]; exact q⟩)
  · exact .inr q
theorem keyed_put {K : PySem.W.Frag} {H H' : Hp} {es : Ents} {k : Two} {b : Addr} (h : Keyed K H' es) (hb : SqT K H' b (twoV k)) (hl : es.length < sizeLine) : Keyed K H' (putE es k b) := by
  unfold putE
  by_cases c : k ∈ es.map (·.1)
  · rw [if_pos c]
    exact h
  · rw [if_neg c]
    refine ⟨fun e he => ?_, ?_, ?_⟩
    · rcases List.mem_append.mp he with m | m
      · exact h.at_ e m
      · rw [List.mem_singleton.mp m]
        exact hb
    · have z := putE_keys es k b
      unfold putE at z
      rw [if_neg c] at z
      rw [z, put1_new c]
      refine List.nodup_append.mpr ⟨h.nd, by simp, fun x hx y hy e => ?_⟩
      rw [List.mem_singleton.mp hy] at e
      exact c (e ▸ hx)
    · rw [List.length_append, List.length_singleton]
      exact hl
section
variable {P : Program} {w : World} {K : PySem.W.Frag} {mg : Str → Option Value} {base : Heap}
abbrev sUnlike : Stmt := top 26
theorem scUnlike : FnScope ["things", "found", "thing"] ["things"] (defScope sUnlike) := ⟨rfl, rfl, rfl, by decide +kernel, rfl, by decide +kernel, by decide +kernel⟩
def spUnlike (K : PySem.W.Frag) : Sp := fun vs H Q _ => ∃ (a : Addr) (xs : List V) (ks : List Two), vs = [.ref a] ∧ SqL K H a xs ∧ Paired (KeyT K H) xs ks ∧ ks.length ≤ 9765625 ∧
  ∀ H' p ys, Same H H' → H p = none → H' p = some (.lst ys) → Paired (KeyT K H') ys (once1 ks) → Q (.ref p) H'
theorem once1_more {ks : List Two} {i : Nat} {k : Two} (h : ks[i]? = some k) : once1 (ks.take (i + 1)) = put1 (once1 (ks.take i)) k := by
  rw [take_snoc h, once1_snoc]
theorem refs_keyed {K : PySem.W.Frag} {H : Hp} : ∀ (es : Ents), (∀ e ∈ es, SqT K H e.2 (twoV e.1)) → Paired (KeyT K H) (es.map fun e => V.ref e.2) (es.map (·.1))
  | [], _ => .nil
  | e :: r, h => .cons ⟨e.2, rfl, h e (List.mem_cons_self ..)⟩ (refs_keyed r fun x hx => h x (List.mem_cons_of_mem _ hx))
theorem ok_unlike {f : Addr} {fd : FuncData} (D : Def K mg "unlike" sUnlike ["things"] f fd) (zL : mg "list" = none) : Can P w K mg base "unlike" 1 ["things"] (spUnlike K) := by
  refine D.can (D.fn.ok scUnlike (fun vs H Q E h => ?_) (fun cdv A outer s H vs Q E hr h => ?_))
  · obtain ⟨a, xs, ks, rfl, _⟩ := h
    rfl
  · obtain ⟨a, xs, ks, rfl, hS, hK, hz, q⟩ := h
    have hu := hu_of hr
    refine ⟨_, pss_cons (ps_set (i := 1) scUnlike.nd rfl (.inl rfl) pe_dkNew)
      (pss_cons (ps_for PassesOwn.never rfl (pi_list (pv 0)) (pg_name (i := 2) scUnlike.nd rfl (.inl rfl)) (pss_one (ps_dkPut hu (pv 1) (pv 2) pe_bl rfl)))
      (pss_one (ps_ret (pe_callTy (call_list_dk rfl) (by rfl) zL (by decide +kernel) (pa_cons (pv 1) pa_nil))))), ?_⟩
    refine fun d hd => ?_
    have s1 := same_new (o := DkO P w d []) hd
    refine ⟨_, rfl, a, rfl, ⟨_, s1.seq hS⟩, for_list (K := K) (a := a) (xs := xs) (fun i σ H' => ∃ (es : Ents) (v : Option V), σ = [some (.ref a), some (.ref d), v] ∧ Same H H' ∧ H' d = some (DkO P w d es) ∧ Keyed K H' es ∧ es.map (·.1) = once1 (ks.take i))
      ⟨[], none, rfl, s1, upd_same, ⟨fun e he => (nomatch he), List.nodup_nil, Nat.zero_le _⟩, rfl⟩ (fun i σ H' _ ⟨_, _, _, s2, _⟩ => s2.seq hS) ?_ ?_⟩
    · rintro i y σ H' hi ⟨es, v, rfl, s2, hd2, kd, ek⟩
      obtain ⟨k, hk, t, rfl, ht⟩ := paired_at hK hi
      have hil : i < ks.length := (List.getElem?_eq_some_iff.mp hk).1
      have hel : es.length < sizeLine := by
        have z1 : es.length = (once1 (ks.take i)).length := by rw [← ek, List.length_map]
        have z2 := once1_len (ks.take i)
        rw [List.length_take] at z2
        exact Nat.lt_of_lt_of_le (show es.length < 9765626 by omega) (by show 9765626 ≤ sizeLine; decide)
      have ht2 := Same.tup s2 ht
      have tu := tups_dk (K := K) (es' := putE es k t) hd2
      refine ⟨_, rfl, _, rfl, d, t, es, k, rfl, rfl, rfl, hd2, kd, ht2, putE es k t, _, rfl, same_at s2 hd, upd_same, (keyed_put (H := H') kd ht2 hel).keep tu, ?_⟩
      rw [putE_keys, ek, once1_more hk]
    · rintro σ H' ⟨es, v, rfl, s2, hd2, kd, ek⟩
      have e : ks.take xs.length = ks := List.take_of_length_le (by rw [Paired.length hK]; exact Nat.le_refl _)
      rw [e] at ek
      refine ⟨_, rfl, d, es, rfl, hd2, kd, fun p hp => ?_⟩
      have s3 := same_new (o := .lst (es.map fun e => V.ref e.2)) hp
      refine q _ p _ (s2.trans s3) (s2.free hp) upd_same ?_
      rw [← ek]
      exact refs_keyed es fun x hx => Same.tup s3 (kd.at_ x hx)
end
end FC
/-! The walk, part 8: a lambda that is handed on from def to def, and called there. -/
namespace FC
open PySem PySem.Spec PyProof.Rows L2
open Kqz1 (Frac Figure)
open Kqz3 (Ring)
open LamX (Tabs TabS TabB ExtN CodeO)
open NdefX (NF NScope CellsAt Caps ncx startF slotAt)
/-! ### a later state -/
structure Later (outer : List Env) (s : Shared) (H : Hp) (outer' : List Env) (s' : Shared) (H' : Hp) : Prop where
  same : Same H H'
  keep : ∀ b o, s.heap.get? b = some o → H b = none → b ∉ frs outer → s'.heap.get? b = some o ∧ H' b = none ∧ b ∉ frs outer'
theorem Later.trans {o0 o1 o2 : List Env} {s0 s1 s2 : Shared} {H0 H1 H2 : Hp} (a : Later o0 s0 H0 o1 s1 H1) (b : Later o1 s1 H1 o2 s2 H2) : Later o0 s0 H0 o2 s2 H2 :=
  ⟨Same.trans a.same b.same, fun c o e n f => by
    obtain ⟨e1, n1, f1⟩ := a.keep c o e n f
    exact b.keep c o e1 n1 f1⟩
theorem Later.refl (outer : List Env) (s : Shared) (H : Hp) : Later outer s H outer s H := ⟨Same.refl H, fun _ _ e n f => ⟨e, n, f⟩⟩
/-- within a def's body: from its entry -/
theorem Inv.later {X : Cx} {pins : List (Addr × Obj)} {σ : L2.St} {H : Hp} {s : Shared} (I : Inv X pins σ H s) (hex : X.ex = []) (sm : Same X.H_0 H) : Later X.outer X.s_0 X.H_0 X.stack s H := by
  refine ⟨sm, fun b o e n f => ?_⟩
  have nx : b ∉ X.ex := by
    rw [hex]
    exact fun z => by cases z
  refine ⟨I.base.keep b o e n f nx, I.base.free b o e n nx, fun z => ?_⟩
  rcases List.mem_cons.mp (I.stkSub b z) with q | q
  · rw [q] at e
    exact absurd (Nat.lt_of_lt_of_le (Heap.lt_size e) I.ok.above) (Nat.lt_irrefl _)
  · exact f q
section
variable (P : Program) (w : World) (K : PySem.W.Frag) (mg : Str → Option Value) (base : Heap)
/-- from the state on, the function at f tells phi of each fraction -/
def IsSo (k : Nat) (f : Addr) (phi : Frac → Bool) (outer : List Env) (s : Shared) (H : Hp) : Prop :=
  ∀ outer' s' H', Later outer s H outer' s' H' → PySem.W.FnAt f s'.heap ∧ ∀ (A : Around) (t : Addr) (g : Frac) (Q : VK), Room k A → Env0 P w K mg base A outer' s' H' → FracT K H' t g → Good g → Within 282475249 g →
    (∀ H'', Same H' H'' → Q (.bl (phi g)) H'') → codeAny (model P w) A (.call (.ref f) ⟨[.ref t], []⟩) (CR CX0 outer' P w H' s' Q E0) s'
/-- a promise that hangs on the state -/
abbrev SpS := List Env → Shared → List V → Hp → VK → Prop
def RunS (k : Nat) (f : Addr) (sp : SpS) : Prop := ∀ (A : Around) (outer : List Env) (s : Shared) (H : Hp) (us : List Value) (vs : List V) (Q : VK), Room k A → Env0 P w K mg base A outer s H → Vals vs us → sp outer s vs H Q →
  codeAny (model P w) A (.call (.ref f) ⟨us, []⟩) (CR CX0 outer P w H s Q E0) s
structure CanS (x : Str) (k : Nat) (sp : SpS) : Prop where
  ex : ∃ f, mg x = some (.ref f) ∧ PySem.W.keepIn K (.ref f) = true ∧ RunS P w K mg base k f sp
end
section
variable {P : Program} {w : World} {K : PySem.W.Frag} {mg : Str → Option Value} {base : Heap}
theorem IsSo.later {k : Nat} {f : Addr} {phi : Frac → Bool} {outer outer' : List Env} {s s' : Shared} {H H' : Hp} (S : IsSo P w K mg base k f phi outer s H) (l : Later outer s H outer' s' H') : IsSo P w K mg base k f phi outer' s' H' :=
  fun o2 s2 H2 l2 => S o2 s2 H2 (l.trans l2)
theorem IsSo.mono {j k : Nat} {f : Addr} {phi : Frac → Bool} {outer : List Env} {s : Shared} {H : Hp} (S : IsSo P w K mg base j f phi outer s H) (h : j ≤ k) : IsSo P w K mg base k f phi outer s H :=
  fun o2 s2 H2 l2 => ⟨(S o2 s2 H2 l2).1, fun A t g Q hr => (S o2 s2 H2 l2).2 A t g Q (hr.mono h)⟩
/-- THE RULE for a def whose promise hangs on the state: its body -/
theorem runS_of {x qual : Str} {st : Stmt} {f : Addr} {fd : FuncData} {N ps : List Str} {k : Nat} {sp : SpS} (F : Fun K x qual st f fd) (b : Binds K fd ps []) (S : FnScope N ps (defScope st)) (len : ∀ o s vs H Q, sp o s vs H Q → vs.length = ps.length)
    (hbody : ∀ (cdv : Value) (A : Around) (outer : List Env) (s : Shared) (H : Hp) (vs : List V) (Q : VK), Room k (A.deeper (envOfC qual (defScope st) s.heap.objs.size f cdv)) → sp outer s vs H Q →
      ∃ t, PSs (cxOf CX0 P w K mg base N qual (defScope st) f cdv A outer s H E0).nox (defBody st) t ∧ t { nx := fun _ H' => Q .non H', rt := Q } (L2.start N vs) H) : RunS P w K mg base (k + 1) f sp := by
  intro A outer s H us vs Q hr e0 r h
  obtain ⟨oc, od, kV, doc, pm, an, cdv, ct, osl, rfl, lk, hcd⟩ := F.ex
  have hl := len _ _ _ _ _ h
  have kin : K.In s.heap := e0.mod.kin.keeps fun c o e => (e0.bs c o e).1
  have hb := b s us kin (by rw [List.append_nil, ← r.length]; exact hl)
  rw [List.append_nil] at hb
  refine LamX.run_ofS lk hcd S hr e0 hb r hl fun hr2 => ?_
  obtain ⟨t, ht, q⟩ := hbody cdv A outer s H vs Q hr2 h
  exact ⟨t, ht.nox, q⟩
end
section
variable {X : Cx} {x : Str} {k i : Nat} {p pos apos : Pos} {e o : Expr} {es : List Expr} {t : TA}
/-- what a call that ran leaves to the caller -/
theorem after_call {pins : List (Addr × Obj)} {σ : L2.St} {H : Hp} {s : Shared} {Q : VK} {f : Value} {us : List Value} (I : Inv X pins σ H s) (h : codeAny (model X.prog X.w) X.A (.call f ⟨us, []⟩) (CR CX0 X.stack X.prog X.w H s Q E0) s) :
    wpAny (model X.prog X.w) X.A (call f us) (EP X pins σ Q) X.xe s := by
  refine wpAny_call (codeAny_mono h fun r s' hq => ?_)
  cases r with
  | error e => exact False.elim hq
  | ok fl =>
    cases fl with
    | ret u => exact I.after hq
    | next => exact False.elim hq
    | brk => exact False.elim hq
    | cont => exact False.elim hq
/-- is_so(e): the i-th slot holds the function, which stood ready at the def's entry -/
def tSo (K : PySem.W.Frag) (H0 : Hp) (i : Nat) (f : Addr) (phi : Frac → Bool) (t : TA) : TE := fun σ H Q => σ[i]? = some (some (.ref f)) ∧ Same H0 H ∧ t σ H fun vs H1 => Same H0 H1 ∧ ∃ u g, vs = [.ref u] ∧ FracT K H1 u g ∧ Good g ∧ Within 282475249 g ∧
  ∀ H2, Same H1 H2 → Q (.bl (phi g)) H2
theorem pe_so {f : Addr} {phi : Frac → Bool} (S : IsSo X.prog X.w X.K X.mg X.base k f phi X.outer X.s_0 X.H_0) (hex : X.ex = []) (hr : Room k X.A) (hN : X.N[i]? = some x) (hv : Vis X.env.scope x) (ha : PA X (e :: es) t)
    (hdb : (x == ("__debug__" : Str)) = false := by decide) (hcd : (x == ("__classdict__" : Str)) = false := by decide)
    (he : starEach (e :: es) X.env = (false, eval e X.env) :: starEach es X.env := by rfl) (hpl : (backTo pos (starEach es X.env)).any (·.1) = false := by rfl) :
    PE X (.Call (.Name x p) (e :: es) [] pos) (tSo X.K X.H_0 i f phi t) := by
  refine ⟨fun pins s σ H Q I h => ?_⟩
  obtain ⟨hs, sm, ht⟩ := h
  refine wpAny_Call_Name_kw (thn ((pe_var (pos := p) hN hv hdb hcd).run pins s σ H (fun v H1 => v = .ref f ∧ H1 = H) I ⟨.ref f, hs, rfl, rfl⟩) fun u s1 hq => ?_)
  obtain ⟨v, H1, I1, r1, rfl, rfl⟩ := hq
  cases r1
  refine PySem.W.callWith_F (first := []) (S _ _ _ (Inv.later I1 hex sm)).1 (thn (ha.run pos pins s1 σ _ _ I1 ht) fun us s2 hq => ?_) he hpl
  obtain ⟨vs, H2, I2, r, sm2, u, g, rfl, hf, hg, hw, q⟩ := hq
  obtain ⟨u', rfl, ru⟩ := Vals.one r
  cases ru
  obtain ⟨fa, run⟩ := S _ _ _ (Inv.later I2 hex sm2)
  exact ⟨fa, after_call I2 (run X.A u g Q hr I2.env0 hf hg hw q)⟩
/-- x(e, ..), x a def whose promise hangs on the state -/
theorem pe_canS {sp : SpS} {spc : List V → Hp → VK → Prop} (C : CanS X.prog X.w X.K X.mg X.base x k sp) (hh : ∀ (pins : List (Addr × Obj)) (s : Shared) (σ : L2.St) (H : Hp) (vs : List V) (Q : VK), Inv X pins σ H s → spc vs H Q → sp X.stack s vs H Q)
    (hr : Room k X.A) (hg : Gl X x) (ha : PA X (e :: es) t) (hdb : (x == ("__debug__" : Str)) = false := by decide)
    (he : starEach (e :: es) X.env = (false, eval e X.env) :: starEach es X.env := by rfl) (hpl : (backTo pos (starEach es X.env)).any (·.1) = false := by rfl) :
    PE X (.Call (.Name x p) (e :: es) [] pos) (tCan (fun vs H Q _ => spc vs H Q) t) := by
  obtain ⟨f, hm, hk, R⟩ := C.ex
  refine ⟨fun pins s σ H Q I h => wpAny_Call_Name_kw (ld_glob I hg hm ?_ hdb)⟩
  refine PySem.W.callWith_K (h₀ := X.base) I.ok.mod.kin hk (thn (ha.run pos pins s σ H _ I h) fun us s1 hq => ?_) he hpl
  obtain ⟨vs, H1, I1, r, q⟩ := hq
  exact ⟨I1.kIn, after_call I1 (R X.A X.stack s1 H1 us vs Q hr I1.env0 r (hh _ _ _ _ _ _ I1 q))⟩
end
/-! ### the lambda itself -/
/-- its words: one parameter, what it captured, its code object -/
def lamF (qual : Str) (params : Arguments) (scope : Scope) (cl : List (Str × Addr)) (c : Addr) : NF := ⟨"<lambda>", qual, params, [], scope, cl, c⟩
section
variable {X : Cx} {pins : List (Addr × Obj)} {σ : L2.St} {H : Hp} {s : Shared} {N fr : List Str} {js : List Nat} {params : Arguments} {body : Expr} {scope : Scope} {cl : List (Str × Addr)} {f c' : Addr} {pm ctv : Value} {k : Nat} {phi : Frac → Bool} {qual x : Str}
/-- what the captured cells held they hold in each later state -/
theorem cells_later {outer outer' : List Env} {s0 s1 : Shared} {H0 H1 : Hp} {ws : List (Option V)} (C : CellsAt cl fr ws s0.heap H0) (nf : ∀ y c, cl.lookup y = some c → c ∉ frs outer) (l : Later outer s0 H0 outer' s1 H1) : CellsAt cl fr ws s1.heap H1 := by
  have keep : ∀ y c, cl.lookup y = some c → ∀ v, s0.heap.IsCell c v → s1.heap.IsCell c v := fun y c e v z => by
    obtain ⟨o, ho, hd⟩ := z
    exact ⟨o, (l.keep c o ho (C.all y c e).1 (nf y c e)).1, hd⟩
  refine ⟨C.len, fun y c e => ?_, C.inj, fun i y e => ?_⟩
  · obtain ⟨n, v, z⟩ := C.all y c e
    obtain ⟨o, ho, _⟩ := id z
    exact ⟨(l.keep c o ho n (nf y c e)).2.1, v, keep y c e v z⟩
  · obtain ⟨c, hc, hv⟩ := C.has i y e
    refine ⟨c, hc, fun v ev => ?_⟩
    obtain ⟨u, r, z⟩ := hv v ev
    exact ⟨u, r, keep y c hc _ z⟩
theorem isSo_lam (I : Inv X pins σ H s) (hfn : ∀ y, X.fn y = true) (S : NScope N [x] fr scope) (cp : Caps X cl fr js)
    (hf : s.heap.get? f = some (PySem.W.kla_obj "<lambda>" qual params body scope cl pm c' ctv)) (hn : H f = none) (hfr : f ∉ frs X.stack) (hco : H c' = some (CodeO c' qual))
    (hbind : ∀ u : Value, bindArgs (PySem.W.kla_fn "<lambda>" qual params body scope cl pm (.ref c') ctv) ⟨[u], []⟩ = pure [(x, u)])
    (hbody : ∀ (A : Around) (outer : List Env) (s1 : Shared) (H1 : Hp) (t : Addr) (g : Frac) (Q : VK), Room k (A.deeper (NdefX.envF (lamF qual params scope cl c') f s1.heap.objs.size)) → Same H H1 → FracT X.K H1 t g → Good g → Within 282475249 g → (∀ H2, Same H1 H2 → Q (.bl (phi g)) H2) →
      ∃ tb : TE, PE (ncx CX0 X.prog X.w X.K X.mg X.base N (lamF qual params scope cl c') f A outer s1 H1 E0).nox body tb ∧ tb (startF N [.ref t] (js.map (slotAt σ))) H1 Q) :
    IsSo X.prog X.w X.K X.mg X.base (k + 1) f phi X.stack s H := by
  intro outer' s1 H1 l
  have e1 := (l.keep f _ hf hn hfr).1
  refine ⟨⟨_, _, _, _, e1⟩, fun A t g Q hr e0 ht hg hw q => ?_⟩
  have C0 := NdefX.cells_of I cp
  have C1 : CellsAt cl fr (js.map (slotAt σ)) s1.heap H1 := cells_later C0 (fun y c e z => by
    have e2 := cp.sub y c e
    rcases List.mem_cons.mp (I.stkSub c z) with q | q
    · exact I.cne y c e2 q
    · obtain ⟨_, o, ho, _⟩ := I.ok.funs.mem q
      exact absurd (Nat.lt_of_lt_of_le (Heap.lt_size ho) (I.ok.cab y c (hfn y) e2)) (Nat.lt_irrefl _)) l
  have crec := NdefX.codeO_at e0.hok (l.same c' _ hco)
  refine PySem.W.kla_callFunE hr.depth e1 rfl S.co S.gen rfl crec ?_
  rw [hbind]
  refine wpAny_pure (wpAny_newFunctionEnv S.nocell (fun y hy => ?_) (fun h₁ hns hsb => ?_) S.kind)
  · rw [List.mem_singleton.mp hy]
    exact S.par x (List.mem_singleton.mpr rfl)
  · have lim : s1.heap.NoLimit := e0.mod.nolimit.keeps fun b o e => (e0.bs b o e).1
    refine ⟨lim.fresh _ hsb, ?_⟩
    show codeAny _ _ (.expr body (NdefX.envF (lamF qual params scope cl c') f s1.heap.objs.size)) _ _
    have kp : ∀ b o, s1.heap.get? b = some o → h₁.get? b = some o := fun b o e => hsb.extBut b o (Nat.ne_of_lt (Heap.lt_size e)) (Heap.get?_push_of_some _ e)
    obtain ⟨tb, hp, hq⟩ := hbody A outer' s1 H1 t g Q (hr.deeper _) l.same ht hg hw q
    have J : Inv (ncx CX0 X.prog X.w X.K X.mg X.base N (lamF qual params scope cl c') f A outer' s1 H1 E0) [] (startF N [.ref t] (js.map (slotAt σ))) H1 { s1 with heap := h₁, toks := s1.toks + 1 } :=
      NdefX.inv_startN (ps := [x]) (us := [.ref t]) S hr.hd e0 rfl (.cons rfl .nil) C1 hns kp
    refine PySem.W.kla_codeExpr (wpAny_mono (hp.nox.run [] _ _ H1 Q J hq) (fun v s2 hv => ?_) fun e s2 he => he)
    obtain ⟨w', H', J', rv, z⟩ := hv
    exact ⟨w', H', J'.os, J'.bare, J'.base, J'.hok, rv, z⟩
end
/-! ### o.m(lambda ..) -/
/-- the reading: T, the tables of code objects; spc: what the method asks, once the function stands at f -/
def tLamM (C : Addr) (m : Str) (T : List (Addr × Str)) (ta : TE) (R : Addr → L2.St → Hp → VK → Prop) : TE := fun σ H Q => ta σ H fun v H1 => ∃ a dx fs, v = .ref a ∧ H1 a = some (.ins C dx fs) ∧ fs.lookup m = none ∧ Tabs T H1 ∧
  ∀ H2, ExtN H1 H2 → Tabs T H2 → R a σ H2 Q
theorem pe_lamM {X : Cx} {C : Addr} {m : Str} {fm : Addr} {k : Nat} {sp : SpS} {T : List (Addr × Str)} {c P : Addr} {params : Arguments} {body : Expr} {scope : Scope} {o : Expr} {ta : TE} {R : Addr → L2.St → Hp → VK → Prop} {apos lpos pos : Pos} {pl : Sem Bool}
    (ho : PE X o ta) (cC : Cls X.K C) (hm : Meth X.K C m fm) (run : RunS X.prog X.w X.K X.mg X.base k fm sp) (hr : Room k X.A) (TB : TabB X.base X.mg c P) (hcode : X.env.code = .ref c) (hmT : (P, X.env.qual ++ "<lambda>") ∈ T) (hu : ∀ q ∈ T, q.1 = P → q.2 = X.env.qual ++ "<lambda>")
    (hdef : defaultsOf params X.env = ([], [])) (hfree : ∀ y ∈ scope.names, y.2 = .free → X.env.scope.names.lookup y.1 = some .cell ∨ X.env.scope.names.lookup y.1 = some .free)
    (hh : ∀ (pins : List (Addr × Obj)) (s : Shared) (σ : L2.St) (H : Hp) (a f c' : Addr) (pm ctv : Value) (Q : VK), Inv X pins σ H s → s.heap.get? f = some (PySem.W.kla_obj "<lambda>" (X.env.qual ++ "<lambda>") params body scope (cloFrom X.env.cells scope.names []) pm c' ctv) → H f = none → f ∉ frs X.stack →
      H c' = some (CodeO c' (X.env.qual ++ "<lambda>")) → R a σ H Q → sp X.stack s [.ref a, .ref f] H Q)
    (hst : starEach [Expr.Lambda params body scope lpos] X.env = (false, eval (.Lambda params body scope lpos) X.env) :: starEach [] X.env := by rfl) (hpl : (backTo pos (starEach [] X.env)).any (·.1) = false := by rfl)
    (ht : eval (.Call (.Attribute o m apos) [.Lambda params body scope lpos] [] pos) X.env = (do
      let ov ← eval o X.env
      standAt apos.atName
      let (f, first) ← holding [ov] (getMethod ov m pl)
      callWith pos f first (backTo pos (starEach [.Lambda params body scope lpos] X.env)) (backToKw pos (keywordEach [] X.env))) := by rfl) :
    PE X (.Call (.Attribute o m apos) [.Lambda params body scope lpos] [] pos) (tLamM C m T ta R) := by
  refine ⟨fun pins s σ H Q I h => ?_⟩
  refine PySem.W.methodCall_KW (pl := pl) (thn (ho.run pins s σ H _ I h) fun u s1 hq => ?_) ht
  obtain ⟨v, H1, I1, rv, a, dx, fs, rfl, ea, lm, hT, q⟩ := hq
  cases rv
  refine getmeth_ok I1 ea cC hm lm ?_
  refine PySem.W.callWith_K (first := [.ref a]) (h₀ := X.base) I1.ok.mod.kin hm.kp ?_ hst hpl
  rw [hst]
  show wpAny _ _ (spliced ((false, eval (.Lambda params body scope lpos) X.env) :: backTo pos (starEach [] X.env))) _ _ s1
  have hfree' : ∀ y ∈ scope.names, y.2 = .free → ∃ c, X.env.cells.lookup y.1 = some c := fun y hy e => (hfree y hy e).elim (fun z => I1.ok.has _ (.inl z)) fun z => I1.ok.has _ (.inr z)
  refine Calls.spliced_cons (LamX.lam_make2 I1 TB hcode hmT hu hT hdef hfree' fun f c' pm ctv H2 s2 I2 eN T2 hf hn hfr hco => ?_)
  refine Calls.spliced_nil ⟨I2.kIn, ?_⟩
  exact after_call I2 (run X.A X.stack s2 H2 [.ref a, .ref f] [.ref a, .ref f] Q hr I2.env0 (.cons rfl (.cons rfl .nil)) (hh pins s2 σ H2 a f c' pm ctv Q I2 hf hn hfr hco (q H2 eN T2)))
end FC
/-! The walk, part 9: the fewest changes; a drawing's own methods. -/
namespace FC
open PySem PySem.Spec PyProof.Rows L2
open Kqz1 (Frac Figure)
open Kqz3 (Ring)
open Kqz6 (Desk)
theorem waysF_at {l : List Figure} {t i : Nat} {z : List Nat × Frac} (h : (waysF l t)[i]? = some z) : Fits l z.1 ∧ z.2 = Kqz1.comes (Kqz6.made l z.1) := by
  unfold waysF at h
  obtain ⟨w, hw, e⟩ := List.mem_map.mp (List.mem_of_getElem? h)
  rw [← e]
  exact ⟨which_fits l t w hw, rfl⟩
theorem waysF_good {l : List Figure} {t i : Nat} {z : List Nat × Frac} (h : (waysF l t)[i]? = some z) (hl : l.length ≤ 10) (g : FigsOk l) : Good z.2 ∧ Within 282475249 z.2 := by
  obtain ⟨f, e⟩ := waysF_at h
  rw [e]
  exact ⟨good_comes _, within_made hl g f⟩
section
variable {P : Program} {w : World} {K : PySem.W.Frag} {mg : Str → Option Value} {base : Heap}
/-! ### fewest -/
abbrev sFewest : Stmt := top 24
theorem scFewest : FnScope ["figures", "is_so", "changes", "way", "fraction"] ["figures", "is_so"] (defScope sFewest) := ⟨rfl, rfl, rfl, by decide +kernel, rfl, by decide +kernel, by decide +kernel⟩
def spFewest (P : Program) (w : World) (K : PySem.W.Frag) (mg : Str → Option Value) (base : Heap) : SpS := fun outer s vs H Q => ∃ (a f : Addr) (l : List Figure) (phi : Frac → Bool), vs = [.ref a, .ref f] ∧ FigsAt K H a l ∧ FigsOk l ∧ l.length ≤ 10 ∧ IsSo P w K mg base 4 f phi outer s H ∧
  (Kqz6.fewest l phi = none → ∀ H', Same H H' → Q .non H') ∧
  (∀ t v, Kqz6.fewest l phi = some (t, v) → ∀ H' r u, Same H H' → SqT K H' r [.int (t : Int), .ref u] → SqT K H' u (wayV v) → Q (.ref r) H')
theorem run_fewest {f : Addr} {fd : FuncData} {t4 : Tok} (D : Def K mg "fewest" sFewest ["figures", "is_so"] f fd) (zR : mg "range" = none) (mC : mg "MOST_CHANGES" = some (.int 4 t4)) (CW : Can P w K mg base "ways_of" 4 ["figures", "changes"] (spWays K)) :
    CanS P w K mg base "fewest" 5 (spFewest P w K mg base) := by
  refine ⟨f, D.g, D.fn.kp, runS_of D.fn D.b scFewest (fun o s vs H Q h => ?_) (fun cdv A outer s H vs Q hr h => ?_)⟩
  · obtain ⟨a, f, l, phi, rfl, _⟩ := h
    rfl
  · obtain ⟨a, g, l, phi, rfl, hl, hg, hlen, hS, qN, qS⟩ := h
    refine ⟨_, pss_cons (ps_for PassesOwn.never rfl (pi_range1 rfl zR (pa_cons (pe_op op_add (pe_glob (v := .int 4) rfl mC ⟨_, rfl⟩) pe_int) pa_nil)) (pg_name (i := 2) scFewest.nd rfl (.inl rfl))
        (pss_one (ps_for PassesOwn.never rfl (pi_list (pe_can CW hr rfl (pa_cons (pv 0) (pa_cons (pv 2) pa_nil)))) (pg_tup rfl (pgs_cons (pg_name (i := 3) scFewest.nd rfl (.inl rfl)) (pgs_cons (pg_name (i := 4) scFewest.nd rfl (.inl rfl)) pgs_nil)))
          (pss_one (ps_if (pt_val (pe_so (i := 1) hS rfl hr rfl (.inl rfl) (pa_cons (pv 4) pa_nil))) (pss_one (ps_ret (pe_tup (pa_cons (pv 2) (pa_cons (pv 3) pa_nil))))) pss_nil)))))
      (pss_one (ps_ret pe_non)), ?_⟩
    refine ⟨_, _, rfl, rfl, 5, rfl, by decide, by decide, ?_⟩
    refine for_range (lo := 0) (n := 5) (fun i σ H' => ∃ v2 v3 v4 : Option V, σ = [some (.ref a), some (.ref g), v2, v3, v4] ∧ Same H H' ∧ ∀ t, t < i → Kqz6.firstOf l t phi = none)
      ⟨none, none, none, rfl, Same.refl H, fun t ht => absurd ht (Nat.not_lt_zero t)⟩ ?_ ?_
    · rintro i σ H' hi ⟨v2, v3, v4, rfl, s1, hb⟩
      have ei : (0 : Int) + (i : Int) = (i : Int) := by omega
      rw [ei]
      refine ⟨_, rfl, _, rfl, a, l, i, rfl, s1.seq hl, hg, hlen, by omega, fun H2 b ys s2 hbn hb2 hP => ?_⟩
      refine ⟨b, rfl, ⟨_, SqL.of hb2⟩, for_list (K := K) (a := b) (xs := ys) (fun j σ H3 => ∃ v3 v4 : Option V, σ = [some (.ref a), some (.ref g), some (.int (i : Int)), v3, v4] ∧ Same H2 H3 ∧ ∀ j' z, j' < j → (waysF l i)[j']? = some z → phi z.2 = false)
        ⟨v3, v4, rfl, Same.refl H2, fun j' z hj => absurd hj (Nat.not_lt_zero j')⟩ (fun j σ H3 _ ⟨_, _, _, s3, _⟩ => s3.seq (SqL.of hb2)) ?_ ?_⟩
      · rintro j y σ H3 hj ⟨v3, v4, rfl, s3, hb3⟩
        obtain ⟨z, hz, hzp⟩ := paired_at hP hj
        obtain ⟨t, u, uf, rfl, ht, hway, hfr⟩ := hzp.keep (Same.tups s3)
        obtain ⟨gz, wz⟩ := waysF_good hz hlen hg
        have s13 := (s1.trans s2).trans s3
        refine ⟨t, _, rfl, ht, rfl, _, _, rfl, _, _, rfl, rfl, ?_⟩
        refine ⟨rfl, s13, _, rfl, s13, uf, z.2, rfl, hfr, gz, wz, fun H4 s4 => ⟨_, rfl, ite_b (fun c => ?_) (fun c => ?_)⟩⟩
        · refine ⟨_, rfl, _, rfl, by show 2 ≤ sizeLine; decide, fun r hr2 => ?_⟩
          have s5 := same_new (o := .tup [.int (i : Int), .ref u]) hr2
          have ef : Kqz6.firstOf l i phi = some z.1 := firstOf_some (w := z.1) (f := z.2) hz c (fun j' z' hj' e => hb3 j' z' hj' e)
          exact qS i z.1 (fewest_some hi ef hb) _ r u ((s13.trans s4).trans s5) (SqT.of upd_same) (Same.tup (s4.trans s5) hway)
        · refine ⟨_, _, rfl, s3.trans s4, fun j' z' hj' e => ?_⟩
          by_cases ej : j' = j
          · rw [ej, hz] at e
            rw [← Option.some.inj e]
            exact c
          · exact hb3 j' z' (by omega) e
      · rintro σ H3 ⟨v3, v4, rfl, s3, hb3⟩
        refine ⟨_, _, _, rfl, (s1.trans s2).trans s3, fun t ht => ?_⟩
        by_cases et : t = i
        · rw [et]
          refine firstOf_none fun z hz => ?_
          obtain ⟨j', hj'⟩ := List.mem_iff_getElem?.mp hz
          refine hb3 j' z ?_ hj'
          rw [Paired.length hP]
          exact (List.getElem?_eq_some_iff.mp hj').1
        · exact hb t (by omega)
    · rintro σ H' ⟨v2, v3, v4, rfl, s1, hb⟩
      exact qN (fewest_none hb) H' s1
end
/-! ### a drawing -/
def dF (lf : Addr) (kv : V) : List (Str × V) := [("figures", V.ref lf), ("kept_way", kv)]
theorem at_first {k : Str} {v : V} {r : List (Str × V)} : List.lookup k ((k, v) :: r) = some v := by
  have e : (k == k) = true := beq_self_eq_true k
  simp only [List.lookup, e]
theorem at_next {k g : Str} {v : V} {r : List (Str × V)} (h : (k == g) = false) : List.lookup k ((g, v) :: r) = List.lookup k r := by
  simp only [List.lookup, h]
theorem dF_figs (lf : Addr) (kv : V) : (dF lf kv).lookup ("figures" : Str) = some (.ref lf) := at_first
theorem dF_kept (lf : Addr) (kv : V) : (dF lf kv).lookup ("kept_way" : Str) = some kv := (at_next (by decide +kernel)).trans at_first
theorem dF_no (lf : Addr) (kv : V) {m : Str} (h1 : (m == ("figures" : Str)) = false) (h2 : (m == ("kept_way" : Str)) = false) : (dF lf kv).lookup m = none := (at_next h1).trans ((at_next h2).trans rfl)
theorem dF_putF (lf g : Addr) (kv : V) : putF "figures" (.ref g) (dF lf kv) = dF g kv := by
  show (if ("figures" : Str) = "figures" then (("figures" : Str), V.ref g) :: [(("kept_way" : Str), kv)] else _) = _
  rw [if_pos rfl]
  rfl
theorem fk_ne : ¬ ("figures" : Str) = "kept_way" := by decide +kernel
theorem dF_putK (lf : Addr) (kv kw : V) : putF "kept_way" kw (dF lf kv) = dF lf kw := by
  show (if ("figures" : Str) = "kept_way" then _ else (("figures" : Str), V.ref lf) :: (if ("kept_way" : Str) = "kept_way" then [(("kept_way" : Str), kw)] else _)) = _
  rw [if_neg fk_ne, if_pos rfl]
  rfl
theorem dF_new (lf : Addr) : putF "kept_way" .non (putF "figures" (.ref lf) []) = dF lf .non := by
  show (if ("figures" : Str) = "kept_way" then _ else (("figures" : Str), V.ref lf) :: [(("kept_way" : Str), V.non)]) = _
  rw [if_neg fk_ne]
  rfl
/-- the way that is kept, or None -/
def KeptV (K : PySem.W.Frag) (H : Hp) (kv : V) (kw : Option (List Nat)) : Prop := match kw with
  | none => kv = .non
  | some w => ∃ t, kv = .ref t ∧ SqT K H t (wayV w)
theorem KeptV.keep {K : PySem.W.Frag} {H H' : Hp} {kv : V} {kw : Option (List Nat)} (h : KeptV K H kv kw) (e : Tups K H H') : KeptV K H' kv kw := by
  cases kw with
  | none => exact h
  | some w =>
    obtain ⟨t, h1, h2⟩ := h
    exact ⟨t, h1, e _ _ h2⟩
/-- the drawing d stands at a -/
def DrawAt (K : PySem.W.Frag) (C : Addr) (H : Hp) (a : Addr) (d : Desk) : Prop := DeskOk d ∧ ∃ dx lf kv, H a = some (.ins C dx (dF lf kv)) ∧ H lf = some (.lst (codes d.l)) ∧ KeptV K H kv d.last
theorem DrawAt.keep {K : PySem.W.Frag} {C : Addr} {H H' : Hp} {a : Addr} {d : Desk} (h : DrawAt K C H a d) (e : Same H H') : DrawAt K C H' a d := by
  obtain ⟨ok, dx, lf, kv, h1, h2, h3⟩ := h
  exact ⟨ok, dx, lf, kv, e _ _ h1, e _ _ h2, h3.keep (Same.tups e)⟩
/-- all but the drawing at a is as it was -/
def But (H H' : Hp) (a : Addr) : Prop := ∀ b o, H b = some o → b ≠ a → H' b = some o
theorem But.of {H H' : Hp} {a : Addr} (s : Same H H') : But H H' a := fun b o e _ => s b o e
theorem But.trans {H H1 H2 : Hp} {a : Addr} (x : But H H1 a) (y : But H1 H2 a) : But H H2 a := fun b o e n => y b o (x b o e n) n
theorem But.upd {H : Hp} {a : Addr} {o : HO} : But H (upd H a o) a := fun b x e n => by
  rw [upd_ne n]
  exact e
theorem But.tups {K : PySem.W.Frag} {H H' : Hp} {a : Addr} {C dx : Addr} {fs : List (Str × V)} (x : But H H' a) (h : H a = some (.ins C dx fs)) : Tups K H H' := fun t xs q => by
  rcases q with (q | ⟨o, q⟩) | q
  · exact .inl (.inl (x _ _ q (ne_of q h (fun z => by cases z))))
  · exact .inl (.inr ⟨o, x _ _ q (ne_of q h (fun z => by cases z))⟩)
  · exact .inr q
theorem dF_inj {lf lf2 : Addr} {kv kv2 : V} (h : dF lf kv = dF lf2 kv2) : lf = lf2 ∧ kv = kv2 := by
  unfold dF at h
  obtain ⟨h1, h2⟩ := List.cons.inj h
  obtain ⟨h3, _⟩ := List.cons.inj h2
  exact ⟨V.ref.inj (congrArg Prod.snd h1), congrArg Prod.snd h3⟩
theorem ins_inj {C dx dx2 : Addr} {lf lf2 : Addr} {kv kv2 : V} (h : (some (.ins C dx (dF lf kv)) : Option HO) = some (.ins C dx2 (dF lf2 kv2))) : lf = lf2 := by
  have z := Option.some.inj h
  injection z with _ _ z3
  exact (dF_inj z3).1
/-- no list stands at p -/
def NoL (H : Hp) (p : Addr) : Prop := ∀ xs, H p ≠ some (.lst xs)
theorem NoL.of {H : Hp} {p : Addr} (h : H p = none) : NoL H p := fun xs z => by
  rw [h] at z
  cases z
theorem But.free {H H' : Hp} {a p : Addr} {o : HO} (b : But H H' a) (ha : H' a = some o) (hp : H' p = none) : H p = none := by
  cases e : H p with
  | none => rfl
  | some u =>
    by_cases c : p = a
    · rw [c, ha] at hp
      cases hp
    · rw [b p u e c] at hp
      cases hp
/-- the drawing's list is new, or the one that it was -/
def OwnL (C : Addr) (H H' : Hp) (a : Addr) : Prop := ∀ lf dx kv, H' a = some (.ins C dx (dF lf kv)) → H lf = none ∨ ∃ dx0 kv0, H a = some (.ins C dx0 (dF lf kv0))
theorem OwnL.new {C : Addr} {H H' : Hp} {a b dx : Addr} {kv : V} (n : H b = none) (h : H' a = some (.ins C dx (dF b kv))) : OwnL C H H' a := fun lf dx2 kv2 e => by
  rw [h] at e
  rw [← ins_inj e]
  exact .inl n
theorem OwnL.old {C : Addr} {H H' : Hp} {a lf dx dx0 : Addr} {kv kv0 : V} (n : H a = some (.ins C dx0 (dF lf kv0))) (h : H' a = some (.ins C dx (dF lf kv))) : OwnL C H H' a := fun lf2 dx2 kv2 e => by
  rw [h] at e
  rw [← ins_inj e]
  exact .inr ⟨dx0, kv0, n⟩
theorem OwnL.pre {C : Addr} {H H1 H2 : Hp} {a lf dx : Addr} {kv : V} (o : OwnL C H1 H2 a) (s : Same H H1) (h : H a = some (.ins C dx (dF lf kv))) : OwnL C H H2 a := fun lf2 dx2 kv2 e => by
  rcases o lf2 dx2 kv2 e with n | ⟨dx0, kv0, n⟩
  · exact .inl (s.free n)
  · rw [s _ _ h] at n
    rw [← ins_inj n]
    exact .inr ⟨dx, kv, h⟩
/-- the drawing's list is the one that it was -/
def KeepL (C : Addr) (H H' : Hp) (a : Addr) : Prop := ∀ lf dx kv, H a = some (.ins C dx (dF lf kv)) → ∃ dx' kv', H' a = some (.ins C dx' (dF lf kv'))
theorem KeepL.of {C : Addr} {H H' : Hp} {a lf dx dx0 : Addr} {kv kv0 : V} (n : H a = some (.ins C dx0 (dF lf kv0))) (h : H' a = some (.ins C dx (dF lf kv))) : KeepL C H H' a := fun lf2 dx2 kv2 e => by
  rw [n] at e
  rw [← ins_inj e]
  exact ⟨dx, kv, h⟩
/-- what is known of the class -/
structure Cl (K : PySem.W.Frag) (C : Addr) : Prop where
  cl : Cls K C
  nF : NoAttr K C "figures"
  nK : NoAttr K C "kept_way"
/-- a method of the class keeps its promise -/
structure CanM (P : Program) (w : World) (K : PySem.W.Frag) (mg : Str → Option Value) (base : Heap) (C : Addr) (m : Str) (k : Nat) (sp : Sp) : Prop where
  ex : ∃ f fd ps, FnOk P w K mg base CX0 k f fd ps sp ∧ Meth K C m f ∧ Binds K fd ps []
/-- a method, as it stands behind the top -/
structure MDef (K : PySem.W.Frag) (C : Addr) (m q : Str) (st : Stmt) (ps : List Str) (f : Addr) (fd : FuncData) : Prop where
  fn : Fun K m q st f fd
  me : Meth K C m f
  b : Binds K fd ps []
theorem MDef.can {P : Program} {w : World} {K : PySem.W.Frag} {mg : Str → Option Value} {base : Heap} {C : Addr} {m q : Str} {st : Stmt} {k : Nat} {ps : List Str} {sp : Sp} {f : Addr} {fd : FuncData} (D : MDef K C m q st ps f fd) (F : FnOk P w K mg base CX0 k f fd ps sp) : CanM P w K mg base C m k sp :=
  ⟨f, fd, ps, F, D.me, D.b⟩
def tM (C : Addr) (m : Str) (sp : Sp) (ta : TE) (t : TA) : TE := fun σ H Q => ta σ H fun x H1 => ∃ a dx fs, x = .ref a ∧ H1 a = some (.ins C dx fs) ∧ fs.lookup m = none ∧ t σ H1 fun vs H2 => sp (x :: vs) H2 Q E0
section
variable {X : Cx} {C : Addr} {m : Str} {k : Nat} {sp : Sp} {e o : Expr} {es : List Expr} {ta : TE} {t : TA} {pos apos : Pos} {pl : Sem Bool}
theorem tM_eq : tMeth C m sp [] E0 ta t = tM C m sp ta t := by
  funext σ H Q
  unfold tMeth tM
  simp only [List.append_nil]
theorem pe_canM (M : CanM X.prog X.w X.K X.mg X.base C m k sp) (c : Cls X.K C) (hr : Room k X.A) (he : PE X o ta) (ha : PA X (e :: es) t)
    (hst : starEach (e :: es) X.env = (false, eval e X.env) :: starEach es X.env := by rfl) (hpl : (backTo pos (starEach es X.env)).any (·.1) = false := by rfl)
    (ht : eval (.Call (.Attribute o m apos) (e :: es) [] pos) X.env = (do
      let ov ← eval o X.env
      standAt apos.atName
      let (f, first) ← holding [ov] (getMethod ov m pl)
      callWith pos f first (backTo pos (starEach (e :: es) X.env)) (backToKw pos (keywordEach [] X.env))) := by rfl) :
    PE X (.Call (.Attribute o m apos) (e :: es) [] pos) (tM C m sp ta t) := by
  obtain ⟨f, fd, ps, F, hm, hb⟩ := M.ex
  have z := pe_meth (pl := pl) he c hm F hr hb .nil pass0 ha hst hpl ht
  rw [tM_eq] at z
  exact z
theorem pe_canM0 (M : CanM X.prog X.w X.K X.mg X.base C m k sp) (c : Cls X.K C) (hr : Room k X.A) (he : PE X o ta)
    (ht : eval (.Call (.Attribute o m apos) [] [] pos) X.env = (do
      let ov ← eval o X.env
      standAt apos.atName
      let (f, first) ← holding [ov] (getMethod ov m pl)
      callWith pos f first (backTo pos (starEach [] X.env)) (backToKw pos (keywordEach [] X.env))) := by rfl) :
    PE X (.Call (.Attribute o m apos) [] [] pos) (tM C m sp ta tNil) := by
  obtain ⟨f, fd, ps, F, hm, hb⟩ := M.ex
  have z := pe_meth0 (pl := pl) he c hm F hr hb .nil pass0 ht
  rw [tM_eq] at z
  exact z
end
abbrev sClass : Stmt := top 56
abbrev sInit : Stmt := inClass sClass 0
abbrev sFraction : Stmt := inClass sClass 1
abbrev sHalf : Stmt := inClass sClass 2
abbrev sAnew : Stmt := inClass sClass 3
abbrev sLed : Stmt := inClass sClass 4
abbrev sDone : Stmt := inClass sClass 5
theorem scInit : FnScope ["self"] ["self"] (defScope sInit) := ⟨rfl, rfl, rfl, by decide +kernel, rfl, by decide +kernel, by decide +kernel⟩
theorem scFraction : FnScope ["self"] ["self"] (defScope sFraction) := ⟨rfl, rfl, rfl, by decide +kernel, rfl, by decide +kernel, by decide +kernel⟩
theorem scHalf : FnScope ["self", "figure"] ["self"] (defScope sHalf) := ⟨rfl, rfl, rfl, by decide +kernel, rfl, by decide +kernel, by decide +kernel⟩
theorem scAnew : FnScope ["self", "figures"] ["self", "figures"] (defScope sAnew) := ⟨rfl, rfl, rfl, by decide +kernel, rfl, by decide +kernel, by decide +kernel⟩
theorem scLed : FnScope ["self", "is_so", "found", "changes", "way"] ["self", "is_so"] (defScope sLed) := ⟨rfl, rfl, rfl, by decide +kernel, rfl, by decide +kernel, by decide +kernel⟩
theorem scDone : FnScope ["self", "way"] ["self", "way"] (defScope sDone) := ⟨rfl, rfl, rfl, by decide +kernel, rfl, by decide +kernel, by decide +kernel⟩
end FC
/-! The walk, part 10: the methods of a drawing. -/
namespace FC
open PySem PySem.Spec PyProof.Rows L2
open Kqz1 (Frac Figure)
open Kqz3 (Ring)
open Kqz6 (Desk)
theorem desk_new : DeskOk ⟨[], none⟩ := desk_fresh (Nat.zero_le _) fun x hx => nomatch hx
/-- 0, then a fraction -/
def ansF (f : Frac) : List V := [.int 0, .int f.p, .int (f.q : Int)]
section
variable {P : Program} {w : World} {K : PySem.W.Frag} {mg : Str → Option Value} {base : Heap} {C : Addr}
def spInit (K : PySem.W.Frag) (C : Addr) : Sp := fun vs H Q _ => ∃ p dx, vs = [.ref p] ∧ H p = some (.ins C dx []) ∧ ∀ H', DrawAt K C H' p ⟨[], none⟩ → But H H' p → OwnL C H H' p → Q .non H'
theorem ok_init {f : Addr} {fd : FuncData} (F : Fun K "__init__" "Drawing.__init__" sInit f fd) (T : Cl K C) : FnOk P w K mg base CX0 1 f fd ["self"] (spInit K C) := by
  refine F.ok scInit (fun vs H Q E h => ?_) (fun cdv A outer s H vs Q E hr h => ?_)
  · obtain ⟨p, dx, rfl, _⟩ := h
    rfl
  · obtain ⟨p, dx, rfl, hp, q⟩ := h
    refine ⟨_, pss_cons (ps_fld (pv 0) (pe_lst pa_nil) rfl) (pss_one (ps_fld (pv 0) pe_non rfl)), ?_⟩
    refine ⟨Nat.zero_le _, fun l hl => ?_⟩
    have s1 := same_new (o := .lst []) hl
    have hp1 := s1 _ _ hp
    have nlp : l ≠ p := (ne_of_none hp hl).symm
    refine ⟨_, rfl, p, C, dx, [], rfl, hp1, T.cl, T.nF, (by show 0 < 1000; decide), ?_⟩
    refine ⟨_, rfl, p, C, dx, _, rfl, upd_same, T.cl, T.nK, (by show 1 < 1000; decide), ?_⟩
    have hl2 : upd (upd (upd H l (.lst [])) p (.ins C dx (putF "figures" (.ref l) []))) p (.ins C dx (putF "kept_way" .non (putF "figures" (.ref l) []))) p = some (.ins C dx (dF l .non)) := by rw [upd_same, dF_new]
    refine q _ ⟨desk_new, dx, l, .non, hl2, ?_, rfl⟩ ((But.of s1).trans (But.upd.trans But.upd)) (OwnL.new hl hl2)
    · rw [upd_ne nlp, upd_ne nlp, upd_same]
      rfl
def spFraction (K : PySem.W.Frag) (C : Addr) : Sp := fun vs H Q _ => ∃ a d, vs = [.ref a] ∧ DrawAt K C H a d ∧ ∀ H' r, Same H H' → FracT K H' r (Kqz1.comes d.l) → Q (.ref r) H'
theorem ok_fraction {f : Addr} {fd : FuncData} (D : MDef K C "fraction" "Drawing.fraction" sFraction ["self"] f fd) (T : Cl K C) (CC : Can P w K mg base "comes_to" 2 ["figures"] (spComes K)) : CanM P w K mg base C "fraction" 3 (spFraction K C) := by
  refine D.can (D.fn.ok scFraction (fun vs H Q E h => ?_) (fun cdv A outer s H vs Q E hr h => ?_))
  · obtain ⟨a, d, rfl, _⟩ := h
    rfl
  · obtain ⟨a, d, rfl, ⟨ok, dx, lf, kv, h1, h2, h3⟩, q⟩ := h
    refine ⟨_, pss_one (ps_ret (pe_can CC hr rfl (pa_cons (pe_fld (pv 0) rfl) pa_nil))), ?_⟩
    exact ⟨_, rfl, a, C, dx, _, _, rfl, h1, T.cl, T.nF, dF_figs _ _, lf, d.l, rfl, SqL.of h2, ok.figs, q⟩
def spHalf (K : PySem.W.Frag) (C : Addr) : Sp := fun vs H Q _ => ∃ a d, vs = [.ref a] ∧ DrawAt K C H a d ∧ ∀ H', Same H H' → Q (.int (Kqz1.twists d.l : Nat)) H'
theorem ok_half {f : Addr} {fd : FuncData} (D : MDef K C "half_twists" "Drawing.half_twists" sHalf ["self"] f fd) (T : Cl K C) (zA : mg "abs" = none) (zS : mg "sum" = none) : CanM P w K mg base C "half_twists" 1 (spHalf K C) := by
  refine D.can (D.fn.ok scHalf (fun vs H Q E h => ?_) (fun cdv A outer s H vs Q E hr h => ?_))
  · obtain ⟨a, d, rfl, _⟩ := h
    rfl
  · obtain ⟨a, d, rfl, ⟨ok, dx, lf, kv, h1, h2, h3⟩, q⟩ := h
    refine ⟨_, pss_one (ps_ret (pe_callB (cr_sum rfl) (by rfl) zS (by decide +kernel) (pa_cons (pe_lc (own := [("figure", 1)]) (g := gName 1) (tt := tYes) rfl scHalf.nd (pi_list (pe_fld (pv 0) rfl)) (blkOk_by (N := ["self", "figure"]) (sc := defScope sHalf) (by decide +kernel))
        (fun _ _ _ _ _ => pg_name (i := 1) scHalf.nd rfl (.inl rfl) (.inr rfl)) (fun _ _ _ _ _ => pts_nil) (fun _ _ _ _ _ => pe_callB call_abs (by rfl) zA (by decide +kernel) (pa_cons (pv 1) pa_nil))) pa_nil))), ?_⟩
    refine ⟨_, rfl, a, C, dx, _, _, rfl, h1, T.cl, T.nF, dF_figs _ _, lf, rfl, ⟨_, SqL.of h2⟩, fun D0 hD => ?_⟩
    have sD := same_new (o := .lst []) hD
    refine lc_list (K := K) (a := lf) (xs := codes d.l) (fun i H2 => Same H H2 ∧ H2 D0 = some (.lst (((d.l.take i).map fun x => ((Kqz6.code x).natAbs : Int)).map V.int)))
      ⟨sD, upd_same⟩ (fun i H2 _ ⟨s2, _⟩ => s2.seq (SqL.of h2)) ?_ ?_
    · rintro i y H2 hi ⟨s2, hD2⟩
      obtain ⟨x, hx, rfl⟩ := codes_at hi
      refine ⟨rfl, _, rfl, _, rfl, ?_⟩
      rw [abs_if]
      have hl : i < d.l.length := (List.getElem?_eq_some_iff.mp hx).1
      have hz := ok.len
      refine ⟨_, hD2, ?_, same_at s2 hD, ?_⟩
      · rw [List.length_map, List.length_map, List.length_take]
        exact small1000 (by omega)
      · rw [upd_same, take_snoc hx, List.map_append, List.map_append]
        rfl
    · rintro H2 ⟨s2, hD2⟩
      rw [codes_len, List.take_length] at hD2
      refine ⟨D0, _, rfl, SqL.of hD2, ?_⟩
      have z := q H2 s2
      rw [twists_is] at z
      exact z
def spAnew (K : PySem.W.Frag) (C : Addr) : Sp := fun vs H Q _ => ∃ a b dx lf kv l, vs = [.ref a, .ref b] ∧ H a = some (.ins C dx (dF lf kv)) ∧ H b = some (.lst (codes l)) ∧ DeskOk ⟨l, none⟩ ∧
  ∀ H' p, But H H' a → DrawAt K C H' a ⟨l, none⟩ → (∃ dx', H' a = some (.ins C dx' (dF b .non))) → H p = none → H' p = some (.lst (ansF (Kqz1.comes l))) → Q (.ref p) H'
theorem ok_anew {f : Addr} {fd : FuncData} (D : MDef K C "drawn_anew" "Drawing.drawn_anew" sAnew ["self", "figures"] f fd) (T : Cl K C) (zL : mg "list" = none) (MF : CanM P w K mg base C "fraction" 3 (spFraction K C)) : CanM P w K mg base C "drawn_anew" 4 (spAnew K C) := by
  refine D.can (D.fn.ok scAnew (fun vs H Q E h => ?_) (fun cdv A outer s H vs Q E hr h => ?_))
  · obtain ⟨a, b, dx, lf, kv, l, rfl, _⟩ := h
    rfl
  · obtain ⟨a, b, dx, lf, kv, l, rfl, ha, hb, ok, q⟩ := h
    refine ⟨_, pss_cons (ps_fld (pv 0) (pv 1) rfl) (pss_cons (ps_fld (pv 0) pe_non rfl)
      (pss_one (ps_ret (pe_op op_cat (pe_lst (pa_cons pe_int pa_nil)) (pe_callTy call_list_of (by rfl) zL (by decide +kernel) (pa_cons (pe_canM0 MF T.cl hr (pv 0)) pa_nil)))))), ?_⟩
    have nba : b ≠ a := ne_of hb ha (fun z => by cases z)
    refine ⟨_, rfl, _, rfl, a, C, dx, _, rfl, ha, T.cl, T.nF, (by show 2 < 1000; decide), ?_⟩
    rw [dF_putF]
    refine ⟨_, rfl, a, C, dx, _, rfl, upd_same, T.cl, T.nK, (by show 2 < 1000; decide), ?_⟩
    rw [dF_putK, upd_upd]
    have B1 : But H (upd H a (.ins C dx (dF b .non))) a := But.upd
    have hb1 := B1 _ _ hb nba
    have D1 : DrawAt K C (upd H a (.ins C dx (dF b .non))) a ⟨l, none⟩ := ⟨ok, dx, b, .non, upd_same, hb1, rfl⟩
    refine ⟨by show 1 ≤ sizeLine; decide, fun p hp => ?_⟩
    have s2 := same_new (o := .lst [.int 0]) hp
    have D2 := D1.keep s2
    obtain ⟨_, dx2, lf2, kv2, ha2, _, _⟩ := id D2
    refine ⟨_, rfl, a, dx2, _, rfl, ha2, dF_no _ _ (by decide +kernel) (by decide +kernel), a, _, rfl, D2, fun H3 r s3 hf => ?_⟩
    refine ⟨r, _, rfl, .inr hf, fun u hu => ?_⟩
    have s4 := same_new (o := .lst [.int (Kqz1.comes l).p, .int ((Kqz1.comes l).q : Int)]) hu
    refine ⟨p, u, _, _, rfl, rfl, s4 _ _ (s3 _ _ upd_same), upd_same, by show 3 ≤ sizeLine; decide, fun v hv => ?_⟩
    have s5 := same_new (o := .lst (ansF (Kqz1.comes l))) hv
    have s25 := ((s2.trans s3).trans s4).trans s5
    refine q _ v (B1.trans (But.of s25)) (D1.keep s25) ⟨dx, s25 _ _ upd_same⟩ ?_ upd_same
    have n1 := (((s2.trans s3).trans s4).free hv)
    by_cases e : v = a
    · rw [e, upd_same] at n1
      cases n1
    · rw [upd_ne e] at n1
      exact n1
/-! ### led_to, way_done -/
def spLed (P : Program) (w : World) (K : PySem.W.Frag) (mg : Str → Option Value) (base : Heap) (C : Addr) : SpS := fun outer s vs H Q => ∃ (a f : Addr) (d : Desk) (phi : Frac → Bool), vs = [.ref a, .ref f] ∧ DrawAt K C H a d ∧ IsSo P w K mg base 4 f phi outer s H ∧
  ∀ d' v H' p, Kqz6.found d phi = (some d', .num v) → But H H' a → DrawAt K C H' a d' → KeepL C H H' a → H p = none → H' p = some (.lst [.int v]) → Q (.ref p) H'
theorem run_led {f : Addr} {fd : FuncData} {t33 : Tok} (F : Fun K "led_to" "Drawing.led_to" sLed f fd) (b : Binds K fd ["self", "is_so"] []) (T : Cl K C) (mN : mg "NOT_SO" = some (.int (-33) t33)) (CF : CanS P w K mg base "fewest" 5 (spFewest P w K mg base)) :
    RunS P w K mg base 6 f (spLed P w K mg base C) := by
  refine runS_of F b scLed (fun o s vs H Q h => ?_) (fun cdv A outer s H vs Q hr h => ?_)
  · obtain ⟨a, g, d, phi, rfl, _⟩ := h
    rfl
  · obtain ⟨a, g, d, phi, rfl, ⟨ok, dx, lf, kv, h1, h2, h3⟩, hS, q⟩ := h
    refine ⟨_, pss_cons (ps_set (i := 2) scLed.nd rfl (.inl rfl) (pe_canS (spc := fun vs H1 Q => ∃ a2, vs = [.ref a2, .ref g] ∧ Same H H1 ∧ FigsAt K H1 a2 d.l ∧ (Kqz6.fewest d.l phi = none → ∀ H', Same H1 H' → Q .non H') ∧
          (∀ t v, Kqz6.fewest d.l phi = some (t, v) → ∀ H' r u, Same H1 H' → SqT K H' r [.int (t : Int), .ref u] → SqT K H' u (wayV v) → Q (.ref r) H')) CF (fun pins s1 σ H1 vs Q1 I hq => ?_) hr rfl (pa_cons (pe_fld (pv 0) rfl) (pa_cons (pv 1) pa_nil))))
      (pss_cons (ps_if (pt_cmpR op_isN (pv 2) pe_non (nomark _)) (pss_cons (ps_fld (pv 0) pe_non rfl) (pss_one (ps_ret (pe_lst (pa_cons (pe_glob (v := .int (-33)) rfl mN ⟨_, rfl⟩) pa_nil))))) pss_nil)
      (pss_cons (ps_asg (pv 2) (pg_tup rfl (pgs_cons (pg_name (i := 3) scLed.nd rfl (.inl rfl)) (pgs_cons (pg_name (i := 4) scLed.nd rfl (.inl rfl)) pgs_nil))))
      (pss_cons (ps_fld (pv 0) (pv 4) rfl)
      (pss_one (ps_ret (pe_lst (pa_cons (pv 3) pa_nil))))))), ?_⟩
    · obtain ⟨a2, rfl, s2, hf, qn, qs⟩ := hq
      exact ⟨a2, g, d.l, phi, rfl, hf, ok.figs, ok.len, hS.later (Inv.later I rfl s2), qn, qs⟩
    · refine ⟨_, rfl, a, C, dx, _, _, rfl, h1, T.cl, T.nF, dF_figs _ _, _, rfl, lf, rfl, Same.refl H, SqL.of h2, fun hn H1 s1 => ?_, fun t v hs H1 r u s1 hr2 hu => ?_⟩
      · refine ⟨_, rfl, rfl, _, rfl, ite_yes rfl ?_⟩
        refine ⟨_, rfl, a, C, dx, _, rfl, s1 _ _ h1, T.cl, T.nK, (by show 2 < 1000; decide), ?_⟩
        rw [dF_putK]
        refine ⟨by show 1 ≤ sizeLine; decide, fun p hp => ?_⟩
        have s3 := same_new (o := .lst [.int (-33)]) hp
        have B2 : But H1 (upd H1 a (.ins C dx (dF lf .non))) a := But.upd
        have nla : lf ≠ a := ne_of h2 h1 (fun z => by cases z)
        exact q ⟨d.l, none⟩ (-33) _ p (found_none hn) ((But.of s1).trans (B2.trans (But.of s3))) (DrawAt.keep ⟨keeps_none ok, dx, lf, .non, upd_same, B2 _ _ (s1 _ _ h2) nla, rfl⟩ s3) (KeepL.of h1 (s3 _ _ upd_same)) (s1.free (NdefX.upd_none hp)) upd_same
      · refine ⟨_, rfl, rfl, _, rfl, ite_no (fun z => by cases z) ?_⟩
        refine ⟨_, rfl, r, _, rfl, hr2, rfl, _, _, rfl, _, _, rfl, rfl, ?_⟩
        refine ⟨_, rfl, _, rfl, a, C, dx, _, rfl, s1 _ _ h1, T.cl, T.nK, (by show 2 < 1000; decide), ?_⟩
        rw [dF_putK]
        refine ⟨_, rfl, by show 1 ≤ sizeLine; decide, fun p hp => ?_⟩
        have s3 := same_new (o := .lst [.int (t : Int)]) hp
        have B2 : But H1 (upd H1 a (.ins C dx (dF lf (.ref u)))) a := But.upd
        have nla : lf ≠ a := ne_of h2 h1 (fun z => by cases z)
        have tu := But.tups (K := K) B2 (s1 _ _ h1)
        exact q ⟨d.l, some v⟩ (t : Int) _ p (found_some hs) ((But.of s1).trans (B2.trans (But.of s3))) (DrawAt.keep ⟨keeps_some ok (fewest_fits hs), dx, lf, .ref u, upd_same, B2 _ _ (s1 _ _ h2) nla, u, rfl, tu _ _ hu⟩ s3) (KeepL.of h1 (s3 _ _ upd_same)) (s1.free (NdefX.upd_none hp)) upd_same
def spDone (K : PySem.W.Frag) (C : Addr) : Sp := fun vs H Q _ => ∃ a b d v, vs = [.ref a, .ref b] ∧ DrawAt K C H a d ∧ Fits d.l v ∧ (SqL K H b (wayV v) ∨ SqT K H b (wayV v)) ∧
  ∀ H' p, But H H' a → DrawAt K C H' a ⟨Kqz6.settle (Kqz6.made d.l v), none⟩ → OwnL C H H' a → H p = none → H' p = some (.lst (ansF (Kqz1.comes (Kqz6.settle (Kqz6.made d.l v))))) → Q (.ref p) H'
theorem ok_done {f : Addr} {fd : FuncData} (D : MDef K C "way_done" "Drawing.way_done" sDone ["self", "way"] f fd) (T : Cl K C) (CB : Can P w K mg base "figures_behind" 2 ["figures", "way"] (spFB K)) (MA : CanM P w K mg base C "drawn_anew" 4 (spAnew K C)) : CanM P w K mg base C "way_done" 5 (spDone K C) := by
  refine D.can (D.fn.ok scDone (fun vs H Q E h => ?_) (fun cdv A outer s H vs Q E hr h => ?_))
  · obtain ⟨a, b, d, v, rfl, _⟩ := h
    rfl
  · obtain ⟨a, b, d, v, rfl, ⟨ok, dx, lf, kv, h1, h2, h3⟩, hf, hb, q⟩ := h
    refine ⟨_, pss_one (ps_ret (pe_canM MA T.cl hr (pv 0) (pa_cons (pe_can CB (hr.mono (by decide)) rfl (pa_cons (pe_fld (pv 0) rfl) (pa_cons (pv 1) pa_nil))) pa_nil))), ?_⟩
    refine ⟨_, rfl, a, dx, _, rfl, h1, dF_no _ _ (by decide +kernel) (by decide +kernel), _, rfl, a, C, dx, _, _, rfl, h1, T.cl, T.nF, dF_figs _ _, _, rfl, lf, b, d.l, v, rfl, SqL.of h2, ok.figs, ok.len, hf, hb, fun H1 p s1 hpn hp => ?_⟩
    exact ⟨a, p, dx, lf, kv, _, rfl, s1 _ _ h1, hp, fits_settle ok hf, fun H2 r B2 D2 ⟨dx', e2⟩ hn hr2 => q H2 r ((But.of s1).trans B2) D2 (OwnL.new hpn e2) (s1.free hn) hr2⟩
end
end FC
/-! The walk, part 11: the plain deeds. -/
namespace FC
open PySem PySem.Spec PyProof.Rows L2
open Kqz1 (Frac Figure)
open Kqz3 (Ring)
open Kqz6 (Desk Call Ans)
open LamX (Tabs TabS TabB ExtN CodeO)
/-- all but the drawing at a and the tables of code objects is as it was -/
def Kept (H H' : Hp) (a : Addr) : Prop := ∀ b o, H b = some o → b ≠ a → (∀ ps, o ≠ .tbl ps) → H' b = some o
theorem But.kept {H H' : Hp} {a : Addr} (x : But H H' a) : Kept H H' a := fun b o e n _ => x b o e n
theorem codeO_not {c : Addr} {q : Str} {C dx : Addr} {fs : List (Str × V)} : CodeO c q ≠ .ins C dx fs := fun z => by
  unfold CodeO at z
  cases z
theorem tabs_but {T : List (Addr × Str)} {H H' : Hp} {a C dx : Addr} {fs : List (Str × V)} (t : Tabs T H) (x : But H H' a) (ha : H a = some (.ins C dx fs)) : Tabs T H' := fun p hp => by
  obtain ⟨ps, h1, h2, h3⟩ := t p hp
  refine ⟨ps, x _ _ h1 (ne_of h1 ha (fun z => by cases z)), h2, fun pos cv hc => ?_⟩
  obtain ⟨c, e1, e2⟩ := h3 pos cv hc
  exact ⟨c, e1, x _ _ e2 (ne_of e2 ha codeO_not)⟩
/-- the numbers that are answered, as they lie in the list -/
def ansV (a : Ans) : List V := (Kqz6Neutral.tell a).map V.int
/-- what a deed is to reach, from a drawing that stands -/
structure Due (K : PySem.W.Frag) (C : Addr) (T : List (Addr × Str)) (H : Hp) (Q : VK) (a : Addr) (d : Desk) (call : Call) : Prop where
  at_ : DrawAt K C H a d
  tabs : Tabs T H
  few : (Kqz6Neutral.tell (Kqz6.step (some d) call).2).length ≤ 1000200
  q : ∀ d' ans H' p, Kqz6.step (some d) call = (some d', ans) → Kept H H' a → Tabs T H' → DrawAt K C H' a d' → OwnL C H H' a → NoL H p → H' p = some (.lst (ansV ans)) → Q (.ref p) H'
section
variable {K : PySem.W.Frag} {C : Addr} {T : List (Addr × Str)} {H : Hp} {Q : VK} {a : Addr} {d : Desk} {call : Call}
/-- nothing is changed -/
theorem Due.same (D : Due K C T H Q a d call) {ans : Ans} {H' : Hp} {p : Addr} (e : Kqz6.step (some d) call = (some d, ans)) (s : Same H H') (hn : NoL H p) (hp : H' p = some (.lst (ansV ans))) : Q (.ref p) H' := by
  obtain ⟨_, dx, lf, kv, h1, _⟩ := D.at_
  exact D.q d ans H' p e (But.of s).kept (D.tabs.ext s) (D.at_.keep s) (OwnL.old h1 (s _ _ h1)) hn hp
/-- the drawing is another -/
theorem Due.but (D : Due K C T H Q a d call) {d' : Desk} {ans : Ans} {H' : Hp} {p : Addr} (e : Kqz6.step (some d) call = (some d', ans)) (s : But H H' a) (hd : DrawAt K C H' a d') (ow : OwnL C H H' a) (hn : NoL H p) (hp : H' p = some (.lst (ansV ans))) : Q (.ref p) H' := by
  obtain ⟨_, dx, lf, kv, h1, _⟩ := D.at_
  exact D.q d' ans H' p e s.kept (tabs_but D.tabs s h1) hd ow hn hp
/-- return [n] -/
theorem Due.num (D : Due K C T H Q a d call) {v : Int} {H1 : Hp} {p : Addr} (e : Kqz6.step (some d) call = (some d, .num v)) (s : Same H H1) (hp : H1 p = none) : Q (.ref p) (upd H1 p (.lst [.int v])) :=
  D.same e (s.trans (same_new hp)) (.of (s.free hp)) upd_same
end
/-- the promise of the deed with the number c -/
def spDeed (K : PySem.W.Frag) (C : Addr) (T : List (Addr × Str)) (c : Nat) : Sp := fun vs H Q _ => ∃ (a b : Addr) (d : Desk) (ns : List Int) (call : Call), vs = [.ref a, .ref b] ∧ SqL K H b (ns.map V.int) ∧ Kqz6Neutral.asked1 [(c : Int) :: ns] = true ∧ Kqz6Neutral.callOf [(c : Int) :: ns] = some call ∧ Due K C T H Q a d call
theorem len_deed {K : PySem.W.Frag} {C : Addr} {T : List (Addr × Str)} {c : Nat} : ∀ vs H Q E, spDeed K C T c vs H Q E → vs.length = (["drawing", "numbers"] : List Str).length := fun vs H Q E h => by
  obtain ⟨a, b, d, ns, call, rfl, _⟩ := h
  rfl
/-- the module's numbers -/
structure Nums (mg : Str → Option Value) : Prop where
  noFigure : ∃ t, mg "NO_FIGURE" = some (.int (-2) t)
  none_ : ∃ t, mg "NONE" = some (.int (-6) t)
  beyond : ∃ t, mg "BEYOND" = some (.int (-22) t)
  full : ∃ t, mg "FULL" = some (.int (-28) t)
  twists : ∃ t, mg "MOST_TWISTS" = some (.int 6 t)
  figures : ∃ t, mg "MOST_FIGURES" = some (.int 10 t)
  changes : ∃ t, mg "MOST_CHANGES" = some (.int 4 t)
/-- the built-ins that the deeds ask for -/
structure Blt (mg : Str → Option Value) : Prop where
  abs : mg "abs" = none
  len : mg "len" = none
  list : mg "list" = none
  int : mg "int" = none
  range : mg "range" = none
section
variable {P : Program} {w : World} {K : PySem.W.Frag} {mg : Str → Option Value} {base : Heap} {C : Addr} {T : List (Addr × Str)}
/-! ### what a call's numbers are -/
theorem ask0 {c : Int} {ns : List Int} (h : Kqz6Neutral.asked1 [c :: ns] = true) (hc : c = 2 ∨ c = 3 ∨ c = 4 ∨ c = 5 ∨ c = 6 ∨ c = 8 ∨ c = 9 ∨ c = 10 ∨ c = 16 ∨ c = 17 ∨ c = 18 ∨ c = 19 ∨ c = 20) : ns = [] := by
  cases ns with
  | nil => rfl
  | cons x r =>
    rcases hc with rfl | rfl | rfl | rfl | rfl | rfl | rfl | rfl | rfl | rfl | rfl | rfl | rfl <;> cases h
theorem ask1 {c : Int} {ns : List Int} (h : Kqz6Neutral.asked1 [c :: ns] = true) (hc : c = 1 ∨ c = 13 ∨ c = 14 ∨ c = 15) : ∃ x, ns = [x] := by
  cases ns with
  | nil => rcases hc with rfl | rfl | rfl | rfl <;> cases h
  | cons x r =>
    cases r with
    | nil => exact ⟨x, rfl⟩
    | cons y r => rcases hc with rfl | rfl | rfl | rfl <;> cases h
theorem ask2 {c : Int} {ns : List Int} (h : Kqz6Neutral.asked1 [c :: ns] = true) (hc : c = 7 ∨ c = 11 ∨ c = 12) : ∃ x y, ns = [x, y] := by
  cases ns with
  | nil => rcases hc with rfl | rfl | rfl <;> cases h
  | cons x r =>
    cases r with
    | nil => rcases hc with rfl | rfl | rfl <;> cases h
    | cons y r =>
      cases r with
      | nil => exact ⟨x, y, rfl⟩
      | cons z r => rcases hc with rfl | rfl | rfl <;> cases h
theorem nat_of {x : Int} {b : Nat} (h : Kqz6Neutral.natural x b = true) : ((x.toNat : Nat) : Int) = x := by
  unfold Kqz6Neutral.natural at h
  rw [Bool.and_eq_true, decide_eq_true_eq, decide_eq_true_eq] at h
  omega
/-! ### twist -/
abbrev sTwist : Stmt := top 34
theorem scTwist : FnScope ["drawing", "numbers", "many"] ["drawing", "numbers"] (defScope sTwist) := ⟨rfl, rfl, rfl, by decide +kernel, rfl, by decide +kernel, by decide +kernel⟩
theorem ok_twist {f : Addr} {fd : FuncData} (D : Def K mg "twist" sTwist ["drawing", "numbers"] f fd) (L : Cl K C) (N : Nums mg) (B : Blt mg) (MA : CanM P w K mg base C "drawn_anew" 4 (spAnew K C)) : Can P w K mg base "twist" 5 ["drawing", "numbers"] (spDeed K C T 1) := by
  refine D.can (D.fn.ok scTwist len_deed (fun cdv A outer s H vs Q E hr h => ?_))
  obtain ⟨a, b, d, ns, call, rfl, hb, ha1, hc, G⟩ := h
  obtain ⟨n, rfl⟩ := ask1 ha1 (.inl rfl)
  obtain rfl : Call.twist n = call := Option.some.inj hc
  obtain ⟨tb, mB⟩ := N.beyond
  obtain ⟨tf, mF⟩ := N.full
  obtain ⟨tt, mT⟩ := N.twists
  obtain ⟨tg, mG⟩ := N.figures
  obtain ⟨ok, dx, lf, kv, h1, h2, h3⟩ := G.at_
  refine ⟨_, pss_cons (ps_set (i := 2) scTwist.nd rfl (.inl rfl) (pe_ix ix_list (pv 1) pe_int (fun _ _ => rfl)))
    (pss_cons (ps_if (PW.pt (pw_or (pt_cmpR op_eq (pv 2) pe_int (nomark _)) (pw_or1 (pt_cmpR op_gt (pe_callB call_abs (by rfl) B.abs (by decide +kernel) (pa_cons (pv 2) pa_nil)) (pe_glob (v := .int 6) rfl mT ⟨_, rfl⟩) (nomark _)))))
        (pss_one (ps_ret (pe_lst (pa_cons (pe_glob (v := .int (-22)) rfl mB ⟨_, rfl⟩) pa_nil)))) pss_nil)
    (pss_cons (ps_if (pt_cmpR op_eq (pe_callB call_len_seq (by rfl) B.len PySem.boot_len (pa_cons (pe_fld (pv 0) rfl) pa_nil)) (pe_glob (v := .int 10) rfl mG ⟨_, rfl⟩) (nomark _))
        (pss_one (ps_ret (pe_lst (pa_cons (pe_glob (v := .int (-28)) rfl mF ⟨_, rfl⟩) pa_nil)))) pss_nil)
    (pss_one (ps_ret (pe_canM MA L.cl hr (pv 0) (pa_cons (pe_op op_cat (pe_fld (pv 0) rfl) (pe_lst (pa_cons (pv 2) pa_nil))) pa_nil)))))), ?_⟩
  refine ⟨_, rfl, b, _, 0, _, rfl, rfl, hb, atI_nat (j := 0) rfl, ?_⟩
  refine ⟨_, rfl, rfl, _, rfl, ?_⟩
  rw [eq_ii]
  have bad : (n = 0 ∨ 6 < (n.natAbs : Int)) → (tRet (tLst (tCons (tC (.int (-22))) tNil))) { nx := fun _ H' => Q .non H', rt := Q } [some (.ref a), some (.ref b), some (.int n)] H := fun z => ⟨by show 1 ≤ sizeLine; decide, fun p hp => G.num (twist_beyond z) (Same.refl H) hp⟩
  by_cases c0 : n = 0
  · exact ite_yes c0 (iteT (bad (.inl c0)))
  · refine ite_no c0 ⟨_, rfl, _, rfl, _, _, rfl, rfl, _, rfl, ?_⟩
    rw [abs_if]
    by_cases c6 : 6 < (n.natAbs : Int)
    · exact ite_yes c6 (bad (.inr c6))
    · have c : ¬ (n = 0 ∨ 6 < (n.natAbs : Int)) := fun z => z.elim c0 c6
      refine ite_no c6 ?_
      refine ⟨_, rfl, a, C, dx, _, _, rfl, h1, L.cl, L.nF, dF_figs _ _, lf, _, rfl, .inl (SqL.of h2), rfl, _, rfl, ?_⟩
      rw [codes_len, eq_ii, show decide ((d.l.length : Int) = 10) = decide (d.l.length = 10) from dec_eq (b := 10)]
      by_cases cl : d.l.length = 10
      · exact ite_yes cl ⟨by show 1 ≤ sizeLine; decide, fun p hp => G.num (twist_full c cl) (Same.refl H) hp⟩
      · obtain ⟨e, ok2⟩ := twist_more c cl ok
        have hl := ok.len
        refine ite_no cl ⟨_, rfl, a, dx, _, rfl, h1, dF_no _ _ (by decide +kernel) (by decide +kernel), _, rfl, a, C, dx, _, _, rfl, h1, L.cl, L.nF, dF_figs _ _, _, rfl, by show 1 ≤ sizeLine; decide, fun u hu => ?_⟩
        have s1 := same_new (o := .lst [.int n]) hu
        refine ⟨lf, u, _, _, rfl, rfl, s1 _ _ h2, upd_same, ?_, fun v hv => ?_⟩
        · rw [codes_len]
          exact Nat.le_of_lt (small1000 (n := d.l.length + 1) (by omega))
        · have s2 := same_new (o := .lst (codes d.l ++ [.int n])) hv
          refine ⟨a, v, dx, lf, kv, d.l ++ [Figure.twist n], rfl, s2 _ _ (s1 _ _ h1), ?_, ok2, fun H' p B1 D1 ⟨dx', e2⟩ hn hp => G.but e ((But.of (s1.trans s2)).trans B1) D1 (OwnL.new (s1.free hv) e2) (.of ((s1.trans s2).free hn)) hp⟩
          rw [upd_same]
          unfold codes
          rw [List.map_append]
          rfl
/-! ### turn -/
abbrev sTurn : Stmt := top 35
theorem scTurn : FnScope ["drawing", "numbers"] ["drawing", "numbers"] (defScope sTurn) := ⟨rfl, rfl, rfl, by decide +kernel, rfl, by decide +kernel, by decide +kernel⟩
theorem ok_turn {f : Addr} {fd : FuncData} (D : Def K mg "turn" sTurn ["drawing", "numbers"] f fd) (L : Cl K C) (N : Nums mg) (B : Blt mg) (MA : CanM P w K mg base C "drawn_anew" 4 (spAnew K C)) : Can P w K mg base "turn" 5 ["drawing", "numbers"] (spDeed K C T 2) := by
  refine D.can (D.fn.ok scTurn len_deed (fun cdv A outer s H vs Q E hr h => ?_))
  obtain ⟨a, b, d, ns, call, rfl, hb, ha1, hc, G⟩ := h
  obtain rfl := ask0 ha1 (.inl rfl)
  obtain rfl : Call.turn = call := Option.some.inj hc
  obtain ⟨tf, mF⟩ := N.full
  obtain ⟨tg, mG⟩ := N.figures
  obtain ⟨ok, dx, lf, kv, h1, h2, h3⟩ := G.at_
  refine ⟨_, pss_cons (ps_if (pt_cmpR op_eq (pe_callB call_len_seq (by rfl) B.len PySem.boot_len (pa_cons (pe_fld (pv 0) rfl) pa_nil)) (pe_glob (v := .int 10) rfl mG ⟨_, rfl⟩) (nomark _))
        (pss_one (ps_ret (pe_lst (pa_cons (pe_glob (v := .int (-28)) rfl mF ⟨_, rfl⟩) pa_nil)))) pss_nil)
    (pss_one (ps_ret (pe_canM MA L.cl hr (pv 0) (pa_cons (pe_op op_cat (pe_fld (pv 0) rfl) (pe_lst (pa_cons pe_int pa_nil))) pa_nil)))), ?_⟩
  refine ⟨_, rfl, a, C, dx, _, _, rfl, h1, L.cl, L.nF, dF_figs _ _, lf, _, rfl, .inl (SqL.of h2), rfl, _, rfl, ?_⟩
  rw [codes_len, eq_ii, show decide ((d.l.length : Int) = 10) = decide (d.l.length = 10) from dec_eq (b := 10)]
  by_cases cl : d.l.length = 10
  · exact ite_yes cl ⟨by show 1 ≤ sizeLine; decide, fun p hp => G.num (turn_full cl) (Same.refl H) hp⟩
  · obtain ⟨e, ok2⟩ := turn_more cl ok
    have hl := ok.len
    refine ite_no cl ⟨_, rfl, a, dx, _, rfl, h1, dF_no _ _ (by decide +kernel) (by decide +kernel), _, rfl, a, C, dx, _, _, rfl, h1, L.cl, L.nF, dF_figs _ _, by show 1 ≤ sizeLine; decide, fun u hu => ?_⟩
    have s1 := same_new (o := .lst [.int 0]) hu
    refine ⟨lf, u, _, _, rfl, rfl, s1 _ _ h2, upd_same, ?_, fun v hv => ?_⟩
    · rw [codes_len]
      exact Nat.le_of_lt (small1000 (n := d.l.length + 1) (by omega))
    · have s2 := same_new (o := .lst (codes d.l ++ [.int 0])) hv
      refine ⟨a, v, dx, lf, kv, d.l ++ [Figure.turn], rfl, s2 _ _ (s1 _ _ h1), ?_, ok2, fun H' p B1 D1 ⟨dx', e2⟩ hn hp => G.but e ((But.of (s1.trans s2)).trans B1) D1 (OwnL.new (s1.free hv) e2) (.of ((s1.trans s2).free hn)) hp⟩
      rw [upd_same]
      unfold codes
      rw [List.map_append]
      rfl
end
end FC
/-! The walk, part 12: off, comes, ring, crossings, way, figures, state, bound. -/
namespace FC
open PySem PySem.Spec PyProof.Rows L2
open Kqz1 (Frac Figure)
open Kqz3 (Ring)
open Kqz6 (Desk Call Ans)
open LamX (Tabs TabS TabB ExtN CodeO)
/-! ### lists of numbers as data -/
theorem dp_ints {K : PySem.W.Frag} {H : Hp} : ∀ l : List Int, DpAll K H (l.map V.int) (l.map PyData.int)
  | [] => .nil
  | n :: r => .cons (.int n) (dp_ints r)
theorem lay_ints : ∀ l : List Int, PyData.canLayAll0 (l.map PyData.int) = true
  | [] => rfl
  | n :: r => by
    show (PyData.canLay0 (.int n) && PyData.canLayAll0 (r.map PyData.int)) = true
    rw [lay_ints r]
    rfl
theorem deep_ints : ∀ l : List Int, PyData.depthAll (l.map PyData.int) ≤ 1
  | [] => by simp only [List.map_nil, PyData.depthAll, Nat.zero_le]
  | n :: r => by
    have z := deep_ints r
    simp only [List.map_cons, PyData.depthAll, PyData.depth]
    omega
theorem shaped_ints (l : List Int) : SeqAt.shaped (.list (l.map PyData.int)) = true := by
  unfold SeqAt.shaped
  rw [Bool.and_eq_true, decide_eq_true_eq]
  refine ⟨lay_ints l, ?_⟩
  have z := deep_ints l
  show PyData.depthAll (l.map PyData.int) + 1 ≤ 64
  omega
theorem eqv_none (l : List Int) : PyData.eqv (.list (l.map PyData.int)) (.list []) = decide (l = []) := by
  cases l with
  | nil => rfl
  | cons n r => rfl
theorem codes_ints (l : List Figure) : codes l = (l.map Kqz6.code).map V.int := by
  unfold codes
  rw [List.map_map]
  rfl
theorem codes_drop (l : List Figure) : codes l.dropLast = (codes l).dropLast := by
  unfold codes
  exact List.map_dropLast ..
/-- xs[:-1] -/
theorem cut_last (xs : List V) : cutV xs none (some (-1)) = xs.dropLast := by
  unfold cutV
  have e1 : HT.sIx xs.length 0 none = 0 := HT.sIx_none _ _
  have e2 : HT.sIx xs.length xs.length (some (-1)) = xs.length - 1 := by
    have z := HT.clip_eq (-1) xs.length xs.length
    rw [if_pos (by decide)] at z
    omega
  rw [e1, e2, List.drop_zero, Nat.sub_zero, List.dropLast_eq_take]
section
variable {P : Program} {w : World} {K : PySem.W.Frag} {mg : Str → Option Value} {base : Heap} {C : Addr} {T : List (Addr × Str)}
/-! ### off -/
abbrev sOff : Stmt := top 36
theorem scOff : FnScope ["drawing", "numbers"] ["drawing", "numbers"] (defScope sOff) := ⟨rfl, rfl, rfl, by decide +kernel, rfl, by decide +kernel, by decide +kernel⟩
theorem ok_off {f : Addr} {fd : FuncData} (D : Def K mg "off" sOff ["drawing", "numbers"] f fd) (L : Cl K C) (N : Nums mg) (B : Blt mg) (MA : CanM P w K mg base C "drawn_anew" 4 (spAnew K C)) : Can P w K mg base "off" 5 ["drawing", "numbers"] (spDeed K C T 3) := by
  refine D.can (D.fn.ok scOff len_deed (fun cdv A outer s H vs Q E hr h => ?_))
  obtain ⟨a, b, d, ns, call, rfl, hb, ha1, hc, G⟩ := h
  obtain rfl := ask0 ha1 (.inr (.inl rfl))
  obtain rfl : Call.off = call := Option.some.inj hc
  obtain ⟨tn, mN⟩ := N.none_
  obtain ⟨ok, dx, lf, kv, h1, h2, h3⟩ := G.at_
  refine ⟨_, pss_cons (ps_if (pt_cmpR (op_eqD hr.units) (pe_fld (pv 0) rfl) (pe_lst pa_nil) (nomark _)) (pss_one (ps_ret (pe_lst (pa_cons (pe_glob (v := .int (-6)) rfl mN ⟨_, rfl⟩) pa_nil)))) pss_nil)
    (pss_cons (ps_expr (pe_canM MA L.cl hr (pv 0) (pa_cons (pe_slice sl_list (pe_fld (pv 0) rfl) po_none (po_some (pe_un un_neg pe_int))) pa_nil)))
    (pss_one (ps_ret (pe_lst (pa_cons (pe_callB call_len_seq (by rfl) B.len PySem.boot_len (pa_cons (pe_fld (pv 0) rfl) pa_nil)) pa_nil))))), ?_⟩
  refine ⟨_, rfl, a, C, dx, _, _, rfl, h1, L.cl, L.nF, dF_figs _ _, Nat.zero_le _, fun u hu => ?_⟩
  have s1 := same_new (o := .lst []) hu
  have hl1 := s1 _ _ h2
  refine ⟨.list ((d.l.map Kqz6.code).map PyData.int), .list [], .lst (xs := codes d.l) (SqL.of hl1) (by rw [codes_ints]; exact dp_ints _), .lst (xs := []) (SqL.of upd_same) .nil, shaped_ints _, rfl, _, rfl, ?_⟩
  rw [eqv_none]
  by_cases c : d.l = []
  · refine ite_yes (by rw [c]; rfl) ⟨by show 1 ≤ sizeLine; decide, fun p hp => G.num (off_none c) s1 hp⟩
  · obtain ⟨e, ok2⟩ := off_last c ok
    refine ite_no (fun z => c (List.map_eq_nil_iff.mp z)) ?_
    refine ⟨_, rfl, a, dx, _, rfl, s1 _ _ h1, dF_no _ _ (by decide +kernel) (by decide +kernel), _, rfl, a, C, dx, _, _, rfl, s1 _ _ h1, L.cl, L.nF, dF_figs _ _, 1, rfl, -1, rfl, lf, codes d.l, rfl, SqL.of hl1, fun v hv => ?_⟩
    have s2 := same_new (o := .lst (cutV (codes d.l) none (some (-1)))) hv
    refine ⟨a, v, dx, lf, kv, d.l.dropLast, rfl, s2 _ _ (s1 _ _ h1), ?_, ok2, fun H' p B1 D1 ⟨dx', e2⟩ _ hp => ?_⟩
    · rw [codes_drop, ← cut_last]
      exact upd_same
    · obtain ⟨_, dx2, lf2, kv2, g1, g2, g3⟩ := id D1
      refine ⟨_, rfl, a, C, dx2, _, _, rfl, g1, L.cl, L.nF, dF_figs _ _, lf2, _, rfl, .inl (SqL.of g2), by show 1 ≤ sizeLine; decide, fun r hr2 => ?_⟩
      rw [codes_len]
      have s4 := same_new (o := .lst [.int (d.l.dropLast.length : Int)]) hr2
      exact G.but e ((But.of (s1.trans s2)).trans (B1.trans (But.of s4))) (D1.keep s4) (OwnL.new (s1.free hv) (s4 _ _ e2)) (.of ((s1.trans s2).free (B1.free e2 hr2))) upd_same
/-! ### comes -/
abbrev sCome : Stmt := top 37
theorem scCome : FnScope ["drawing", "numbers"] ["drawing", "numbers"] (defScope sCome) := ⟨rfl, rfl, rfl, by decide +kernel, rfl, by decide +kernel, by decide +kernel⟩
theorem ok_come {f : Addr} {fd : FuncData} (D : Def K mg "comes" sCome ["drawing", "numbers"] f fd) (L : Cl K C) (B : Blt mg) (MF : CanM P w K mg base C "fraction" 3 (spFraction K C)) : Can P w K mg base "comes" 4 ["drawing", "numbers"] (spDeed K C T 4) := by
  refine D.can (D.fn.ok scCome len_deed (fun cdv A outer s H vs Q E hr h => ?_))
  obtain ⟨a, b, d, ns, call, rfl, hb, ha1, hc, G⟩ := h
  obtain rfl := ask0 ha1 (.inr (.inr (.inl rfl)))
  obtain rfl : Call.comes = call := Option.some.inj hc
  obtain ⟨ok, dx, lf, kv, h1, h2, h3⟩ := G.at_
  refine ⟨_, pss_one (ps_ret (pe_op op_cat (pe_lst (pa_cons pe_int pa_nil)) (pe_callTy call_list_of (by rfl) B.list (by decide +kernel) (pa_cons (pe_canM0 MF L.cl hr (pv 0)) pa_nil)))), ?_⟩
  refine ⟨by show 1 ≤ sizeLine; decide, fun p hp => ?_⟩
  have s1 := same_new (o := .lst [.int 0]) hp
  refine ⟨_, rfl, a, dx, _, rfl, s1 _ _ h1, dF_no _ _ (by decide +kernel) (by decide +kernel), a, d, rfl, G.at_.keep s1, fun H2 r s2 hf => ?_⟩
  refine ⟨r, _, rfl, .inr hf, fun u hu => ?_⟩
  have s3 := same_new (o := .lst [.int (Kqz1.comes d.l).p, .int ((Kqz1.comes d.l).q : Int)]) hu
  refine ⟨p, u, _, _, rfl, rfl, s3 _ _ (s2 _ _ upd_same), upd_same, by show 3 ≤ sizeLine; decide, fun v hv => ?_⟩
  exact G.same (ans := Kqz6.frac (Kqz1.comes d.l)) rfl (((s1.trans s2).trans s3).trans (same_new hv)) (.of (((s1.trans s2).trans s3).free hv)) upd_same
/-! ### ring -/
abbrev sRing : Stmt := top 38
theorem scRing : FnScope ["drawing", "numbers"] ["drawing", "numbers"] (defScope sRing) := ⟨rfl, rfl, rfl, by decide +kernel, rfl, by decide +kernel, by decide +kernel⟩
theorem size_small {l : List Figure} (hl : l.length ≤ 10) (g : FigsOk l) : (Kqz3.ringOf (Kqz1.comes l)).p < 1000000000 := by
  have z := (within_comes hl g.w).1
  rw [ring_size]
  omega
theorem ok_ring {f : Addr} {fd : FuncData} (D : Def K mg "ring" sRing ["drawing", "numbers"] f fd) (L : Cl K C) (B : Blt mg) (MF : CanM P w K mg base C "fraction" 3 (spFraction K C)) (CR : Can P w K mg base "ring_of" 1 ["fraction"] (spRingOf K)) (CN : Can P w K mg base "name_of" 2 ["ring"] (spName K)) :
    Can P w K mg base "ring" 4 ["drawing", "numbers"] (spDeed K C T 5) := by
  refine D.can (D.fn.ok scRing len_deed (fun cdv A outer s H vs Q E hr h => ?_))
  obtain ⟨a, b, d, ns, call, rfl, hb, ha1, hc, G⟩ := h
  obtain rfl := ask0 ha1 (.inr (.inr (.inr (.inl rfl))))
  obtain rfl : Call.ring = call := Option.some.inj hc
  obtain ⟨ok, dx, lf, kv, h1, h2, h3⟩ := G.at_
  refine ⟨_, pss_one (ps_ret (pe_op op_cat (pe_lst (pa_cons pe_int pa_nil)) (pe_callTy call_list_of (by rfl) B.list (by decide +kernel) (pa_cons (pe_can CN (hr.mono (by decide)) rfl (pa_cons (pe_can CR (hr.mono (by decide)) rfl (pa_cons (pe_canM0 MF L.cl hr (pv 0)) pa_nil)) pa_nil)) pa_nil)))), ?_⟩
  refine ⟨by show 1 ≤ sizeLine; decide, fun p hp => ?_⟩
  have s1 := same_new (o := .lst [.int 0]) hp
  refine ⟨_, rfl, a, dx, _, rfl, s1 _ _ h1, dF_no _ _ (by decide +kernel) (by decide +kernel), a, d, rfl, G.at_.keep s1, fun H2 r s2 hf => ?_⟩
  refine ⟨r, _, rfl, hf, fun v hv => ?_⟩
  have s3 := same_new (o := .tup [.int ((Kqz3.ringOf (Kqz1.comes d.l)).p : Int), .int ((Kqz3.ringOf (Kqz1.comes d.l)).q : Int)]) hv
  have sm := size_small ok.len ok.figs
  refine ⟨v, Kqz3.ringOf (Kqz1.comes d.l), rfl, SqT.of upd_same, ring_ok (good_comes _), by omega, fun H3 u s4 hu => ?_⟩
  refine ⟨u, _, rfl, .inr hu, fun y hy => ?_⟩
  have s5 := same_new (o := .lst [.int ((Kqz3.name (Kqz3.ringOf (Kqz1.comes d.l))).p : Int), .int ((Kqz3.name (Kqz3.ringOf (Kqz1.comes d.l))).q : Int)]) hy
  refine ⟨p, y, _, _, rfl, rfl, s5 _ _ (s4 _ _ (s3 _ _ (s2 _ _ upd_same))), upd_same, by show 3 ≤ sizeLine; decide, fun z hz => ?_⟩
  exact G.same (ans := .some_ 0 [(Kqz3.name (Kqz3.ringOf (Kqz1.comes d.l))).p, (Kqz3.name (Kqz3.ringOf (Kqz1.comes d.l))).q]) rfl (((((s1.trans s2).trans s3).trans s4).trans s5).trans (same_new hz)) (.of (((((s1.trans s2).trans s3).trans s4).trans s5).free hz)) upd_same
/-! ### crossings -/
abbrev sCross : Stmt := top 39
theorem scCross : FnScope ["drawing", "numbers"] ["drawing", "numbers"] (defScope sCross) := ⟨rfl, rfl, rfl, by decide +kernel, rfl, by decide +kernel, by decide +kernel⟩
theorem ok_cross {f : Addr} {fd : FuncData} (D : Def K mg "crossings" sCross ["drawing", "numbers"] f fd) (L : Cl K C) (MH : CanM P w K mg base C "half_twists" 1 (spHalf K C)) : Can P w K mg base "crossings" 2 ["drawing", "numbers"] (spDeed K C T 6) := by
  refine D.can (D.fn.ok scCross len_deed (fun cdv A outer s H vs Q E hr h => ?_))
  obtain ⟨a, b, d, ns, call, rfl, hb, ha1, hc, G⟩ := h
  obtain rfl := ask0 ha1 (.inr (.inr (.inr (.inr (.inl rfl)))))
  obtain rfl : Call.crossings = call := Option.some.inj hc
  obtain ⟨ok, dx, lf, kv, h1, h2, h3⟩ := G.at_
  refine ⟨_, pss_one (ps_ret (pe_lst (pa_cons (pe_canM0 MH L.cl hr (pv 0)) pa_nil))), ?_⟩
  refine ⟨_, rfl, a, dx, _, rfl, h1, dF_no _ _ (by decide +kernel) (by decide +kernel), a, d, rfl, G.at_, fun H2 s2 => ?_⟩
  exact ⟨by show 1 ≤ sizeLine; decide, fun p hp => G.num rfl s2 hp⟩
/-! ### way -/
abbrev sWay : Stmt := top 49
theorem scWay : FnScope ["drawing", "numbers"] ["drawing", "numbers"] (defScope sWay) := ⟨rfl, rfl, rfl, by decide +kernel, rfl, by decide +kernel, by decide +kernel⟩
theorem ok_way {f : Addr} {fd : FuncData} (D : Def K mg "way" sWay ["drawing", "numbers"] f fd) (L : Cl K C) (N : Nums mg) (B : Blt mg) : Can P w K mg base "way" 1 ["drawing", "numbers"] (spDeed K C T 16) := by
  refine D.can (D.fn.ok scWay len_deed (fun cdv A outer s H vs Q E hr h => ?_))
  obtain ⟨a, b, d, ns, call, rfl, hb, ha1, hc, G⟩ := h
  obtain rfl := ask0 ha1 (by simp)
  obtain rfl : Call.way = call := Option.some.inj hc
  obtain ⟨tn, mN⟩ := N.none_
  obtain ⟨ok, dx, lf, kv, h1, h2, h3⟩ := G.at_
  refine ⟨_, pss_cons (ps_if (pt_cmpR op_isN (pe_fld (pv 0) rfl) pe_non (nomark _)) (pss_one (ps_ret (pe_lst (pa_cons (pe_glob (v := .int (-6)) rfl mN ⟨_, rfl⟩) pa_nil)))) pss_nil)
    (pss_one (ps_ret (pe_op op_cat (pe_lst (pa_cons (pe_callB call_len_seq (by rfl) B.len PySem.boot_len (pa_cons (pe_fld (pv 0) rfl) pa_nil)) pa_nil)) (pe_callTy call_list_of (by rfl) B.list (by decide +kernel) (pa_cons (pe_fld (pv 0) rfl) pa_nil))))), ?_⟩
  refine ⟨_, rfl, a, C, dx, _, _, rfl, h1, L.cl, L.nK, dF_kept _ _, rfl, _, rfl, ?_⟩
  cases e : d.last with
  | none =>
    rw [e] at h3
    have h3 : kv = .non := h3
    exact ite_yes h3 ⟨by show 1 ≤ sizeLine; decide, fun p hp => G.num (way_none e) (Same.refl H) hp⟩
  | some v =>
    rw [e] at h3
    obtain ⟨t, rfl, ht⟩ : ∃ t, kv = .ref t ∧ SqT K H t (wayV v) := h3
    have hl : v.length ≤ 10 := by
      rw [← (ok.fits v e).len]
      exact ok.len
    refine ite_no (fun z => by cases z) ?_
    refine ⟨_, rfl, a, C, dx, _, _, rfl, h1, L.cl, L.nK, dF_kept _ _, t, _, rfl, .inr ht, by show 1 ≤ sizeLine; decide, fun p hp => ?_⟩
    have s1 := same_new (o := .lst [.int ((wayV v).length : Int)]) hp
    refine ⟨_, rfl, a, C, dx, _, _, rfl, s1 _ _ h1, L.cl, L.nK, dF_kept _ _, t, _, rfl, .inr (Same.tup s1 ht), fun u hu => ?_⟩
    have s2 := same_new (o := .lst (wayV v)) hu
    refine ⟨p, u, _, _, rfl, rfl, s2 _ _ upd_same, upd_same, ?_, fun z hz => ?_⟩
    · rw [wayV_len]
      show 1 + v.length ≤ sizeLine
      exact Nat.le_of_lt (small1000 (n := 1 + v.length) (by omega))
    · refine G.same (way_some e) ((s1.trans s2).trans (same_new hz)) (.of ((s1.trans s2).free hz)) ?_
      rw [upd_same, wayV_len]
      unfold ansV wayV Kqz6Neutral.tell
      rw [List.map_cons, List.map_map]
      rfl
/-! ### figures -/
abbrev sFigs : Stmt := top 52
theorem scFigs : FnScope ["drawing", "numbers"] ["drawing", "numbers"] (defScope sFigs) := ⟨rfl, rfl, rfl, by decide +kernel, rfl, by decide +kernel, by decide +kernel⟩
theorem ok_figs {f : Addr} {fd : FuncData} (D : Def K mg "figures" sFigs ["drawing", "numbers"] f fd) (L : Cl K C) (B : Blt mg) : Can P w K mg base "figures" 1 ["drawing", "numbers"] (spDeed K C T 19) := by
  refine D.can (D.fn.ok scFigs len_deed (fun cdv A outer s H vs Q E hr h => ?_))
  obtain ⟨a, b, d, ns, call, rfl, hb, ha1, hc, G⟩ := h
  obtain rfl := ask0 ha1 (by simp)
  obtain rfl : Call.figures = call := Option.some.inj hc
  obtain ⟨ok, dx, lf, kv, h1, h2, h3⟩ := G.at_
  refine ⟨_, pss_one (ps_ret (pe_op op_cat (pe_lst (pa_cons (pe_callB call_len_seq (by rfl) B.len PySem.boot_len (pa_cons (pe_fld (pv 0) rfl) pa_nil)) pa_nil)) (pe_fld (pv 0) rfl))), ?_⟩
  refine ⟨_, rfl, a, C, dx, _, _, rfl, h1, L.cl, L.nF, dF_figs _ _, lf, _, rfl, .inl (SqL.of h2), by show 1 ≤ sizeLine; decide, fun p hp => ?_⟩
  have s1 := same_new (o := .lst [.int ((codes d.l).length : Int)]) hp
  have hl := ok.len
  refine ⟨_, rfl, a, C, dx, _, _, rfl, s1 _ _ h1, L.cl, L.nF, dF_figs _ _, p, lf, _, _, rfl, rfl, upd_same, s1 _ _ h2, ?_, fun z hz => ?_⟩
  · rw [codes_len]
    show 1 + d.l.length ≤ sizeLine
    exact Nat.le_of_lt (small1000 (n := 1 + d.l.length) (by omega))
  · refine G.same (ans := .ints d.l.length (d.l.map Kqz6.code)) rfl (s1.trans (same_new hz)) (.of (s1.free hz)) ?_
    rw [upd_same, codes_len, codes_ints]
    rfl
/-! ### state -/
abbrev sState : Stmt := top 53
theorem scState : FnScope ["drawing", "numbers"] ["drawing", "numbers"] (defScope sState) := ⟨rfl, rfl, rfl, by decide +kernel, rfl, by decide +kernel, by decide +kernel⟩
theorem ok_state {f : Addr} {fd : FuncData} (D : Def K mg "state" sState ["drawing", "numbers"] f fd) (L : Cl K C) (B : Blt mg) (MH : CanM P w K mg base C "half_twists" 1 (spHalf K C)) : Can P w K mg base "state" 2 ["drawing", "numbers"] (spDeed K C T 20) := by
  refine D.can (D.fn.ok scState len_deed (fun cdv A outer s H vs Q E hr h => ?_))
  obtain ⟨a, b, d, ns, call, rfl, hb, ha1, hc, G⟩ := h
  obtain rfl := ask0 ha1 (by simp)
  obtain rfl : Call.state = call := Option.some.inj hc
  obtain ⟨ok, dx, lf, kv, h1, h2, h3⟩ := G.at_
  refine ⟨_, pss_one (ps_ret (pe_lst (pa_cons (pe_callB call_len_seq (by rfl) B.len PySem.boot_len (pa_cons (pe_fld (pv 0) rfl) pa_nil)) (pa_cons (pe_canM0 MH L.cl hr (pv 0))
    (pa_cons (pe_callTy call_int1 (by rfl) B.int (by decide +kernel) (pa_cons (pe_cmpR op_notN (pe_fld (pv 0) rfl) pe_non (nomark _)) pa_nil)) pa_nil))))), ?_⟩
  refine ⟨_, rfl, a, C, dx, _, _, rfl, h1, L.cl, L.nF, dF_figs _ _, lf, _, rfl, .inl (SqL.of h2), ?_⟩
  refine ⟨_, rfl, a, dx, _, rfl, h1, dF_no _ _ (by decide +kernel) (by decide +kernel), a, d, rfl, G.at_, fun H2 s2 => ?_⟩
  refine ⟨_, rfl, a, C, dx, _, _, rfl, s2 _ _ h1, L.cl, L.nK, dF_kept _ _, rfl, .inr ⟨_, rfl, by show 3 ≤ sizeLine; decide, fun p hp => ?_⟩⟩
  refine G.same (ans := .some_ d.l.length [Kqz1.twists d.l, if d.last.isSome then 1 else 0]) rfl (s2.trans (same_new hp)) (.of (s2.free hp)) ?_
  rw [upd_same, codes_len]
  have e : (if (!decide (kv = V.non)) = true then (1 : Int) else 0) = (((if d.last.isSome = true then 1 else 0 : Nat)) : Int) := by
    cases e : d.last with
    | none =>
      rw [e] at h3
      have h3 : kv = .non := h3
      rw [h3]
      rfl
    | some v =>
      rw [e] at h3
      obtain ⟨t, rfl, _⟩ : ∃ t, kv = .ref t ∧ SqT K H t (wayV v) := h3
      rfl
  rw [e]
  rfl
/-! ### bound -/
abbrev sBound : Stmt := top 51
theorem scBound : FnScope ["drawing", "numbers", "closed"] ["drawing", "numbers"] (defScope sBound) := ⟨rfl, rfl, rfl, by decide +kernel, rfl, by decide +kernel, by decide +kernel⟩
theorem ok_bound {f : Addr} {fd : FuncData} (D : Def K mg "bound" sBound ["drawing", "numbers"] f fd) (L : Cl K C) (MF : CanM P w K mg base C "fraction" 3 (spFraction K C)) (CR : Can P w K mg base "ring_of" 1 ["fraction"] (spRingOf K)) (CO : Can P w K mg base "is_one_change" 3 ["ring"] (spOne K)) :
    Can P w K mg base "bound" 4 ["drawing", "numbers"] (spDeed K C T 18) := by
  refine D.can (D.fn.ok scBound len_deed (fun cdv A outer s H vs Q E hr h => ?_))
  obtain ⟨a, b, d, ns, call, rfl, hb, ha1, hc, G⟩ := h
  obtain rfl := ask0 ha1 (by simp)
  obtain rfl : Call.bound = call := Option.some.inj hc
  obtain ⟨ok, dx, lf, kv, h1, h2, h3⟩ := G.at_
  refine ⟨_, pss_cons (ps_set (i := 2) scBound.nd rfl (.inl rfl) (pe_can CR (hr.mono (by decide)) rfl (pa_cons (pe_canM0 MF L.cl hr (pv 0)) pa_nil)))
    (pss_cons (ps_if (pt_cmpR op_eq (pe_ix ix_tup (pv 2) pe_int (fun _ _ => rfl)) pe_int (nomark _)) (pss_one (ps_ret (pe_lst (pa_cons pe_int pa_nil)))) pss_nil)
    (pss_one (ps_ret (pe_lst (pa_cons (pe_ifExp (pt_val (pe_can CO hr rfl (pa_cons (pv 2) pa_nil))) pe_int pe_int) pa_nil))))), ?_⟩
  refine ⟨_, rfl, a, dx, _, rfl, h1, dF_no _ _ (by decide +kernel) (by decide +kernel), a, d, rfl, G.at_, fun H2 r s2 hf => ?_⟩
  refine ⟨r, _, rfl, hf, fun v hv => ?_⟩
  have s3 := same_new (o := .tup [.int ((Kqz3.ringOf (Kqz1.comes d.l)).p : Int), .int ((Kqz3.ringOf (Kqz1.comes d.l)).q : Int)]) hv
  have st := bound_told (d := d)
  refine ⟨_, rfl, v, _, 0, _, rfl, rfl, SqT.of upd_same, atI_nat (j := 0) rfl, rfl, _, rfl, ?_⟩
  rw [eq_ii, show decide (((Kqz3.ringOf (Kqz1.comes d.l)).p : Int) = 1) = decide ((Kqz3.ringOf (Kqz1.comes d.l)).p = 1) from dec_eq (b := 1)]
  by_cases c : (Kqz3.ringOf (Kqz1.comes d.l)).p = 1
  · rw [if_pos c] at st
    exact ite_yes c ⟨by show 1 ≤ sizeLine; decide, fun p hp => G.num st (s2.trans s3) hp⟩
  · rw [if_neg c] at st
    refine ite_no c ⟨_, rfl, v, _, rfl, SqT.of upd_same, ring_ok (good_comes _), size_small ok.len ok.figs, _, rfl, ite_b (fun z => ?_) (fun z => ?_)⟩
    · rw [z, if_pos rfl] at st
      exact ⟨by show 1 ≤ sizeLine; decide, fun p hp => G.num st (s2.trans s3) hp⟩
    · rw [z, if_neg Bool.false_ne_true] at st
      exact ⟨by show 1 ≤ sizeLine; decide, fun p hp => G.num st (s2.trans s3) hp⟩
end
end FC
/-! The walk, part 13: change, do_way, ways, results, rings. -/
namespace FC
open PySem PySem.Spec PyProof.Rows L2
open Kqz1 (Frac Figure)
open Kqz3 (Ring)
open Kqz6 (Desk Call Ans)
open LamX (Tabs TabS TabB ExtN CodeO)
theorem once1_inj {α β : Type} [DecidableEq α] [DecidableEq β] (g : α → β) (hg : ∀ a b, g a = g b → a = b) (l : List α) : once1 (l.map g) = (once1 l).map g := by
  refine snoc_ind (P := fun l => once1 (l.map g) = (once1 l).map g) rfl (fun l x ih => ?_) l
  rw [List.map_append, List.map_singleton, once1_snoc, once1_snoc, ih]
  by_cases h : x ∈ once1 l
  · rw [put1_old h, put1_old (List.mem_map.mpr ⟨x, h, rfl⟩)]
  · have h2 : ¬ g x ∈ (once1 l).map g := fun z => by
      obtain ⟨y, hy, e⟩ := List.mem_map.mp z
      exact h (hg _ _ e ▸ hy)
    rw [put1_new h, put1_new h2, List.map_append]
    rfl
def twoF (f : Frac) : Two := (f.p, (f.q : Int))
def twoR (r : Ring) : Two := ((r.p : Int), (r.q : Int))
theorem twoF_inj (a b : Frac) (h : twoF a = twoF b) : a = b := by
  obtain ⟨p, q⟩ := a
  obtain ⟨p', q'⟩ := b
  have h1 : p = p' := congrArg Prod.fst h
  have h2 : (q : Int) = (q' : Int) := congrArg Prod.snd h
  have h3 : q = q' := by omega
  rw [h1, h3]
theorem twoR_inj (a b : Ring) (h : twoR a = twoR b) : a = b := by
  obtain ⟨p, q⟩ := a
  obtain ⟨p', q'⟩ := b
  have h1 : (p : Int) = (p' : Int) := congrArg Prod.fst h
  have h2 : (q : Int) = (q' : Int) := congrArg Prod.snd h
  have h3 : p = p' := by omega
  have h4 : q = q' := by omega
  rw [h3, h4]
theorem oneWay_at {n i k j : Nat} (h : j < n) : (oneWay n i k)[j]? = some (if j = i then k else 0) := by
  unfold oneWay
  rw [List.getElem?_map, List.getElem?_range h]
  rfl
theorem oneWay_len (n i k : Nat) : (oneWay n i k).length = n := by
  unfold oneWay
  rw [List.length_map, List.length_range]
section
variable {P : Program} {w : World} {K : PySem.W.Frag} {mg : Str → Option Value} {base : Heap} {C : Addr} {T : List (Addr × Str)}
/-! ### change -/
abbrev sChange : Stmt := top 40
abbrev nChange : List Str := ["drawing", "numbers", "place", "many", "changes", "at"]
theorem scChange : FnScope nChange ["drawing", "numbers"] (defScope sChange) := ⟨rfl, rfl, rfl, by decide +kernel, rfl, by decide +kernel, by decide +kernel⟩
theorem ok_change {f : Addr} {fd : FuncData} (D : Def K mg "change" sChange ["drawing", "numbers"] f fd) (L : Cl K C) (N : Nums mg) (B : Blt mg) (MD : CanM P w K mg base C "way_done" 5 (spDone K C)) : Can P w K mg base "change" 6 ["drawing", "numbers"] (spDeed K C T 7) := by
  refine D.can (D.fn.ok scChange len_deed (fun cdv A outer s H vs Q E hr h => ?_))
  obtain ⟨a, b, d, ns, call, rfl, hb, ha1, hc, G⟩ := h
  obtain ⟨x, y, rfl⟩ := ask2 ha1 (.inl rfl)
  have hxy : (Kqz6Neutral.natural x 32 && Kqz6Neutral.natural y 32) = true := ha1
  rw [Bool.and_eq_true] at hxy
  have ex := nat_of hxy.1
  have ey := nat_of hxy.2
  obtain rfl : Call.change x.toNat y.toNat = call := Option.some.inj hc
  generalize x.toNat = i at ex G
  generalize y.toNat = k at ey G
  subst ex ey
  obtain ⟨tn, mN⟩ := N.noFigure
  obtain ⟨tb, mB⟩ := N.beyond
  obtain ⟨ok, dx, lf, kv, h1, h2, h3⟩ := G.at_
  refine ⟨_, pss_cons (ps_asg (pv 1) (pg_unl rfl (pgs_cons (pg_name (i := 2) scChange.nd rfl (.inr rfl)) (pgs_cons (pg_name (i := 3) scChange.nd rfl (.inr rfl)) pgs_nil))))
    (pss_cons (ps_if (pt_cmpR op_ge (pv 2) (pe_callB call_len_seq (by rfl) B.len PySem.boot_len (pa_cons (pe_fld (pv 0) rfl) pa_nil)) (nomark _)) (pss_one (ps_ret (pe_lst (pa_cons (pe_glob (v := .int (-2)) rfl mN ⟨_, rfl⟩) pa_nil)))) pss_nil)
    (pss_cons (ps_if (pt_cmpR op_gt (pv 3) (pe_callB call_abs (by rfl) B.abs (by decide +kernel) (pa_cons (pe_ix ix_list (pe_fld (pv 0) rfl) (pv 2) (fun _ _ => rfl)) pa_nil)) (nomark _)) (pss_one (ps_ret (pe_lst (pa_cons (pe_glob (v := .int (-22)) rfl mB ⟨_, rfl⟩) pa_nil)))) pss_nil)
    (pss_cons (ps_setLc (i := 4) (own := [("at", 5)]) (g := gName 5) (tt := tYes) rfl scChange.nd rfl rfl (sw_true rfl rfl rfl (by decide +kernel)) (pi_range1 rfl B.range (pa_cons (pe_callB call_len_seq (by rfl) B.len PySem.boot_len (pa_cons (pe_fld (pv 0) rfl) pa_nil)) pa_nil))
        (blkOk_by (N := nChange) (sc := defScope sChange) (by decide +kernel)) (fun _ _ _ _ _ => pg_name (i := 5) scChange.nd rfl (.inl rfl) (.inr rfl)) (fun _ _ _ _ _ => pts_nil)
        (fun _ _ _ _ _ => pe_ifExp (pt_cmpR op_eq (pv 5) (pv 2) (nomark _)) (pv 3) pe_int))
    (pss_one (ps_ret (pe_canM MD L.cl hr (pv 0) (pa_cons (pv 4) pa_nil))))))), ?_⟩
  refine ⟨_, rfl, b, _, rfl, hb, rfl, _, _, rfl, _, _, rfl, rfl, ?_⟩
  refine ⟨_, rfl, _, rfl, a, C, dx, _, _, rfl, h1, L.cl, L.nF, dF_figs _ _, lf, _, rfl, .inl (SqL.of h2), _, _, rfl, rfl, _, rfl, ?_⟩
  rw [codes_len, dec_le]
  by_cases c1 : d.l.length ≤ i
  · exact ite_yes c1 ⟨by show 1 ≤ sizeLine; decide, fun p hp => G.num (change_no c1) (Same.refl H) hp⟩
  · have hi : d.l[i]? = some d.l[i] := List.getElem?_eq_getElem (by omega)
    generalize d.l[i] = x at hi
    have hci : (codes d.l)[i]? = some (V.int (Kqz6.code x)) := by
      unfold codes
      rw [List.getElem?_map, hi]
      rfl
    refine ite_no c1 ⟨_, rfl, _, rfl, a, C, dx, _, _, rfl, h1, L.cl, L.nF, dF_figs _ _, _, rfl, lf, _, _, _, rfl, rfl, SqL.of h2, atI_nat hci, _, rfl, _, _, rfl, rfl, _, rfl, ?_⟩
    rw [abs_if, dec_lt, ← room_code]
    by_cases c2 : Kqz6.room x < k
    · exact ite_yes c2 ⟨by show 1 ≤ sizeLine; decide, fun p hp => G.num (change_beyond hi c2) (Same.refl H) hp⟩
    · obtain ⟨e, ok2⟩ := change_done hi (Nat.le_of_not_lt c2) ok
      have hl := ok.len
      refine ite_no c2 ?_
      refine ⟨_, rfl, a, C, dx, _, _, rfl, h1, L.cl, L.nF, dF_figs _ _, lf, _, rfl, .inl (SqL.of h2), _, rfl, ?_, ?_, fun D0 hD => ?_⟩
      · rw [codes_len]
        omega
      · rw [codes_len]
        omega
      have sD := same_new (o := .lst []) hD
      rw [codes_len, Int.toNat_natCast]
      refine lc_range (lo := 0) (n := d.l.length) (fun j H2 => Same H H2 ∧ H2 D0 = some (.lst (wayV ((oneWay d.l.length i k).take j)))) ⟨sD, upd_same⟩ ?_ ?_
      · rintro j H2 hj ⟨s2, hD2⟩
        have ej : (0 : Int) + (j : Int) = (j : Int) := by omega
        rw [ej]
        refine ⟨rfl, _, rfl, _, rfl, rfl, _, rfl, ?_⟩
        rw [eq_ii, dec_eq]
        have hlen : (wayV ((oneWay d.l.length i k).take j)).length < sizeLine := by
          rw [wayV_len, List.length_take]
          exact small1000 (by omega)
        have nx : wayV ((oneWay d.l.length i k).take (j + 1)) = wayV ((oneWay d.l.length i k).take j) ++ [V.int ((if j = i then k else 0 : Nat) : Int)] := by
          rw [take_snoc (oneWay_at hj)]
          unfold wayV
          rw [List.map_append]
          rfl
        by_cases c3 : j = i
        · refine ite_yes c3 ⟨_, rfl, _, hD2, hlen, same_at s2 hD, ?_⟩
          rw [upd_same, nx, if_pos c3]
        · refine ite_no c3 ⟨_, hD2, hlen, same_at s2 hD, ?_⟩
          rw [upd_same, nx, if_neg c3]
          rfl
      · rintro H2 ⟨s2, hD2⟩
        have et : (oneWay d.l.length i k).take d.l.length = oneWay d.l.length i k := List.take_of_length_le (by rw [oneWay_len]; exact Nat.le_refl _)
        rw [et] at hD2
        refine ⟨_, rfl, a, dx, _, rfl, s2 _ _ h1, dF_no _ _ (by decide +kernel) (by decide +kernel), _, rfl, a, D0, d, oneWay d.l.length i k, rfl, G.at_.keep s2, fits_one d.l i k x hi (Nat.le_of_not_lt c2), .inl (SqL.of hD2), fun H' p B1 D1 O1 hn hp => ?_⟩
        exact G.but e ((But.of s2).trans B1) D1 (O1.pre s2 h1) (.of (s2.free hn)) hp
/-! ### do_way -/
abbrev sDo : Stmt := top 50
theorem scDo : FnScope ["drawing", "numbers"] ["drawing", "numbers"] (defScope sDo) := ⟨rfl, rfl, rfl, by decide +kernel, rfl, by decide +kernel, by decide +kernel⟩
theorem ok_do {f : Addr} {fd : FuncData} (D : Def K mg "do_way" sDo ["drawing", "numbers"] f fd) (L : Cl K C) (N : Nums mg) (MD : CanM P w K mg base C "way_done" 5 (spDone K C)) : Can P w K mg base "do_way" 6 ["drawing", "numbers"] (spDeed K C T 17) := by
  refine D.can (D.fn.ok scDo len_deed (fun cdv A outer s H vs Q E hr h => ?_))
  obtain ⟨a, b, d, ns, call, rfl, hb, ha1, hc, G⟩ := h
  obtain rfl := ask0 ha1 (by simp)
  obtain rfl : Call.do_ = call := Option.some.inj hc
  obtain ⟨tn, mN⟩ := N.none_
  obtain ⟨ok, dx, lf, kv, h1, h2, h3⟩ := G.at_
  refine ⟨_, pss_cons (ps_if (pt_cmpR op_isN (pe_fld (pv 0) rfl) pe_non (nomark _)) (pss_one (ps_ret (pe_lst (pa_cons (pe_glob (v := .int (-6)) rfl mN ⟨_, rfl⟩) pa_nil)))) pss_nil)
    (pss_one (ps_ret (pe_canM MD L.cl hr (pv 0) (pa_cons (pe_fld (pv 0) rfl) pa_nil)))), ?_⟩
  refine ⟨_, rfl, a, C, dx, _, _, rfl, h1, L.cl, L.nK, dF_kept _ _, rfl, _, rfl, ?_⟩
  cases e : d.last with
  | none =>
    rw [e] at h3
    have h3 : kv = .non := h3
    exact ite_yes h3 ⟨by show 1 ≤ sizeLine; decide, fun p hp => G.num (do_none e) (Same.refl H) hp⟩
  | some v =>
    rw [e] at h3
    obtain ⟨t, rfl, ht⟩ : ∃ t, kv = .ref t ∧ SqT K H t (wayV v) := h3
    obtain ⟨es, ok2⟩ := do_way e ok
    refine ite_no (fun z => by cases z) ?_
    exact ⟨_, rfl, a, dx, _, rfl, h1, dF_no _ _ (by decide +kernel) (by decide +kernel), _, rfl, a, C, dx, _, _, rfl, h1, L.cl, L.nK, dF_kept _ _, a, t, d, v, rfl, G.at_, ok.fits v e, .inr ht, fun H' p B1 D1 O1 hn hp => G.but es B1 D1 O1 (.of hn) hp⟩
/-! ### ways -/
abbrev sWaysD : Stmt := top 46
theorem scWaysD : FnScope ["drawing", "numbers"] ["drawing", "numbers"] (defScope sWaysD) := ⟨rfl, rfl, rfl, by decide +kernel, rfl, by decide +kernel, by decide +kernel⟩
theorem ok_waysD {f : Addr} {fd : FuncData} (D : Def K mg "ways" sWaysD ["drawing", "numbers"] f fd) (L : Cl K C) (N : Nums mg) (B : Blt mg) (CW : Can P w K mg base "ways_of" 4 ["figures", "changes"] (spWays K)) : Can P w K mg base "ways" 5 ["drawing", "numbers"] (spDeed K C T 13) := by
  refine D.can (D.fn.ok scWaysD len_deed (fun cdv A outer s H vs Q E hr h => ?_))
  obtain ⟨a, b, d, ns, call, rfl, hb, ha1, hc, G⟩ := h
  obtain ⟨x, rfl⟩ := ask1 ha1 (by simp)
  have hx : Kqz6Neutral.natural x 32 = true := ha1
  have ex := nat_of hx
  obtain rfl : Call.ways x.toNat = call := Option.some.inj hc
  generalize x.toNat = t at ex G
  subst ex
  obtain ⟨tb, mB⟩ := N.beyond
  obtain ⟨tc, mC⟩ := N.changes
  obtain ⟨ok, dx, lf, kv, h1, h2, h3⟩ := G.at_
  refine ⟨_, pss_cons (ps_if (pt_cmpR op_gt (pe_ix ix_list (pv 1) pe_int (fun _ _ => rfl)) (pe_glob (v := .int 4) rfl mC ⟨_, rfl⟩) (nomark _)) (pss_one (ps_ret (pe_lst (pa_cons (pe_glob (v := .int (-22)) rfl mB ⟨_, rfl⟩) pa_nil)))) pss_nil)
    (pss_one (ps_ret (pe_lst (pa_cons (pe_callB call_len_seq (by rfl) B.len PySem.boot_len (pa_cons (pe_can CW hr rfl (pa_cons (pe_fld (pv 0) rfl) (pa_cons (pe_ix ix_list (pv 1) pe_int (fun _ _ => rfl)) pa_nil))) pa_nil)) pa_nil)))), ?_⟩
  refine ⟨_, rfl, b, _, 0, _, rfl, rfl, hb, atI_nat (j := 0) rfl, _, _, rfl, rfl, _, rfl, ?_⟩
  rw [show decide ((4 : Int) < (t : Int)) = decide (4 < t) from dec_lt (a := 4)]
  by_cases c : 4 < t
  · exact ite_yes c ⟨by show 1 ≤ sizeLine; decide, fun p hp => G.num (ways_beyond c) (Same.refl H) hp⟩
  · refine ite_no c ⟨_, rfl, a, C, dx, _, _, rfl, h1, L.cl, L.nF, dF_figs _ _, _, rfl, b, _, 0, _, rfl, rfl, hb, atI_nat (j := 0) rfl, lf, d.l, t, rfl, SqL.of h2, ok.figs, ok.len, by omega, fun H2 r ys s2 _ hr2 hP => ?_⟩
    refine ⟨r, _, rfl, .inl (SqL.of hr2), by show 1 ≤ sizeLine; decide, fun p hp => ?_⟩
    rw [Paired.length hP]
    exact G.num (ways_told c) s2 hp
end
end FC
/-! The walk, part 14: results, rings. -/
namespace FC
open PySem PySem.Spec PyProof.Rows L2
open Kqz1 (Frac Figure)
open Kqz3 (Ring)
open Kqz6 (Desk Call Ans)
open LamX (Tabs TabS TabB ExtN CodeO)
theorem key_frac {K : PySem.W.Frag} {H : Hp} {t : Addr} {f : Frac} (h : FracT K H t f) : KeyT K H (.ref t) (twoF f) := ⟨t, rfl, h⟩
theorem key_ring {K : PySem.W.Frag} {H : Hp} {t : Addr} {r : Ring} (h : RingT K H t r) : KeyT K H (.ref t) (twoR r) := ⟨t, rfl, h⟩
theorem once_fracs (l : List Frac) : (once1 (l.map twoF)).length = (once1 l).length := by
  rw [once1_inj twoF twoF_inj, List.length_map]
theorem name_flat (l : List Ring) : ∀ {i : Nat} {r : Ring}, l[i]? = some r → (l.take (i + 1)).flatMap (fun r => [r.p, r.q]) = (l.take i).flatMap (fun r => [r.p, r.q]) ++ [r.p, r.q] := fun h => by
  rw [take_snoc h, List.flatMap_append, List.flatMap_singleton]
section
variable {P : Program} {w : World} {K : PySem.W.Frag} {mg : Str → Option Value} {base : Heap} {C : Addr} {T : List (Addr × Str)}
/-! ### results -/
abbrev sResults : Stmt := top 47
abbrev nResults : List Str := ["drawing", "numbers", "changes", "fraction"]
theorem scResults : FnScope nResults ["drawing", "numbers"] (defScope sResults) := ⟨rfl, rfl, rfl, by decide +kernel, rfl, by decide +kernel, by decide +kernel⟩
theorem ok_results {f : Addr} {fd : FuncData} (D : Def K mg "results" sResults ["drawing", "numbers"] f fd) (L : Cl K C) (N : Nums mg) (B : Blt mg) (CW : Can P w K mg base "ways_of" 4 ["figures", "changes"] (spWays K)) (CU : Can P w K mg base "unlike" 1 ["things"] (spUnlike K)) :
    Can P w K mg base "results" 5 ["drawing", "numbers"] (spDeed K C T 14) := by
  refine D.can (D.fn.ok scResults len_deed (fun cdv A outer s H vs Q E hr h => ?_))
  obtain ⟨a, b, d, ns, call, rfl, hb, ha1, hc, G⟩ := h
  obtain ⟨x, rfl⟩ := ask1 ha1 (by simp)
  have hx : Kqz6Neutral.natural x 32 = true := ha1
  have ex := nat_of hx
  obtain rfl : Call.results x.toNat = call := Option.some.inj hc
  generalize x.toNat = t at ex G
  subst ex
  obtain ⟨tb, mB⟩ := N.beyond
  obtain ⟨tc, mC⟩ := N.changes
  obtain ⟨ok, dx, lf, kv, h1, h2, h3⟩ := G.at_
  refine ⟨_, pss_cons (ps_if (pt_cmpR op_gt (pe_ix ix_list (pv 1) pe_int (fun _ _ => rfl)) (pe_glob (v := .int 4) rfl mC ⟨_, rfl⟩) (nomark _)) (pss_one (ps_ret (pe_lst (pa_cons (pe_glob (v := .int (-22)) rfl mB ⟨_, rfl⟩) pa_nil)))) pss_nil)
    (pss_one (ps_ret (pe_lst (pa_cons (pe_callB call_len_seq (by rfl) B.len PySem.boot_len (pa_cons (pe_can CU (hr.mono (by decide)) rfl (pa_cons
      (pe_lc (own := [("changes", 2), ("fraction", 3)]) (g := gTup K 2 (gCons (gName 2) (gCons (gName 3) gNil))) (tt := tYes) rfl scResults.nd (pi_list (pe_can CW hr rfl (pa_cons (pe_fld (pv 0) rfl) (pa_cons (pe_ix ix_list (pv 1) pe_int (fun _ _ => rfl)) pa_nil)))) (blkOk_by (N := nResults) (sc := defScope sResults) (by decide +kernel))
        (fun _ _ _ _ _ => pg_tup rfl (pgs_cons (pg_name (i := 2) scResults.nd rfl (.inl rfl) (.inr rfl)) (pgs_cons (pg_name (i := 3) scResults.nd rfl (.inl rfl) (.inr rfl)) pgs_nil)))
        (fun _ _ _ _ _ => pts_nil) (fun _ _ _ _ _ => pv 3)) pa_nil)) pa_nil)) pa_nil)))), ?_⟩
  refine ⟨_, rfl, b, _, 0, _, rfl, rfl, hb, atI_nat (j := 0) rfl, _, _, rfl, rfl, _, rfl, ?_⟩
  rw [show decide ((4 : Int) < (t : Int)) = decide (4 < t) from dec_lt (a := 4)]
  by_cases c : 4 < t
  · exact ite_yes c ⟨by show 1 ≤ sizeLine; decide, fun p hp => G.num (results_beyond c) (Same.refl H) hp⟩
  · refine ite_no c ⟨_, rfl, a, C, dx, _, _, rfl, h1, L.cl, L.nF, dF_figs _ _, _, rfl, b, _, 0, _, rfl, rfl, hb, atI_nat (j := 0) rfl, lf, d.l, t, rfl, SqL.of h2, ok.figs, ok.len, by omega, fun H2 r ys s2 _ hr2 hP => ?_⟩
    have hfew := ways_few ok.len (show t ≤ 4 by omega)
    refine ⟨r, rfl, ⟨_, SqL.of hr2⟩, fun D0 hD => ?_⟩
    have sD := same_new (o := .lst []) hD
    refine lc_list (K := K) (a := r) (xs := ys) (fun i H3 => ∃ zs, Same H2 H3 ∧ H3 D0 = some (.lst zs) ∧ Paired (KeyT K H3) zs ((((waysF d.l t).take i).map (·.2)).map twoF))
      ⟨[], sD, upd_same, .nil⟩ (fun i H3 _ ⟨_, s3, _⟩ => s3.seq (SqL.of hr2)) ?_ ?_
    · rintro i y H3 hi ⟨zs, s3, hD3, hZ⟩
      obtain ⟨z, hz, hzp⟩ := paired_at hP hi
      obtain ⟨t2, u, uf, rfl, ht, hway, hfr⟩ := hzp.keep (Same.tups s3)
      have hlen : zs.length < sizeLine := by
        rw [Paired.length hZ, List.length_map, List.length_map, List.length_take]
        exact Nat.lt_of_lt_of_le (show _ < 9765626 by omega) (by show 9765626 ≤ sizeLine; decide)
      have tu := tups_lst (K := K) (zs := zs ++ [V.ref uf]) hD3
      refine ⟨t2, _, rfl, ht, rfl, _, _, rfl, _, _, rfl, rfl, rfl, _, rfl, zs, hD3, hlen, zs ++ [.ref uf], same_at s3 hD, upd_same, ?_⟩
      rw [take_snoc hz, List.map_append, List.map_append]
      exact Paired.snoc (Paired.mapP hZ fun _ _ q => q.keep tu) ((key_frac hfr).keep tu)
    · rintro H3 ⟨zs, s3, hD3, hZ⟩
      have e : (waysF d.l t).take ys.length = waysF d.l t := List.take_of_length_le (by rw [Paired.length hP]; exact Nat.le_refl _)
      rw [e] at hZ
      refine ⟨D0, zs, _, rfl, SqL.of hD3, hZ, ?_, fun H4 p vs s4 _ hp hV => ?_⟩
      · rw [List.length_map, List.length_map]
        exact hfew
      · refine ⟨p, _, rfl, .inl (SqL.of hp), by show 1 ≤ sizeLine; decide, fun q hq => ?_⟩
        rw [Paired.length hV, once_fracs]
        exact G.num (results_told c) ((s2.trans s3).trans s4) hq
/-! ### rings -/
abbrev sRings : Stmt := top 48
abbrev nRings : List Str := ["drawing", "numbers", "names", "found", "name", "changes", "fraction"]
theorem scRings : FnScope nRings ["drawing", "numbers"] (defScope sRings) := ⟨rfl, rfl, rfl, by decide +kernel, rfl, by decide +kernel, by decide +kernel⟩
/-- what the names tell -/
def tellR (l : List Ring) : List V := (l.flatMap fun r => [r.p, r.q]).map fun (n : Nat) => V.int (n : Int)
theorem tellR_len (l : List Ring) : (tellR l).length = 2 * l.length := by
  unfold tellR
  rw [List.length_map]
  induction l with
  | nil => rfl
  | cons r l ih =>
    rw [List.flatMap_cons, List.length_append, ih, List.length_cons, List.length_cons, List.length_cons, List.length_nil]
    omega
theorem tellR_more {l : List Ring} {i : Nat} {r : Ring} (h : l[i]? = some r) : tellR (l.take (i + 1)) = tellR (l.take i) ++ [.int (r.p : Int), .int (r.q : Int)] := by
  unfold tellR
  rw [name_flat l h, List.map_append]
  rfl
theorem ok_rings {f : Addr} {fd : FuncData} (D : Def K mg "rings" sRings ["drawing", "numbers"] f fd) (L : Cl K C) (N : Nums mg) (B : Blt mg) (CW : Can P w K mg base "ways_of" 4 ["figures", "changes"] (spWays K)) (CU : Can P w K mg base "unlike" 1 ["things"] (spUnlike K))
    (CR : Can P w K mg base "ring_of" 1 ["fraction"] (spRingOf K)) (CN : Can P w K mg base "name_of" 2 ["ring"] (spName K)) :
    Can P w K mg base "rings" 5 ["drawing", "numbers"] (spDeed K C T 15) := by
  refine D.can (D.fn.ok scRings len_deed (fun cdv A outer s H vs Q E hr h => ?_))
  obtain ⟨a, b, d, ns, call, rfl, hb, ha1, hc, G⟩ := h
  obtain ⟨x, rfl⟩ := ask1 ha1 (by simp)
  have hx : Kqz6Neutral.natural x 32 = true := ha1
  have ex := nat_of hx
  obtain rfl : Call.rings x.toNat = call := Option.some.inj hc
  generalize x.toNat = t at ex G
  subst ex
  obtain ⟨tb, mB⟩ := N.beyond
  obtain ⟨tc, mC⟩ := N.changes
  obtain ⟨ok, dx, lf, kv, h1, h2, h3⟩ := G.at_
  refine ⟨_, pss_cons (ps_if (pt_cmpR op_gt (pe_ix ix_list (pv 1) pe_int (fun _ _ => rfl)) (pe_glob (v := .int 4) rfl mC ⟨_, rfl⟩) (nomark _)) (pss_one (ps_ret (pe_lst (pa_cons (pe_glob (v := .int (-22)) rfl mB ⟨_, rfl⟩) pa_nil)))) pss_nil)
    (pss_cons (ps_set (i := 2) scRings.nd rfl (.inl rfl) (pe_can CU (hr.mono (by decide)) rfl (pa_cons
      (pe_lc (own := [("changes", 5), ("fraction", 6)]) (g := gTup K 2 (gCons (gName 5) (gCons (gName 6) gNil))) (tt := tYes) rfl scRings.nd (pi_list (pe_can CW hr rfl (pa_cons (pe_fld (pv 0) rfl) (pa_cons (pe_ix ix_list (pv 1) pe_int (fun _ _ => rfl)) pa_nil)))) (blkOk_by (N := nRings) (sc := defScope sRings) (by decide +kernel))
        (fun _ _ _ _ _ => pg_tup rfl (pgs_cons (pg_name (i := 5) scRings.nd rfl (.inl rfl) (.inr rfl)) (pgs_cons (pg_name (i := 6) scRings.nd rfl (.inl rfl) (.inr rfl)) pgs_nil)))
        (fun _ _ _ _ _ => pts_nil) (fun _ _ _ _ _ => pe_can CN (hr.mono (by decide)) rfl (pa_cons (pe_can CR (hr.mono (by decide)) rfl (pa_cons (pv 6) pa_nil)) pa_nil))) pa_nil)))
    (pss_cons (ps_set (i := 3) scRings.nd rfl (.inl rfl) (pe_lst (pa_cons (pe_callB call_len_seq (by rfl) B.len PySem.boot_len (pa_cons (pv 2) pa_nil)) pa_nil)))
    (pss_cons (ps_for PassesOwn.never rfl (pi_list (pv 2)) (pg_name (i := 4) scRings.nd rfl (.inl rfl)) (pss_one (ps_expr (pe_bm PySem.F.plainAttrs_list PySem.F.slot_list_extend PySem.F.type_list_extend mt_extend (pv 3) (pa_cons (pe_callTy call_list_of (by rfl) B.list (by decide +kernel) (pa_cons (pv 4) pa_nil)) pa_nil)))))
    (pss_one (ps_ret (pv 3)))))), ?_⟩
  refine ⟨_, rfl, b, _, 0, _, rfl, rfl, hb, atI_nat (j := 0) rfl, _, _, rfl, rfl, _, rfl, ?_⟩
  rw [show decide ((4 : Int) < (t : Int)) = decide (4 < t) from dec_lt (a := 4)]
  by_cases c : 4 < t
  · exact ite_yes c ⟨by show 1 ≤ sizeLine; decide, fun p hp => G.num (rings_beyond c) (Same.refl H) hp⟩
  · refine ite_no c ⟨_, rfl, a, C, dx, _, _, rfl, h1, L.cl, L.nF, dF_figs _ _, _, rfl, b, _, 0, _, rfl, rfl, hb, atI_nat (j := 0) rfl, lf, d.l, t, rfl, SqL.of h2, ok.figs, ok.len, by omega, fun H2 r ys s2 _ hr2 hP => ?_⟩
    have hfew := ways_few ok.len (show t ≤ 4 by omega)
    refine ⟨r, rfl, ⟨_, SqL.of hr2⟩, fun D0 hD => ?_⟩
    have sD := same_new (o := .lst []) hD
    refine lc_list (K := K) (a := r) (xs := ys) (fun i H3 => ∃ zs, Same H2 H3 ∧ H3 D0 = some (.lst zs) ∧ Paired (KeyT K H3) zs ((((waysF d.l t).take i).map fun z => Kqz3.name (Kqz3.ringOf z.2)).map twoR))
      ⟨[], sD, upd_same, .nil⟩ (fun i H3 _ ⟨_, s3, _⟩ => s3.seq (SqL.of hr2)) ?_ ?_
    · rintro i y H3 hi ⟨zs, s3, hD3, hZ⟩
      obtain ⟨z, hz, hzp⟩ := paired_at hP hi
      obtain ⟨t2, u, uf, rfl, ht, hway, hfr⟩ := hzp.keep (Same.tups s3)
      obtain ⟨gz, wz⟩ := waysF_good hz ok.len ok.figs
      have hlen : zs.length < sizeLine := by
        rw [Paired.length hZ, List.length_map, List.length_map, List.length_take]
        exact Nat.lt_of_lt_of_le (show _ < 9765626 by omega) (by show 9765626 ≤ sizeLine; decide)
      refine ⟨t2, _, rfl, ht, rfl, _, _, rfl, _, _, rfl, rfl, rfl, _, rfl, uf, z.2, rfl, hfr, fun v hv => ?_⟩
      have s4 := same_new (o := .tup [.int ((Kqz3.ringOf z.2).p : Int), .int ((Kqz3.ringOf z.2).q : Int)]) hv
      have hsz : (Kqz3.ringOf z.2).p < 1073741824 := by
        have q := wz.1
        rw [ring_size]
        omega
      refine ⟨v, Kqz3.ringOf z.2, rfl, SqT.of upd_same, ring_ok gz, hsz, fun H4 u4 s5 hu4 => ?_⟩
      have s45 := s4.trans s5
      have hD4 := s45 _ _ hD3
      have tu := tups_lst (K := K) (zs := zs ++ [V.ref u4]) hD4
      refine ⟨zs, hD4, hlen, zs ++ [.ref u4], same_at (s3.trans s45) hD, upd_same, ?_⟩
      rw [take_snoc hz, List.map_append, List.map_append]
      exact Paired.snoc (Paired.mapP hZ fun _ _ q => (q.keep (Same.tups s45)).keep tu) ((key_ring hu4).keep tu)
    · rintro H3 ⟨zs, s3, hD3, hZ⟩
      have e : (waysF d.l t).take ys.length = waysF d.l t := List.take_of_length_le (by rw [Paired.length hP]; exact Nat.le_refl _)
      rw [e] at hZ
      refine ⟨D0, zs, _, rfl, SqL.of hD3, hZ, ?_, fun H4 p vs s4 _ hp hV => ?_⟩
      · rw [List.length_map, List.length_map]
        exact hfew
      rw [once1_inj twoR twoR_inj] at hV
      have hV : Paired (KeyT K H4) vs ((namesOf d.l t).map twoR) := hV
      have hvl : vs.length = (namesOf d.l t).length := by rw [Paired.length hV, List.length_map]
      have hfew2 : 1 + 2 * (namesOf d.l t).length ≤ 1000200 := by
        have z := G.few
        rw [rings_told c] at z
        have e2 := tellR_len (namesOf d.l t)
        unfold tellR at e2
        rw [List.length_map] at e2
        have e3 : (Kqz6Neutral.tell (Ans.some_ ((namesOf d.l t).length : Int) ((namesOf d.l t).flatMap fun r => [r.p, r.q]))).length = 1 + ((namesOf d.l t).flatMap fun r => [r.p, r.q]).length := by
          unfold Kqz6Neutral.tell
          rw [List.length_cons, List.length_map]
          omega
        rw [e3, e2] at z
        exact z
      refine ⟨_, rfl, p, _, rfl, .inl (SqL.of hp), by show 1 ≤ sizeLine; decide, fun q hq => ?_⟩
      have s5 := same_new (o := .lst [.int (vs.length : Int)]) hq
      refine ⟨_, rfl, p, rfl, ⟨_, SqL.of (s5 _ _ hp)⟩, for_list (K := K) (a := p) (xs := vs) (fun i σ H' => ∃ v4 : Option V, σ = [some (.ref a), some (.ref b), some (.ref p), some (.ref q), v4, none, none] ∧ Same H4 H' ∧ H' q = some (.lst (.int (vs.length : Int) :: tellR ((namesOf d.l t).take i))))
        ⟨none, rfl, s5, upd_same⟩ (fun i σ H' _ ⟨_, _, s6, _⟩ => s6.seq (SqL.of hp)) ?_ ?_⟩
      · rintro i y σ H' hi ⟨v4, rfl, s6, hq6⟩
        obtain ⟨k, hk, hky⟩ := paired_at hV hi
        rw [List.getElem?_map] at hk
        cases hn : (namesOf d.l t)[i]? with
        | none =>
          rw [hn] at hk
          cases hk
        | some rn =>
          rw [hn] at hk
          obtain rfl : twoR rn = k := Option.some.inj hk
          obtain ⟨tn, rfl, htn⟩ := hky.keep (Same.tups s6)
          have hil : i < (namesOf d.l t).length := (List.getElem?_eq_some_iff.mp hn).1
          refine ⟨_, rfl, .inl ⟨rfl, _, SqL.of hq6⟩, _, rfl, tn, _, rfl, .inr htn, fun u hu => ?_⟩
          have s7 := same_new (o := .lst (twoV (twoR rn))) hu
          refine ⟨q, u, _, _, rfl, rfl, s7 _ _ hq6, upd_same, ?_, _, rfl, same_at (s6.trans s7) hq, ?_⟩
          · rw [List.length_cons, tellR_len, List.length_take]
            show 2 * min i (namesOf d.l t).length + 1 + 2 ≤ sizeLine
            exact Nat.le_trans (show _ ≤ 9765626 by omega) (by show 9765626 ≤ sizeLine; decide)
          · rw [upd_same, tellR_more hn]
            rfl
      · rintro σ H' ⟨v4, rfl, s6, hq6⟩
        rw [hvl, List.take_of_length_le (Nat.le_refl _)] at hq6
        refine ⟨_, rfl, ?_⟩
        refine G.same (rings_told c) (((s2.trans s3).trans s4).trans s6) (.of (((s2.trans s3).trans s4).free hq)) ?_
        rw [hq6]
        unfold ansV tellR Kqz6Neutral.tell
        rw [List.map_cons, List.map_map]
        rfl
end
end FC
/-! The walk, part 15: the deeds that hand on a lambda. -/
namespace FC
open PySem PySem.Spec PyProof.Rows L2
open Kqz1 (Frac Figure)
open Kqz3 (Ring)
open Kqz6 (Desk Call Ans)
open LamX (Tabs TabS TabB ExtN CodeO)
open NdefX (NF NScope CellsAt Caps ncx startF slotAt)
/-- a def whose code object stands at c -/
structure FunC (K : PySem.W.Frag) (x qual : Str) (st : Stmt) (f : Addr) (fd : FuncData) (c : Addr) : Prop where
  ex : ∃ (oc : Value) (od : Option Addr) (kV doc pm : Value) (an : Option Addr) (ct : Value) (osl : Array (Option Value)),
    fd = PySem.W.fnOf x qual (defArgs st) (defBody st) (defScope st) .none kV doc pm an (.ref c) ct ∧ K.lookup f = some ⟨oc, od, .func fd, osl⟩ ∧ PySem.W.codeIn K (.ref c) qual = true
  kp : PySem.W.keepIn K (.ref f) = true
structure DefC (K : PySem.W.Frag) (mg : Str → Option Value) (x : Str) (st : Stmt) (ps : List Str) (f : Addr) (fd : FuncData) (c : Addr) : Prop where
  fn : FunC K x x st f fd c
  g : mg x = some (.ref f)
  b : Binds K fd ps []
/-- the table of the code object at c, where lambdas of the name q are told -/
structure LamT (T : List (Addr × Str)) (base : Heap) (mg : Str → Option Value) (c : Addr) (q : Str) : Prop where
  ex : ∃ P, TabB base mg c P ∧ (P, q) ∈ T ∧ ∀ p ∈ T, p.1 = P → p.2 = q
theorem ExtN.draw {K : PySem.W.Frag} {C : Addr} {H H' : Hp} {a : Addr} {d : Desk} (e : ExtN H H') (h : DrawAt K C H a d) : DrawAt K C H' a d := by
  obtain ⟨ok, dx, lf, kv, h1, h2, h3⟩ := h
  refine ⟨ok, dx, lf, kv, e _ _ h1 (fun ps z => by cases z), e _ _ h2 (fun ps z => by cases z), h3.keep fun t xs q => ?_⟩
  rcases q with (q | ⟨o, q⟩) | q
  · exact .inl (.inl (e _ _ q (fun ps z => by cases z)))
  · exact .inl (.inr ⟨o, e _ _ q (fun ps z => by cases z)⟩)
  · exact .inr q
theorem ExtN.tups {K : PySem.W.Frag} {H H' : Hp} (e : ExtN H H') : Tups K H H' := fun t xs q => by
  rcases q with (q | ⟨o, q⟩) | q
  · exact .inl (.inl (e _ _ q (fun ps z => by cases z)))
  · exact .inl (.inr ⟨o, e _ _ q (fun ps z => by cases z)⟩)
  · exact .inr q
theorem kept_by {H H2 H' : Hp} {a : Addr} (e : ExtN H H2) (b : But H2 H' a) : Kept H H' a := fun x o h n t => b x o (e x o h t) n
theorem Kept.same {H H1 H' : Hp} {a : Addr} (s : Same H H1) (b : Kept H1 H' a) : Kept H H' a := fun x o h n t => b x o (s x o h) n t
def freeB (sc scope : Scope) : Bool := scope.names.all fun y => !decide (y.2 = .free) || decide (sc.names.lookup y.1 = some .cell)
theorem free_by {sc scope : Scope} (h : freeB sc scope = true) : ∀ y ∈ scope.names, y.2 = .free → sc.names.lookup y.1 = some .cell ∨ sc.names.lookup y.1 = some .free := fun y hy e => by
  have z := List.all_eq_true.mp h y hy
  rw [Bool.or_eq_true, decide_eq_true e] at z
  rcases z with z | z
  · exact absurd z (by decide)
  · exact .inl (of_decide_eq_true z)
/-- what is asked of led_to, phi told by the slots -/
def rLed (K : PySem.W.Frag) (C : Addr) (Phi : L2.St → Hp → (Frac → Bool) → Prop) : Addr → L2.St → Hp → VK → Prop := fun a σ H Q => ∃ (d : Desk) (phi : Frac → Bool), Phi σ H phi ∧ DrawAt K C H a d ∧
  ∀ d' v H' p, Kqz6.found d phi = (some d', .num v) → But H H' a → DrawAt K C H' a d' → KeepL C H H' a → H p = none → H' p = some (.lst [.int v]) → Q (.ref p) H'
section
variable {P : Program} {w : World} {K : PySem.W.Frag} {mg : Str → Option Value} {base : Heap} {C : Addr} {T : List (Addr × Str)}
theorem DefC.ok {x : Str} {st : Stmt} {f : Addr} {fd : FuncData} {c : Addr} {N ps : List Str} {k : Nat} {sp : Sp} (D : DefC K mg x st ps f fd c) (S : FnScope N ps (defScope st)) (len : ∀ vs H Q E, sp vs H Q E → vs.length = ps.length)
    (hbody : ∀ (A : Around) (outer : List Env) (s : Shared) (H : Hp) (vs : List V) (Q : VK) (E : XK), Room k (A.deeper (envOfC x (defScope st) s.heap.objs.size f (.ref c))) → sp vs H Q E →
      ∃ t, PSs (cxOf CX0 P w K mg base N x (defScope st) f (.ref c) A outer s H E).nox (defBody st) t ∧ t { nx := fun _ H' => Q .non H', rt := Q } (L2.start N vs) H) : Can P w K mg base x (k + 1) ps sp := by
  obtain ⟨oc, od, kV, doc, pm, an, ct, osl, rfl, lk, hcd⟩ := D.fn.ex
  refine ⟨f, _, fn_of lk hcd S len fun A outer s H vs Q E hr hsp => ?_, D.g, D.fn.kp, D.b⟩
  obtain ⟨t, h, q⟩ := hbody A outer s H vs Q E hr hsp
  exact ⟨t, h.nox, q⟩
/-- the method led_to, as it is called -/
structure Led (P : Program) (w : World) (K : PySem.W.Frag) (mg : Str → Option Value) (base : Heap) (C : Addr) : Prop where
  ex : ∃ fm, Meth K C "led_to" fm ∧ RunS P w K mg base 6 fm (spLed P w K mg base C)
end
section
variable {X : Cx} {C : Addr} {T : List (Addr × Str)} {c : Addr} {params : Arguments} {body : Expr} {scope : Scope} {o : Expr} {ta : TE} {Phi : L2.St → Hp → (Frac → Bool) → Prop} {apos lpos pos : Pos} {pl : Sem Bool} {N fr : List Str} {js : List Nat} {x : Str}
/-- THE RULE: o.led_to(lambda x: ..) -/
theorem pe_led (ho : PE X o ta) (cC : Cls X.K C) (L : Led X.prog X.w X.K X.mg X.base C) (hr : Room 6 X.A) (LT : LamT T X.base X.mg c (X.env.qual ++ "<lambda>")) (hcode : X.env.code = .ref c) (hfn : ∀ y, X.fn y = true) (S : NScope N [x] fr scope)
    (hdef : defaultsOf params X.env = ([], [])) {sc : Scope} (hsc : X.env.scope = sc) (hfb : freeB sc scope = true) (hfr : ∀ y ∈ fr, (y, NameKind.free) ∈ scope.names) (hjs : js.map (fun j => X.N[j]?) = fr.map some)
    (hbind : ∀ (pm ctv u : Value) (cl : List (Str × Addr)) (c' : Addr), bindArgs (PySem.W.kla_fn "<lambda>" (X.env.qual ++ "<lambda>") params body scope cl pm (.ref c') ctv) ⟨[u], []⟩ = pure [(x, u)])
    (hbody : ∀ (σ : L2.St) (H : Hp) (phi : Frac → Bool) (cl : List (Str × Addr)) (f c' : Addr) (A : Around) (outer : List Env) (s1 : Shared) (H1 : Hp) (t : Addr) (g : Frac) (Q : VK), Phi σ H phi → Room 3 (A.deeper (NdefX.envF (lamF (X.env.qual ++ "<lambda>") params scope cl c') f s1.heap.objs.size)) → Same H H1 → FracT X.K H1 t g → Good g → Within 282475249 g →
      (∀ H2, Same H1 H2 → Q (.bl (phi g)) H2) → ∃ tb : TE, PE (ncx CX0 X.prog X.w X.K X.mg X.base N (lamF (X.env.qual ++ "<lambda>") params scope cl c') f A outer s1 H1 E0).nox body tb ∧ tb (startF N [.ref t] (js.map (slotAt σ))) H1 Q)
    (hst : starEach [Expr.Lambda params body scope lpos] X.env = (false, eval (.Lambda params body scope lpos) X.env) :: starEach [] X.env := by rfl) (hpl : (backTo pos (starEach [] X.env)).any (·.1) = false := by rfl)
    (ht : eval (.Call (.Attribute o "led_to" apos) [.Lambda params body scope lpos] [] pos) X.env = (do
      let ov ← eval o X.env
      standAt apos.atName
      let (f, first) ← holding [ov] (getMethod ov "led_to" pl)
      callWith pos f first (backTo pos (starEach [.Lambda params body scope lpos] X.env)) (backToKw pos (keywordEach [] X.env))) := by rfl) :
    PE X (.Call (.Attribute o "led_to" apos) [.Lambda params body scope lpos] [] pos) (tLamM C "led_to" T ta (rLed X.K C Phi)) := by
  obtain ⟨fm, hm, run⟩ := L.ex
  obtain ⟨Pt, TB, hmT, hu⟩ := LT.ex
  subst hsc
  have hfree := free_by hfb
  refine pe_lamM (pl := pl) ho cC hm run hr TB hcode hmT hu hdef hfree (fun pins s σ H a f c' pm ctv Q I hf hn hfr2 hco hR => ?_) hst hpl ht
  obtain ⟨d, phi, hPhi, hd, q⟩ := hR
  refine ⟨a, f, d, phi, rfl, hd, ?_, q⟩
  have cp : Caps X (cloFrom X.env.cells scope.names []) fr js := Caps.made I.ok hfree hfr hjs
  exact isSo_lam (k := 3) I hfn S cp hf hn hfr2 hco (fun u => hbind pm ctv u _ c') fun A outer s1 H1 t g Q2 hr2 sm ht2 hg hw q2 => hbody σ H phi _ f c' A outer s1 H1 t g Q2 hPhi hr2 sm ht2 hg hw q2
end
theorem dec_two (p q : Int) (p2 q2 : Int) : PyData.eqv (.tuple [.int p, .int q]) (.tuple [.int p2, .int q2]) = (decide (p = p2) && decide (q = q2)) := by
  show (decide (p = p2) && (decide (q = q2) && true)) = _
  rw [Bool.and_true]
theorem dp_frac {K : PySem.W.Frag} {H : Hp} {t : Addr} {p q : Int} (h : SqT K H t [.int p, .int q]) : Dp K H (.ref t) (.tuple [.int p, .int q]) := .tup h (.cons (.int p) (.cons (.int q) .nil))
theorem dec_frac (f g : Frac) : (decide (f.p = g.p) && decide ((f.q : Int) = (g.q : Int))) = decide (f = g) := by
  obtain ⟨p, q⟩ := f
  obtain ⟨p2, q2⟩ := g
  rw [← Bool.decide_and]
  apply decide_eq_decide.mpr
  constructor
  · rintro ⟨h1, h2⟩
    have h1 : p = p2 := h1
    have h3 : q = q2 := by
      have h2 : (q : Int) = (q2 : Int) := h2
      omega
    rw [h1, h3]
  · intro h
    cases h
    exact ⟨rfl, rfl⟩
theorem dec_ring (f g : Ring) : (decide ((f.p : Int) = (g.p : Int)) && decide ((f.q : Int) = (g.q : Int))) = decide (f = g) := by
  obtain ⟨p, q⟩ := f
  obtain ⟨p2, q2⟩ := g
  rw [← Bool.decide_and]
  apply decide_eq_decide.mpr
  constructor
  · rintro ⟨h1, h2⟩
    have h1 : (p : Int) = (p2 : Int) := h1
    have h2 : (q : Int) = (q2 : Int) := h2
    have h3 : q = q2 := by omega
    have h4 : p = p2 := by omega
    rw [h4, h3]
  · intro h
    cases h
    exact ⟨rfl, rfl⟩
theorem beq_dec (n m : Nat) : (n == m) = decide (n = m) := by
  rw [Bool.eq_iff_iff, beq_iff_eq, decide_eq_true_eq]
section
variable {P : Program} {w : World} {K : PySem.W.Frag} {mg : Str → Option Value} {base : Heap} {C : Addr} {T : List (Addr × Str)}
/-- what led_to found is what is due -/
theorem Due.led {H H1 : Hp} {Q : VK} {a : Addr} {d : Desk} {call : Call} (G : Due K C T H Q a d call) (s1 : Same H H1) {phi : Frac → Bool} (e : Kqz6.step (some d) call = Kqz6.found d phi) {H2 : Hp} (eN : ExtN H1 H2) (T2 : Tabs T H2) {σ : L2.St} {Phi : L2.St → Hp → (Frac → Bool) → Prop} (h : Phi σ H2 phi) : rLed K C Phi a σ H2 Q := by
  have D2 := ExtN.draw eN (G.at_.keep s1)
  refine ⟨d, phi, h, D2, fun d' v H' p ef B D' kl hn hp => ?_⟩
  obtain ⟨_, dx, lf, kv, h0, _⟩ := G.at_
  have h1 := eN _ _ (s1 _ _ h0) (fun ps z => by cases z)
  obtain ⟨dx', kv', h2⟩ := kl _ _ _ h1
  exact G.q d' (.num v) H' p (e.trans ef) (Kept.same s1 (kept_by eN B)) (tabs_but T2 B h1) D' (OwnL.old h0 h2) (fun xs z => by rw [eN _ _ (s1 _ _ z) (fun ps y => by cases y)] at hn; cases hn) hp
/-! ### undone, split, flat -/
abbrev sUndone : Stmt := top 41
theorem scUndone : FnScope ["drawing", "numbers"] ["drawing", "numbers"] (defScope sUndone) := ⟨rfl, rfl, rfl, by decide +kernel, rfl, by decide +kernel, by decide +kernel⟩
theorem ok_undone {f : Addr} {fd : FuncData} {c : Addr} (D : DefC K mg "undone" sUndone ["drawing", "numbers"] f fd c) (L : Cl K C) (LD : Led P w K mg base C) (LT : LamT T base mg c ("undone" ++ ".<locals>." ++ "<lambda>")) (CR : Can P w K mg base "ring_of" 1 ["fraction"] (spRingOf K)) :
    Can P w K mg base "undone" 7 ["drawing", "numbers"] (spDeed K C T 8) := by
  refine D.ok scUndone len_deed (fun A outer s H vs Q E hr h => ?_)
  obtain ⟨a, b, d, ns, call, rfl, hb, ha1, hc, G⟩ := h
  obtain rfl := ask0 ha1 (by simp)
  obtain rfl : Call.undone = call := Option.some.inj hc
  refine ⟨_, pss_one (ps_ret (pe_led (T := T) (N := ["fraction"]) (fr := []) (js := []) (x := "fraction") (Phi := fun _ _ phi => phi = fun f => (Kqz3.ringOf f).p == 1) (pv 0) L.cl LD hr LT rfl (fun _ => rfl) (NdefX.nscope_by (by decide +kernel)) rfl (sc := defScope sUndone) rfl (by decide +kernel) (by decide +kernel) rfl (fun _ _ _ _ _ => rfl)
    (fun σ H phi cl f c' A outer s1 H1 t g Q2 hPhi hr2 sm ht hg hw q => ?_))), ?_⟩
  · subst hPhi
    refine ⟨_, pe_cmpR op_eq (pe_ix ix_tup (pe_can CR (hr2.mono (by decide)) rfl (pa_cons (pv 0) pa_nil)) pe_int (fun _ _ => rfl)) pe_int (nomark _), ?_⟩
    refine ⟨_, rfl, t, g, rfl, ht, fun v hv => ?_⟩
    refine ⟨v, _, 0, _, rfl, rfl, SqT.of upd_same, atI_nat (j := 0) rfl, rfl, ?_⟩
    have z := q _ (same_new (o := .tup [.int ((Kqz3.ringOf g).p : Int), .int ((Kqz3.ringOf g).q : Int)]) hv)
    have e : decide (V.int ((Kqz3.ringOf g).p : Int) = V.int 1) = ((Kqz3.ringOf g).p == 1) := by
      rw [eq_ii, beq_dec]
      exact dec_eq (b := 1)
    rw [e]
    exact z
  · obtain ⟨ok, dx, lf, kv, h1, h2, h3⟩ := id G.at_
    exact ⟨_, rfl, a, dx, _, rfl, h1, dF_no _ _ (by decide +kernel) (by decide +kernel), G.tabs, fun H2 eN T2 => Due.led G (Same.refl H) undone_found eN T2 rfl⟩
abbrev sSplit : Stmt := top 42
theorem scSplit : FnScope ["drawing", "numbers"] ["drawing", "numbers"] (defScope sSplit) := ⟨rfl, rfl, rfl, by decide +kernel, rfl, by decide +kernel, by decide +kernel⟩
theorem ok_split {f : Addr} {fd : FuncData} {c : Addr} (D : DefC K mg "split" sSplit ["drawing", "numbers"] f fd c) (L : Cl K C) (LD : Led P w K mg base C) (LT : LamT T base mg c ("split" ++ ".<locals>." ++ "<lambda>")) (CR : Can P w K mg base "ring_of" 1 ["fraction"] (spRingOf K)) :
    Can P w K mg base "split" 7 ["drawing", "numbers"] (spDeed K C T 9) := by
  refine D.ok scSplit len_deed (fun A outer s H vs Q E hr h => ?_)
  obtain ⟨a, b, d, ns, call, rfl, hb, ha1, hc, G⟩ := h
  obtain rfl := ask0 ha1 (by simp)
  obtain rfl : Call.split = call := Option.some.inj hc
  refine ⟨_, pss_one (ps_ret (pe_led (T := T) (N := ["fraction"]) (fr := []) (js := []) (x := "fraction") (Phi := fun _ _ phi => phi = fun f => (Kqz3.ringOf f).p == 0) (pv 0) L.cl LD hr LT rfl (fun _ => rfl) (NdefX.nscope_by (by decide +kernel)) rfl (sc := defScope sSplit) rfl (by decide +kernel) (by decide +kernel) rfl (fun _ _ _ _ _ => rfl)
    (fun σ H phi cl f c' A outer s1 H1 t g Q2 hPhi hr2 sm ht hg hw q => ?_))), ?_⟩
  · subst hPhi
    refine ⟨_, pe_cmpR op_eq (pe_ix ix_tup (pe_can CR (hr2.mono (by decide)) rfl (pa_cons (pv 0) pa_nil)) pe_int (fun _ _ => rfl)) pe_int (nomark _), ?_⟩
    refine ⟨_, rfl, t, g, rfl, ht, fun v hv => ?_⟩
    refine ⟨v, _, 0, _, rfl, rfl, SqT.of upd_same, atI_nat (j := 0) rfl, rfl, ?_⟩
    have z := q _ (same_new (o := .tup [.int ((Kqz3.ringOf g).p : Int), .int ((Kqz3.ringOf g).q : Int)]) hv)
    have e : decide (V.int ((Kqz3.ringOf g).p : Int) = V.int 0) = ((Kqz3.ringOf g).p == 0) := by
      rw [eq_ii, beq_dec]
      exact dec_eq (b := 0)
    rw [e]
    exact z
  · obtain ⟨ok, dx, lf, kv, h1, h2, h3⟩ := id G.at_
    exact ⟨_, rfl, a, dx, _, rfl, h1, dF_no _ _ (by decide +kernel) (by decide +kernel), G.tabs, fun H2 eN T2 => Due.led G (Same.refl H) split_found eN T2 rfl⟩
abbrev sFlat : Stmt := top 43
theorem scFlat : FnScope ["drawing", "numbers"] ["drawing", "numbers"] (defScope sFlat) := ⟨rfl, rfl, rfl, by decide +kernel, rfl, by decide +kernel, by decide +kernel⟩
theorem ok_flat {f : Addr} {fd : FuncData} {c : Addr} (D : DefC K mg "flat" sFlat ["drawing", "numbers"] f fd c) (L : Cl K C) (LD : Led P w K mg base C) (LT : LamT T base mg c ("flat" ++ ".<locals>." ++ "<lambda>")) (CC : Consts K mg) :
    Can P w K mg base "flat" 7 ["drawing", "numbers"] (spDeed K C T 10) := by
  refine D.ok scFlat len_deed (fun A outer s H vs Q E hr h => ?_)
  obtain ⟨a, b, d, ns, call, rfl, hb, ha1, hc, G⟩ := h
  obtain rfl := ask0 ha1 (by simp)
  obtain rfl : Call.flat = call := Option.some.inj hc
  obtain ⟨az, mz, hz⟩ := CC.zero
  refine ⟨_, pss_one (ps_ret (pe_led (T := T) (N := ["fraction"]) (fr := []) (js := []) (x := "fraction") (Phi := fun _ _ phi => phi = fun f => decide (f = Kqz1.flat)) (pv 0) L.cl LD hr LT rfl (fun _ => rfl) (NdefX.nscope_by (by decide +kernel)) rfl (sc := defScope sFlat) rfl (by decide +kernel) (by decide +kernel) rfl (fun _ _ _ _ _ => rfl)
    (fun σ H phi cl f c' A outer s1 H1 t g Q2 hPhi hr2 sm ht hg hw q => ?_))), ?_⟩
  · subst hPhi
    refine ⟨_, pe_cmpR (op_eqD hr2.units) (pv 0) (pe_glob (v := .ref az) rfl mz rfl) (nomark _), ?_⟩
    refine ⟨_, rfl, _, _, dp_frac ht, dp_frac (hz H1), rfl, rfl, ?_⟩
    have z := q _ (Same.refl H1)
    rw [dec_two, dec_frac]
    exact z
  · obtain ⟨ok, dx, lf, kv, h1, h2, h3⟩ := id G.at_
    exact ⟨_, rfl, a, dx, _, rfl, h1, dF_no _ _ (by decide +kernel) (by decide +kernel), G.tabs, fun H2 eN T2 => Due.led G (Same.refl H) flat_found eN T2 rfl⟩
/-! ### lead_to, closes -/
abbrev sLead : Stmt := top 44
theorem scLead : FnScope ["drawing", "numbers", "upper", "lower"] ["drawing", "numbers"] (defScope sLead) := ⟨rfl, rfl, rfl, by decide +kernel, rfl, by decide +kernel, by decide +kernel⟩
theorem ok_lead {f : Addr} {fd : FuncData} {c : Addr} (D : DefC K mg "lead_to" sLead ["drawing", "numbers"] f fd c) (L : Cl K C) (N : Nums mg) (LD : Led P w K mg base C) (LT : LamT T base mg c ("lead_to" ++ ".<locals>." ++ "<lambda>")) (CF : Can P w K mg base "is_fraction" 2 ["upper", "lower"] spIsFrac) :
    Can P w K mg base "lead_to" 7 ["drawing", "numbers"] (spDeed K C T 11) := by
  refine D.ok scLead len_deed (fun A outer s H vs Q E hr h => ?_)
  obtain ⟨a, b, d, ns, call, rfl, hb, ha1, hc, G⟩ := h
  obtain ⟨x, y, rfl⟩ := ask2 ha1 (by simp)
  have hy : Kqz6Neutral.natural y 32 = true := by
    have z : (_ && Kqz6Neutral.natural y 32) = true := ha1
    rw [Bool.and_eq_true] at z
    exact z.2
  have ey := nat_of hy
  obtain rfl : Call.to_ x y.toNat = call := Option.some.inj hc
  generalize y.toNat = n at ey G
  subst ey
  obtain ⟨tb, mB⟩ := N.beyond
  refine ⟨_, pss_cons (ps_asg (pv 1) (pg_unl rfl (pgs_cons (pg_name (i := 2) scLead.nd rfl (.inr rfl)) (pgs_cons (pg_name (i := 3) scLead.nd rfl (.inr rfl)) pgs_nil))))
    (pss_cons (ps_if (pt_not (pt_val (pe_can CF (hr.mono (by decide)) rfl (pa_cons (pv 2) (pa_cons (pv 3) pa_nil))))) (pss_one (ps_ret (pe_lst (pa_cons (pe_glob (v := .int (-22)) rfl mB ⟨_, rfl⟩) pa_nil)))) pss_nil)
    (pss_one (ps_ret (pe_led (T := T) (N := ["fraction", "upper", "lower"]) (fr := ["upper", "lower"]) (js := [2, 3]) (x := "fraction")
      (Phi := fun σ _ phi => ∃ (p : Int) (q : Nat), σ[2]? = some (some (.int p)) ∧ σ[3]? = some (some (.int (q : Int))) ∧ phi = fun f => decide (f = ⟨p, q⟩)) (pv 0) L.cl LD hr LT rfl (fun _ => rfl) (NdefX.nscope_by (by decide +kernel)) rfl (sc := defScope sLead) rfl (by decide +kernel) (by decide +kernel) rfl (fun _ _ _ _ _ => rfl)
    (fun σ H phi cl f c' A outer s1 H1 t g Q2 hPhi hr2 sm ht hg hw q => ?_))))), ?_⟩
  · obtain ⟨p, n, e2, e3, rfl⟩ := hPhi
    refine ⟨_, pe_cmpR (op_eqD hr2.units) (pv 0) (pe_tup (pa_cons (pv 1) (pa_cons (pv 2) pa_nil))) (nomark _), ?_⟩
    have es : startF ["fraction", "upper", "lower"] [.ref t] ([2, 3].map (slotAt σ)) = [some (.ref t), some (.int p), some (.int (n : Int))] := by
      have h2 : slotAt σ 2 = some (.int p) := by
        unfold NdefX.slotAt
        rw [e2]
      have h3 : slotAt σ 3 = some (.int (n : Int)) := by
        unfold NdefX.slotAt
        rw [e3]
      rw [List.map_cons, List.map_cons, List.map_nil, h2, h3]
      rfl
    rw [es]
    refine ⟨_, rfl, _, rfl, _, rfl, by show 2 ≤ sizeLine; decide, fun u hu => ?_⟩
    have s2 := same_new (o := .tup [.int p, .int (n : Int)]) hu
    have z := q _ s2
    refine ⟨_, _, dp_frac (FracT.keep ht s2), dp_frac (SqT.of upd_same), rfl, rfl, ?_⟩
    rw [dec_two]
    have e := dec_frac g ⟨p, n⟩
    rw [e]
    exact z
  · obtain ⟨ok, dx, lf, kv, h1, h2, h3⟩ := id G.at_
    refine ⟨_, rfl, b, _, rfl, hb, rfl, _, _, rfl, _, _, rfl, rfl, ?_⟩
    refine ⟨_, rfl, _, rfl, x, n, rfl, _, rfl, ?_⟩
    refine ite_b (fun c => ?_) (fun c => ?_)
    · have e : Kqz1.okFrac x n = false := (Bool.not_eq_true' _).mp c
      exact ⟨by show 1 ≤ sizeLine; decide, fun p hp => G.num (to_beyond e) (Same.refl H) hp⟩
    · have e : Kqz1.okFrac x n = true := (Bool.not_eq_false' _).mp c
      exact ⟨_, rfl, a, dx, _, rfl, h1, dF_no _ _ (by decide +kernel) (by decide +kernel), G.tabs, fun H2 eN T2 => Due.led G (Same.refl H) (to_found e) eN T2 ⟨x, n, rfl, rfl, rfl⟩⟩
abbrev sCloses : Stmt := top 45
theorem scCloses : FnScope ["drawing", "numbers", "size", "share", "name"] ["drawing", "numbers"] (defScope sCloses) := ⟨rfl, rfl, rfl, by decide +kernel, rfl, by decide +kernel, by decide +kernel⟩
theorem ok_closes {f : Addr} {fd : FuncData} {c : Addr} (D : DefC K mg "closes" sCloses ["drawing", "numbers"] f fd c) (L : Cl K C) (N : Nums mg) (LD : Led P w K mg base C) (LT : LamT T base mg c ("closes" ++ ".<locals>." ++ "<lambda>")) (CI : Can P w K mg base "is_ring" 2 ["size", "share"] spIsRing)
    (CR : Can P w K mg base "ring_of" 1 ["fraction"] (spRingOf K)) (CN : Can P w K mg base "name_of" 2 ["ring"] (spName K)) : Can P w K mg base "closes" 7 ["drawing", "numbers"] (spDeed K C T 12) := by
  refine D.ok scCloses len_deed (fun A outer s H vs Q E hr h => ?_)
  obtain ⟨a, b, d, ns, call, rfl, hb, ha1, hc, G⟩ := h
  obtain ⟨x, y, rfl⟩ := ask2 ha1 (by simp)
  have hxy : (Kqz6Neutral.natural x 32 && Kqz6Neutral.natural y 32) = true := ha1
  rw [Bool.and_eq_true] at hxy
  have ex := nat_of hxy.1
  have ey := nat_of hxy.2
  obtain rfl : Call.closes x.toNat y.toNat = call := Option.some.inj hc
  generalize x.toNat = m at ex G
  generalize y.toNat = n at ey G
  subst ex ey
  obtain ⟨tb, mB⟩ := N.beyond
  refine ⟨_, pss_cons (ps_asg (pv 1) (pg_unl rfl (pgs_cons (pg_name (i := 2) scCloses.nd rfl (.inl rfl)) (pgs_cons (pg_name (i := 3) scCloses.nd rfl (.inl rfl)) pgs_nil))))
    (pss_cons (ps_if (pt_not (pt_val (pe_can CI (hr.mono (by decide)) rfl (pa_cons (pv 2) (pa_cons (pv 3) pa_nil))))) (pss_one (ps_ret (pe_lst (pa_cons (pe_glob (v := .int (-22)) rfl mB ⟨_, rfl⟩) pa_nil)))) pss_nil)
    (pss_cons (ps_set (i := 4) scCloses.nd rfl (.inr rfl) (pe_can CN (hr.mono (by decide)) rfl (pa_cons (pe_tup (pa_cons (pv 2) (pa_cons (pv 3) pa_nil))) pa_nil)))
    (pss_one (ps_ret (pe_led (T := T) (N := ["fraction", "name"]) (fr := ["name"]) (js := [4]) (x := "fraction")
      (Phi := fun σ H phi => ∃ (u : Addr) (r : Ring), σ[4]? = some (some (.ref u)) ∧ RingT K H u r ∧ phi = fun f => decide (Kqz3.name (Kqz3.ringOf f) = r)) (pv 0) L.cl LD hr LT rfl (fun _ => rfl) (NdefX.nscope_by (by decide +kernel)) rfl (sc := defScope sCloses) rfl (by decide +kernel) (by decide +kernel) rfl (fun _ _ _ _ _ => rfl)
    (fun σ H phi cl f c' A outer s1 H1 t g Q2 hPhi hr2 sm ht hg hw q => ?_)))))), ?_⟩
  · obtain ⟨u, r, e4, hu, rfl⟩ := hPhi
    refine ⟨_, pe_cmpR (op_eqD hr2.units) (pe_can CN (hr2.mono (by decide)) rfl (pa_cons (pe_can CR (hr2.mono (by decide)) rfl (pa_cons (pv 0) pa_nil)) pa_nil)) (pv 1) (nomark _), ?_⟩
    have es : startF ["fraction", "name"] [.ref t] ([4].map (slotAt σ)) = [some (.ref t), some (.ref u)] := by
      have h4 : slotAt σ 4 = some (.ref u) := by
        unfold NdefX.slotAt
        rw [e4]
      rw [List.map_cons, List.map_nil, h4]
      rfl
    rw [es]
    refine ⟨_, rfl, t, g, rfl, ht, fun v hv => ?_⟩
    have s2 := same_new (o := .tup [.int ((Kqz3.ringOf g).p : Int), .int ((Kqz3.ringOf g).q : Int)]) hv
    have hsz : (Kqz3.ringOf g).p < 1073741824 := by
      have q := hw.1
      rw [ring_size]
      omega
    refine ⟨v, Kqz3.ringOf g, rfl, SqT.of upd_same, ring_ok hg, hsz, fun H3 n2 s3 hn => ?_⟩
    have s23 := s2.trans s3
    have z := q _ s23
    refine ⟨_, rfl, _, _, dp_frac hn, dp_frac (Same.ring (sm.trans s23) hu), rfl, rfl, ?_⟩
    rw [dec_two, dec_ring]
    exact z
  · obtain ⟨ok, dx, lf, kv, h1, h2, h3⟩ := id G.at_
    refine ⟨_, rfl, b, _, rfl, hb, rfl, _, _, rfl, _, _, rfl, rfl, ?_⟩
    refine ⟨_, rfl, _, rfl, m, n, rfl, _, rfl, ?_⟩
    refine ite_b (fun c => ?_) (fun c => ?_)
    · have e : Kqz3.okRing m n = false := (Bool.not_eq_true' _).mp c
      exact ⟨by show 1 ≤ sizeLine; decide, fun p hp => G.num (closes_beyond e) (Same.refl H) hp⟩
    · have e : Kqz3.okRing m n = true := (Bool.not_eq_false' _).mp c
      obtain ⟨rk, rs4⟩ := okRing_ok e
      have rs : m < 1073741824 := by omega
      refine ⟨_, rfl, _, rfl, by show 2 ≤ sizeLine; decide, fun u hu => ?_⟩
      have s1 := same_new (o := .tup [.int (m : Int), .int (n : Int)]) hu
      refine ⟨u, ⟨m, n⟩, rfl, SqT.of upd_same, rk, rs, fun H3 v s2 hv => ?_⟩
      have s12 := s1.trans s2
      refine ⟨_, rfl, a, dx, _, rfl, s12 _ _ h1, dF_no _ _ (by decide +kernel) (by decide +kernel), G.tabs.ext s12, fun H2 eN T2 => Due.led G s12 (closes_found e) eN T2 ⟨v, Kqz3.name ⟨m, n⟩, rfl, ExtN.tups eN _ _ hv, rfl⟩⟩
end
end FC
/-! The walk, part 16: told_of, answers. -/
namespace FC
open PySem PySem.Spec PyProof.Rows L2
open Kqz1 (Frac Figure)
open Kqz3 (Ring)
open Kqz6 (Desk Call Ans)
open LamX (Tabs TabS TabB ExtN CodeO)
/-! ### a written dict whose keys are whole numbers -/
def intsB (es : List DictEntry) : Bool := es.all fun e => match e.key with
  | .int k _ => e.hash == hashInt k
  | _ => false
theorem ints_of {P : Program} {w : World} {es : List DictEntry} (h : intsB es = true) : KeysOf (intKind P w) es.toArray := fun e he => by
  have z := List.all_eq_true.mp h e (by simpa using he)
  cases q : e.key with
  | int k t =>
    rw [q] at z
    exact ⟨k, intKind_is P w k t, beq_iff_eq.mp z⟩
  | _ =>
    rw [q] at z
    cases z
/-- the dict at a, written at the top, has v at the key c -/
def KIntD (K : PySem.W.Frag) (a : Addr) (c : Int) (v : Value) : Prop := ∃ es n, K.lookup a = some ⟨.type "dict", none, .dict (List.toArray es) n, #[]⟩ ∧ intsB es = true ∧ findBy Value.isInt es.toArray c = some v
def rIxKI (K : PySem.W.Frag) : R2 := fun x y H Q => ∃ a c u v, x = .ref a ∧ y = .int c ∧ KIntD K a c u ∧ RelV v u ∧ Q v H
theorem ix_kint {X : Cx} : IxR X (rIxKI X.K) := by
  intro value slice pins s σ H x y v u Q I rx ry h hs
  obtain ⟨a, c, u0, r, rfl, rfl, ⟨es, n, hl, hk, e⟩, ru, q⟩ := h
  obtain rfl : v = Value.ref a := rx
  obtain ⟨t, rfl⟩ := ry
  have hm : s.heap.MapOf (intKind X.prog X.w) a (fun k => findBy Value.isInt es.toArray k) := ⟨_, es.toArray, n, I.kIn _ _ hl, ⟨rfl, rfl, rfl⟩, rfl, ints_of hk, fun _ => rfl⟩
  exact tail_any hm.typeIs slot_dict_getitem.lookup (wpAny_getItem_of (intKind_is X.prog X.w c t) hm e ⟨r, H, I.tok _, ru, q⟩) hs
/-! ### a deed out of the dict -/
/-- the deed with the number c stands at f -/
structure DeedAt (P : Program) (w : World) (K : PySem.W.Frag) (mg : Str → Option Value) (base : Heap) (C : Addr) (T : List (Addr × Str)) (D : Addr) (c : Nat) : Prop where
  ex : ∃ x f, KIntD K D (c : Int) (.ref f) ∧ mg x = some (.ref f) ∧ Can P w K mg base x 7 ["drawing", "numbers"] (spDeed K C T c)
def tDeed (K : PySem.W.Frag) (C : Addr) (T : List (Addr × Str)) (DA : Nat → Addr → Prop) (i : Nat) (t : TA) : TE := fun σ H Q => ∃ c f, DA c f ∧ σ[i]? = some (some (.ref f)) ∧ t σ H fun vs H1 => spDeed K C T c vs H1 Q E0
theorem pe_deed {X : Cx} {C : Addr} {T : List (Addr × Str)} {DA : Nat → Addr → Prop} {k i : Nat} {x : Str} {p pos : Pos} {e : Expr} {es : List Expr} {t : TA}
    (A : ∀ c f, DA c f → ∃ (fd : FuncData) (ps : List Str), FnOk X.prog X.w X.K X.mg X.base CX0 k f fd ps (spDeed X.K C T c) ∧ PySem.W.keepIn X.K (.ref f) = true ∧ Binds X.K fd ps []) (hr : Room k X.A) (hN : X.N[i]? = some x) (hv : Vis X.env.scope x) (ha : PA X (e :: es) t)
    (hdb : (x == ("__debug__" : Str)) = false := by decide) (hcd : (x == ("__classdict__" : Str)) = false := by decide)
    (he : starEach (e :: es) X.env = (false, eval e X.env) :: starEach es X.env := by rfl) (hpl : (backTo pos (starEach es X.env)).any (·.1) = false := by rfl) : PE X (.Call (.Name x p) (e :: es) [] pos) (tDeed X.K C T DA i t) := by
  refine ⟨fun pins s σ H Q I h => ?_⟩
  obtain ⟨c, f, hA, hs, ht⟩ := h
  obtain ⟨fd, ps, F, hk, hb⟩ := A c f hA
  refine (pe_callL (i := i) (f := f) (sp := spDeed X.K C T c) (dvs := []) (E := E0) F hr hN hv hk hb .nil pass0 ha hdb hcd he hpl).run pins s σ H Q I ⟨hs, ?_⟩
  have e0 : (fun (vs : List V) (H1 : Hp) => spDeed X.K C T c (vs ++ []) H1 Q E0) = fun vs H1 => spDeed X.K C T c vs H1 Q E0 := by
    funext vs H1
    rw [List.append_nil]
  rw [e0]
  exact ht
/-! ### the drawing, or None -/
def StateV (K : PySem.W.Frag) (C : Addr) (H : Hp) (dv : V) (so : Option Desk) : Prop := match so with
  | none => dv = .non
  | some d => ∃ a, dv = .ref a ∧ DrawAt K C H a d
theorem StateV.keep {K : PySem.W.Frag} {C : Addr} {H H' : Hp} {dv : V} {so : Option Desk} (h : StateV K C H dv so) (e : Same H H') : StateV K C H' dv so := by
  cases so with
  | none => exact h
  | some d =>
    obtain ⟨a, h1, h2⟩ := h
    exact ⟨a, h1, h2.keep e⟩
theorem StateV.lst {K : PySem.W.Frag} {C : Addr} {H : Hp} {dv : V} {so : Option Desk} {b : Addr} {xs ys : List V} (h : StateV K C H dv so) (hb : H b = some (.lst xs)) (nb : ∀ a dx lf kv, dv = .ref a → H a = some (.ins C dx (dF lf kv)) → lf ≠ b) : StateV K C (upd H b (.lst ys)) dv so := by
  cases so with
  | none => exact h
  | some d =>
    obtain ⟨a, h1, ok, dx, lf, kv, h2, h3, h4⟩ := h
    refine ⟨a, h1, ok, dx, lf, kv, ?_, ?_, h4.keep (tups_lst hb)⟩
    · rw [upd_ne (ne_of h2 hb (fun z => by cases z))]
      exact h2
    · rw [upd_ne (nb a dx lf kv h1 h2)]
      exact h3
/-- what the drawing does not hold stays -/
def KeptV2 (H H' : Hp) (dv : V) : Prop := ∀ b o, H b = some o → dv ≠ .ref b → (∀ ps, o ≠ .tbl ps) → H' b = some o
def spTold (K : PySem.W.Frag) (C : Addr) (T : List (Addr × Str)) : Sp := fun vs H Q _ => ∃ (dv : V) (c : Nat) (b : Addr) (ns : List Int) (so : Option Desk) (call : Call), vs = [dv, .int (c : Int), .ref b] ∧ 1 ≤ c ∧ c ≤ 20 ∧ SqL K H b (ns.map V.int) ∧ Kqz6Neutral.asked1 [(c : Int) :: ns] = true ∧
  Kqz6Neutral.callOf [(c : Int) :: ns] = some call ∧ StateV K C H dv so ∧ Tabs T H ∧ (Kqz6Neutral.tell (Kqz6.step so call).2).length ≤ 1000200 ∧
  ∀ so' ans H' p, Kqz6.step so call = (so', ans) → KeptV2 H H' dv → Tabs T H' → StateV K C H' dv so' → (∀ a, dv = .ref a → OwnL C H H' a) → NoL H p → H' p = some (.lst (ansV ans)) → Q (.ref p) H'
theorem not_start {c : Nat} {ns : List Int} {call : Call} (h : Kqz6Neutral.callOf [(c : Int) :: ns] = some call) (hc : 1 ≤ c) : call ≠ .start := by
  intro e
  subst e
  unfold Kqz6Neutral.callOf at h
  split at h <;> first | cases h | skip
  rename_i z
  have z1 : (c : Int) = 0 := (List.cons.inj (List.cons.inj z).1).1
  omega
theorem asked_call {c : List (List Int)} (h : Kqz6Neutral.asked1 c = true) : ∃ call, Kqz6Neutral.callOf c = some call := by
  unfold Kqz6Neutral.asked1 at h
  split at h <;> first | exact ⟨_, rfl⟩ | cases h
section
variable {P : Program} {w : World} {K : PySem.W.Frag} {mg : Str → Option Value} {base : Heap} {C : Addr} {T : List (Addr × Str)}
abbrev sTold : Stmt := top 62
theorem scTold : FnScope ["drawing", "call", "numbers", "deed"] ["drawing", "call", "numbers"] (defScope sTold) := ⟨rfl, rfl, rfl, by decide +kernel, rfl, by decide +kernel, by decide +kernel⟩
theorem ok_told {f D : Addr} {fd : FuncData} {t11 : Tok} (F : Def K mg "told_of" sTold ["drawing", "call", "numbers"] f fd) (mN : mg "NOT_BEGUN" = some (.int (-11) t11)) (mD : mg "DEEDS" = some (.ref D)) (DD : ∀ c, 1 ≤ c → c ≤ 20 → DeedAt P w K mg base C T D c) :
    Can P w K mg base "told_of" 8 ["drawing", "call", "numbers"] (spTold K C T) := by
  refine F.can (F.fn.ok scTold (fun vs H Q E h => ?_) (fun cdv A outer s H vs Q E hr h => ?_))
  · obtain ⟨dv, c, b, ns, so, call, rfl, _⟩ := h
    rfl
  · obtain ⟨dv, c, b, ns, so, call, rfl, hc1, hc2, hb, ha1, hcall, hS, hT, hfew, q⟩ := h
    refine ⟨_, pss_cons (ps_if (pt_cmpR op_isN (pv 0) pe_non (nomark _)) (pss_one (ps_ret (pe_lst (pa_cons (pe_glob (v := .int (-11)) rfl mN ⟨_, rfl⟩) pa_nil)))) pss_nil)
      (pss_cons (ps_set (i := 3) scTold.nd rfl (.inl rfl) (pe_ix ix_kint (pe_glob (v := .ref D) rfl mD rfl) (pv 1) (fun _ _ => rfl)))
      (pss_one (ps_ret (pe_deed (C := C) (T := T) (DA := fun c f => ∃ x, mg x = some (.ref f) ∧ Can P w K mg base x 7 ["drawing", "numbers"] (spDeed K C T c)) (k := 7) (i := 3)
        (fun c f ⟨x, hm, CN⟩ => by
          obtain ⟨g, fd2, F2, hg, hk, hb2⟩ := CN.ex
          rw [hm] at hg
          cases hg
          exact ⟨fd2, _, F2, hk, hb2⟩) hr rfl (.inl rfl) (pa_cons (pv 0) (pa_cons (pv 2) pa_nil)))))), ?_⟩
    refine ⟨_, rfl, rfl, _, rfl, ?_⟩
    cases so with
    | none =>
      have hS : dv = .non := hS
      subst hS
      refine ite_yes rfl ⟨by show 1 ≤ sizeLine; decide, fun p hp => ?_⟩
      have s1 := same_new (o := .lst [.int (-11)]) hp
      exact q none (.num (-11)) _ p (step_none call (not_start hcall hc1)) (fun b o e _ _ => s1 _ _ e) (hT.ext s1) rfl (fun a z => by cases z) (.of hp) upd_same
    | some d =>
      obtain ⟨a, rfl, hd⟩ := hS
      obtain ⟨x, g, hD, hm, CN⟩ := (DD c hc1 hc2).ex
      refine ite_no (fun z => by cases z) ?_
      refine ⟨_, rfl, D, (c : Int), .ref g, .ref g, rfl, rfl, hD, rfl, ?_⟩
      refine ⟨c, g, ⟨x, hm, CN⟩, rfl, _, rfl, _, rfl, a, b, d, ns, call, rfl, hb, ha1, hcall, ⟨hd, hT, hfew, fun d' ans H' p e k t D' ow hn hp => ?_⟩⟩
      exact q (some d') ans H' p e (fun b o e n t2 => k b o e (fun z => n (by rw [z])) t2) t ⟨a, rfl, D'⟩ (fun a2 z => by cases z; exact ow) hn hp
end
end FC
/-! The walk, part 17: answers. -/
namespace FC
open PySem PySem.Spec PyProof.Rows L2
open Kqz1 (Frac Figure)
open Kqz3 (Ring)
open Kqz6 (Desk Call Ans)
open LamX (Tabs TabS TabB ExtN CodeO)
/-- a list that is handed in -/
def Given (K : PySem.W.Frag) (H : Hp) (a : Addr) (xs : List V) : Prop := (∃ o, H a = some (.frz o (.lst xs))) ∨ ∀ H' : Hp, SqL K H' a xs
theorem Given.sq {K : PySem.W.Frag} {H : Hp} {a : Addr} {xs : List V} (h : Given K H a xs) : SqL K H a xs := h.elim (fun z => .inl (.inr z)) fun z => z H
theorem Given.keep {K : PySem.W.Frag} {H H' : Hp} {a : Addr} {xs : List V} (h : Given K H a xs) (k : ∀ o u, H a = some (.frz o u) → H' a = some (.frz o u)) : Given K H' a xs := h.elim (fun ⟨o, z⟩ => .inl ⟨o, k _ _ z⟩) .inr
theorem Given.upd {K : PySem.W.Frag} {H : Hp} {a b : Addr} {xs ys zs : List V} (h : Given K H a xs) (hb : H b = some (.lst ys)) : Given K (upd H b (.lst zs)) a xs := h.keep fun o u e => by
  rw [upd_ne (ne_of e hb (fun z => by cases z))]
  exact e
theorem tabs_lst {T : List (Addr × Str)} {H : Hp} {b : Addr} {xs ys : List V} (t : Tabs T H) (hb : H b = some (.lst xs)) : Tabs T (upd H b (.lst ys)) := fun p hp => by
  obtain ⟨ps, h1, h2, h3⟩ := t p hp
  refine ⟨ps, ?_, h2, fun pos cv hc => ?_⟩
  · rw [upd_ne (ne_of h1 hb (fun z => by cases z))]
    exact h1
  · obtain ⟨c, e1, e2⟩ := h3 pos cv hc
    refine ⟨c, e1, ?_⟩
    rw [upd_ne (ne_of e2 hb (fun z => by unfold LamX.CodeO at z; cases z))]
    exact e2
/-- the drawing's list is not the one at fa -/
def Off (C : Addr) (H : Hp) (dv : V) (fa : Addr) : Prop := ∀ b dx lf kv, dv = .ref b → H b = some (.ins C dx (dF lf kv)) → lf ≠ fa
/-- what stands between two calls -/
structure Mid (K : PySem.W.Frag) (C : Addr) (T : List (Addr × Str)) (a fa : Addr) (l : List Int) (H : Hp) (dv : V) (so : Option Desk) (out : List Int) : Prop where
  given : Given K H a (l.map V.int)
  found : H fa = some (.lst (out.map V.int))
  state : StateV K C H dv so
  off : Off C H dv fa
  tabs : Tabs T H
section
variable {K : PySem.W.Frag} {C : Addr} {T : List (Addr × Str)} {a fa : Addr} {l out out2 : List Int} {H H' : Hp} {dv : V} {so : Option Desk}
theorem Mid.same (M : Mid K C T a fa l H dv so out) (s : Same H H') : Mid K C T a fa l H' dv so out := by
  refine ⟨M.given.keep fun o u e => s _ _ e, s _ _ M.found, M.state.keep s, fun b dx lf kv e h => ?_, M.tabs.ext s⟩
  cases so with
  | none =>
    have z : dv = .non := M.state
    rw [z] at e
    cases e
  | some d =>
    obtain ⟨b2, e2, ok, dx2, lf2, kv2, h2, _⟩ := M.state
    rw [e] at e2
    obtain rfl := V.ref.inj e2
    rw [s _ _ h2] at h
    rw [← ins_inj h]
    exact M.off b dx2 lf2 kv2 e h2
theorem Mid.upd (M : Mid K C T a fa l H dv so out) : Mid K C T a fa l (upd H fa (.lst (out2.map V.int))) dv so out2 := by
  refine ⟨M.given.upd M.found, upd_same, M.state.lst M.found M.off, fun b dx lf kv e h => ?_, tabs_lst M.tabs M.found⟩
  by_cases c : b = fa
  · rw [c, upd_same] at h
    cases h
  · rw [upd_ne c] at h
    exact M.off b dx lf kv e h
/-- behind a call on the drawing -/
theorem Mid.told {so2 : Option Desk} (M : Mid K C T a fa l H dv so out) (k : KeptV2 H H' dv) (t : Tabs T H') (s : StateV K C H' dv so2) (ow : ∀ b, dv = .ref b → OwnL C H H' b) : Mid K C T a fa l H' dv so2 out := by
  have nd : ∀ b o, H b = some o → (∀ C dx fs, o ≠ .ins C dx fs) → dv ≠ .ref b := fun b o e n z => by
    cases so with
    | none =>
      have y : dv = .non := M.state
      rw [y] at z
      cases z
    | some d =>
      obtain ⟨b2, e2, ok, dx2, lf2, kv2, h2, _⟩ := M.state
      rw [z] at e2
      obtain rfl := V.ref.inj e2
      rw [e] at h2
      exact n _ _ _ (Option.some.inj h2)
  refine ⟨M.given.keep fun o u e => k _ _ e (nd _ _ e fun _ _ _ z => by cases z) (fun _ z => by cases z), k _ _ M.found (nd _ _ M.found fun _ _ _ z => by cases z) (fun _ z => by cases z), s, fun b dx lf kv e h => ?_, t⟩
  rcases ow b e lf dx kv h with n | ⟨dx0, kv0, n⟩
  · intro z
    rw [z, M.found] at n
    cases n
  · exact M.off b dx0 lf kv0 e n
end
theorem ints_snoc (out : List Int) (v : Int) : out.map V.int ++ [V.int v] = (out ++ [v]).map V.int := by
  rw [List.map_append]
  rfl
theorem ints_app (out ans : List Int) : out.map V.int ++ ans.map V.int = (out ++ ans).map V.int := by
  rw [List.map_append]
theorem cut_mid (xs : List V) (i n : Nat) (h : i + n ≤ xs.length) : cutV xs (some (i : Int)) (some ((i : Int) + (n : Int))) = (xs.drop i).take n := by
  unfold cutV
  have e1 : HT.sIx xs.length 0 (some (i : Int)) = i := by
    rw [HT.sIx_nat]
    omega
  have e2 : HT.sIx xs.length xs.length (some ((i : Int) + (n : Int))) = i + n := by
    have e : ((i : Int) + (n : Int)) = ((i + n : Nat) : Int) := by omega
    rw [e, HT.sIx_nat]
    omega
  rw [e1, e2, Nat.add_sub_cancel_left]
section
variable {P : Program} {w : World} {K : PySem.W.Frag} {mg : Str → Option Value} {base : Heap} {C : Addr} {T : List (Addr × Str)}
abbrev sAns : Stmt := top 63
abbrev nAns : List Str := ["calls", "found", "drawing", "at", "call", "many", "numbers", "told"]
theorem scAns : FnScope nAns ["calls"] (defScope sAns) := ⟨rfl, rfl, rfl, by decide +kernel, rfl, by decide +kernel, by decide +kernel⟩
def spAns (K : PySem.W.Frag) (T : List (Addr × Str)) : Sp := fun vs H Q _ => ∃ a l, vs = [.ref a] ∧ Given K H a (l.map V.int) ∧ PyKqz6.answers_asked l = true ∧ Tabs T H ∧ ∀ H' p, H' p = some (.lst ((PyKqz6.answers l).map V.int)) → Q (.ref p) H'
theorem ok_ans {f fI aC : Addr} {fd fdI : FuncData} {t0 : Tok} (F : Def K mg "answers" sAns ["calls"] f fd) (B : Blt mg) (mS : mg "START" = some (.int 0 t0)) (mC : mg "COUNTS" = some (.ref aC)) (hC : ∀ H : Hp, SqT K H aC (counts.map V.int)) (mD : mg "Drawing" = some (.ref C))
    (M : Mk K C fI) (FI : FnOk P w K mg base CX0 1 fI fdI ["self"] (spInit K C)) (bI : Binds K fdI ["self"] []) (CT : Can P w K mg base "told_of" 8 ["drawing", "call", "numbers"] (spTold K C T)) :
    FnOk P w K mg base CX0 9 f fd ["calls"] (spAns K T) := by
  refine F.fn.ok scAns (fun vs H Q E h => ?_) (fun cdv A outer s H vs Q E hr h => ?_)
  · obtain ⟨a, l, rfl, _⟩ := h
    rfl
  · obtain ⟨a, l, rfl, hg, hask, hT, q⟩ := h
    obtain ⟨hR0, hL0⟩ := rest_start hask
    refine ⟨_, pss_cons (ps_set (i := 1) scAns.nd rfl (.inl rfl) (pe_lst pa_nil))
      (pss_cons (ps_set (i := 2) scAns.nd rfl (.inl rfl) pe_non)
      (pss_cons (ps_set (i := 3) scAns.nd rfl (.inl rfl) pe_int)
      (pss_cons (ps_while PassesOwn.never (pt_cmpR op_lt (pv 3) (pe_callB call_len_seq (by rfl) B.len PySem.boot_len (pa_cons (pv 0) pa_nil)) (nomark _))
        (pss_cons (ps_par (i := 4) (j := 5) rfl scAns.nd rfl rfl (by decide) rfl rfl (pa_cons (pe_ix ix_list (pv 0) (pv 3) (fun _ _ => rfl)) (pa_cons (pe_ix ix_tup (pe_glob (v := .ref aC) rfl mC rfl) (pe_ix ix_list (pv 0) (pv 3) (fun _ _ => rfl)) (fun _ _ => rfl)) pa_nil)) (by rfl))
        (pss_cons (ps_set (i := 6) scAns.nd rfl (.inl rfl) (pe_slice sl_list (pv 0) (po_some (pe_op op_add (pv 3) pe_int)) (po_some (pe_op op_add (pe_op op_add (pv 3) pe_int) (pv 5)))))
        (pss_cons (ps_if (pt_cmpR op_eq (pv 4) (pe_glob (v := .int 0) rfl mS ⟨_, rfl⟩) (nomark _)) (pss_one (ps_set (i := 2) scAns.nd rfl (.inl rfl) (pe_make0 M FI (hr.mono (by decide)) rfl mD bI .nil pass0))) pss_nil)
        (pss_cons (ps_set (i := 7) scAns.nd rfl (.inl rfl) (pe_ifExp (pt_cmpR op_eq (pv 4) (pe_glob (v := .int 0) rfl mS ⟨_, rfl⟩) (nomark _)) (pe_lst (pa_cons pe_int pa_nil)) (pe_can CT hr rfl (pa_cons (pv 2) (pa_cons (pv 4) (pa_cons (pv 6) pa_nil))))))
        (pss_cons (ps_expr (pe_bm PySem.F.plainAttrs_list PySem.F.slot_list_append PySem.F.type_list_append mt_append (pv 1) (pa_cons (pe_callB call_len_seq (by rfl) B.len PySem.boot_len (pa_cons (pv 7) pa_nil)) pa_nil)))
        (pss_cons (ps_expr (pe_bm PySem.F.plainAttrs_list PySem.F.slot_list_extend PySem.F.type_list_extend mt_extend (pv 1) (pa_cons (pv 7) pa_nil)))
        (pss_one (ps_aug (i := 3) scAns.nd rfl (.inl rfl) (pe_op op_add pe_int (pv 5)) ip_add)))))))))
      (pss_one (ps_ret (pv 1)))))), ?_⟩
    refine ⟨Nat.zero_le _, fun fa hfa => ?_⟩
    have s1 := same_new (o := .lst []) hfa
    refine while_by (fun σ H' => ∃ (i : Nat) (dv : V) (so : Option Desk) (out rest : List Int) (v4 v5 v6 v7 : Option V), σ = [some (.ref a), some (.ref fa), some dv, some (.int (i : Int)), v4, v5, v6, v7] ∧ Mid K C T a fa l H' dv so out ∧ Rest so (l.drop i) rest ∧ out ++ rest = PyKqz6.answers l ∧ i ≤ l.length)
      (fun σ _ => match σ with | [_, _, _, some (.int i), _, _, _, _] => l.length - i.toNat | _ => 0)
      ⟨0, .non, none, [], _, none, none, none, none, rfl, ⟨hg.keep fun o u e => s1 _ _ e, upd_same, rfl, (fun b dx lf kv e => by cases e), hT.ext s1⟩, hR0, rfl, Nat.zero_le _⟩ ?_ ?_
    · rintro σ H' ⟨i, dv, so, out, rest, v4, v5, v6, v7, rfl, MM, hR, hE, hi⟩
      refine ⟨_, rfl, _, rfl, a, _, rfl, .inl MM.given.sq, _, _, rfl, rfl, _, rfl, ?_⟩
      rw [List.length_map, dec_lt]
      by_cases c : i < l.length
      · refine ite_yes c ?_
        have hdrop : l.drop i = l[i] :: l.drop (i + 1) := List.drop_eq_getElem_cons c
        have hli : l[i]? = some l[i] := List.getElem?_eq_getElem c
        rw [hdrop] at hR
        have hrl : (l.drop (i + 1)).length = l.length - (i + 1) := List.length_drop
        generalize l[i] = x at hR hli
        obtain ⟨cn, n, rfl, hcn, hn, hnl, hask1, out', eo, hR'⟩ := rest_cons hR
        rw [hrl] at hnl
        have hR2 : Rest (Kqz6Neutral.step so [(cn : Int) :: (l.drop (i + 1)).take n]).1 (l.drop (i + 1 + n)) out' := by
          rw [List.drop_drop] at hR'
          exact hR'
        have hx : (l.map V.int)[i]? = some (V.int (cn : Int)) := by
          rw [List.getElem?_map, hli]
          rfl
        have hcx : (counts.map V.int)[cn]? = some (V.int (n : Int)) := by
          rw [List.getElem?_map, hn]
          rfl
        have ecut : cutV (l.map V.int) (some ((i : Int) + 1)) (some ((i : Int) + 1 + (n : Int))) = ((l.drop (i + 1)).take n).map V.int := by
          have z := cut_mid (l.map V.int) (i + 1) n (by rw [List.length_map]; omega)
          rw [← List.map_drop, ← List.map_take] at z
          exact z
        have hlen : out.length + (Kqz6Neutral.step so [(cn : Int) :: (l.drop (i + 1)).take n]).2.length + 1 ≤ 1000200 := by
          have z := congrArg List.length hE
          rw [eo, List.length_append, List.length_append, List.length_cons] at z
          omega
        obtain ⟨call, hcall⟩ := asked_call hask1
        refine ⟨_, rfl, _, rfl, a, _, _, _, rfl, rfl, MM.given.sq, atI_nat hx, ?_⟩
        refine ⟨_, rfl, _, rfl, a, _, _, _, rfl, rfl, MM.given.sq, atI_nat hx, aC, _, _, _, rfl, rfl, hC _, atI_nat hcx, _, _, rfl, ?_⟩
        refine ⟨_, rfl, _, rfl, (i : Int), 1, rfl, rfl, _, rfl, _, rfl, (i : Int), 1, rfl, rfl, _, rfl, _, (n : Int), rfl, rfl, _, rfl, a, _, rfl, MM.given.sq, fun b hb => ?_⟩
        rw [ecut]
        have s2 := same_new (o := .lst (((l.drop (i + 1)).take n).map V.int)) hb
        have M2 := MM.same s2
        refine ⟨_, rfl, rfl, _, rfl, ?_⟩
        rw [eq_ii]
        by_cases c0 : (cn : Int) = 0
        · have c0' : cn = 0 := by omega
          subst c0'
          have hn0 : n = 0 := by
            have z : ((0 : Nat) : Int) = (n : Int) := Option.some.inj hn
            omega
          subst hn0
          have es : Kqz6Neutral.step so [((0 : Nat) : Int) :: (l.drop (i + 1)).take 0] = (some ⟨[], none⟩, [0]) := by
            rw [List.take_zero]
            cases so <;> rfl
          refine ite_yes rfl ?_
          intro x dx hx hdx hne
          have s3 : Same (upd H' b (.lst (((l.drop (i + 1)).take 0).map V.int))) (upd (upd (upd H' b (.lst (((l.drop (i + 1)).take 0).map V.int))) dx (.own x)) x (.ins C dx [])) := (same_new hdx).trans (same_new (by rw [upd_ne hne.symm]; exact hx))
          refine ⟨x, dx, rfl, upd_same, fun H2 D2 B2 O2 => ⟨rfl, ?_⟩⟩
          have s4 : Same (upd H' b (.lst (((l.drop (i + 1)).take 0).map V.int))) H2 := fun y o ey => B2 y o (s3 y o ey) (ne_of_none ey hx)
          rw [es] at hR2 eo hlen
          have MX : Mid K C T a fa l H2 (.ref x) (some ⟨[], none⟩) out := by
            refine ⟨M2.given.keep fun o u ey => s4 _ _ ey, s4 _ _ M2.found, ⟨x, rfl, D2⟩, fun y dy lf kv ey h z => ?_, M2.tabs.ext s4⟩
            obtain rfl := V.ref.inj ey
            rcases O2 lf dy kv h with nn | ⟨dx0, kv0, nn⟩
            · rw [z, s3 _ _ M2.found] at nn
              cases nn
            · rw [upd_same] at nn
              have z1 := Option.some.inj nn
              injection z1 with _ _ z3
              exact absurd z3 (by unfold dF; exact fun w => by cases w)
          refine ⟨_, rfl, rfl, _, rfl, ?_⟩
          rw [eq_ii]
          refine ite_yes rfl ⟨by show 1 ≤ sizeLine; decide, fun p hp => ?_⟩
          have M3 := MX.same (same_new (o := .lst [.int 0]) hp)
          have hp3 : upd H2 p (.lst [.int 0]) p = some (.lst [.int 0]) := upd_same
          have np : p ≠ fa := fun z => by
            rw [z, MX.found] at hp
            cases hp
          have hE3 : out ++ ([1] ++ ([0] ++ out')) = PyKqz6.answers l := by
            rw [← hE, eo]
            rfl
          have hlen : out.length + 1 + 1 ≤ 1000200 := hlen
          refine ⟨_, rfl, .inl ⟨rfl, _, SqL.of M3.found⟩, _, rfl, p, _, rfl, .inl (SqL.of hp3), fa, _, _, rfl, rfl, M3.found, ?_, ?_⟩
          · rw [List.length_map]
            exact Nat.lt_of_le_of_lt (show _ ≤ 1000200 by omega) (by show 1000200 < sizeLine; decide)
          have M4 := M3.upd (out2 := out ++ [1])
          have e4 : out.map V.int ++ [V.int (([V.int 0] : List V).length : Int)] = (out ++ [1]).map V.int := ints_snoc out 1
          rw [e4]
          have hp4 : upd (upd H2 p (.lst [.int 0])) fa (.lst ((out ++ [1]).map V.int)) p = some (.lst [.int 0]) := by
            rw [upd_ne np]
            exact hp3
          refine ⟨_, rfl, .inl ⟨rfl, _, SqL.of M4.found⟩, _, rfl, fa, p, _, _, rfl, rfl, M4.found, hp4, ?_, ?_⟩
          · rw [List.length_map, List.length_append, List.length_singleton]
            exact Nat.le_trans (show _ ≤ 1000202 by simp only [List.length_singleton]; omega) (by show 1000202 ≤ sizeLine; decide)
          have M5 := M4.upd (out2 := out ++ [1] ++ [0])
          have e5 : (out ++ [1]).map V.int ++ [V.int 0] = (out ++ [1] ++ [0]).map V.int := ints_snoc _ 0
          rw [e5]
          have eat : (i : Int) + (1 + ((0 : Nat) : Int)) = ((i + 1 + 0 : Nat) : Int) := by omega
          refine ⟨_, rfl, _, rfl, 1, ((0 : Nat) : Int), rfl, rfl, (i : Int), _, rfl, rfl, ?_⟩
          dsimp only
          rw [eat]
          refine ⟨⟨i + 1 + 0, _, _, _, out', _, _, _, _, rfl, M5, hR2, ?_, by omega⟩, ?_⟩
          · rw [List.append_assoc, List.append_assoc]
            exact hE3
          · show l.length - ((i + 1 + 0 : Nat) : Int).toNat < l.length - ((i : Nat) : Int).toNat
            rw [Int.toNat_natCast, Int.toNat_natCast]
            omega
        · refine ite_no c0 ?_
          refine ⟨_, rfl, rfl, _, rfl, ?_⟩
          rw [eq_ii]
          refine ite_no c0 ?_
          refine ⟨_, rfl, _, rfl, _, rfl, dv, cn, b, _, so, call, rfl, by omega, hcn, SqL.of upd_same, hask1, hcall, M2.state, M2.tabs, ?_, fun so' ans H3 p e k t st ow nl hp3 => ?_⟩
          · have z : Kqz6Neutral.step so [(cn : Int) :: (l.drop (i + 1)).take n] = ((Kqz6.step so call).1, Kqz6Neutral.tell (Kqz6.step so call).2) := by
              unfold Kqz6Neutral.step
              rw [hcall]
            rw [z] at hlen
            have hlen : out.length + (Kqz6Neutral.tell (Kqz6.step so call).2).length + 1 ≤ 1000200 := hlen
            omega
          have es : Kqz6Neutral.step so [(cn : Int) :: (l.drop (i + 1)).take n] = (so', Kqz6Neutral.tell ans) := by
            unfold Kqz6Neutral.step
            rw [hcall]
            show ((Kqz6.step so call).1, Kqz6Neutral.tell (Kqz6.step so call).2) = _
            rw [e]
          rw [es] at hR2 hlen eo
          have M3 := M2.told k t st ow
          have np : p ≠ fa := fun z => nl _ (by rw [z]; exact M2.found)
          have hR3 : Rest so' (l.drop (i + 1 + n)) out' := hR2
          have hE3 : out ++ ([((Kqz6Neutral.tell ans).length : Int)] ++ (Kqz6Neutral.tell ans ++ out')) = PyKqz6.answers l := by
            rw [← hE, eo]
            rfl
          have hlen : out.length + (Kqz6Neutral.tell ans).length + 1 ≤ 1000200 := hlen
          have hp3 : H3 p = some (.lst ((Kqz6Neutral.tell ans).map V.int)) := hp3
          refine ⟨_, rfl, .inl ⟨rfl, _, SqL.of M3.found⟩, _, rfl, p, _, rfl, .inl (SqL.of hp3), fa, _, _, rfl, rfl, M3.found, ?_, ?_⟩
          · rw [List.length_map]
            exact Nat.lt_of_le_of_lt (show _ ≤ 1000200 by omega) (by show 1000200 < sizeLine; decide)
          rw [List.length_map, ints_snoc]
          have M4 := M3.upd (out2 := out ++ [((Kqz6Neutral.tell ans).length : Int)])
          have hp4 : upd H3 fa (.lst ((out ++ [((Kqz6Neutral.tell ans).length : Int)]).map V.int)) p = some (.lst ((Kqz6Neutral.tell ans).map V.int)) := by
            rw [upd_ne np]
            exact hp3
          refine ⟨_, rfl, .inl ⟨rfl, _, SqL.of M4.found⟩, _, rfl, fa, p, _, _, rfl, rfl, M4.found, hp4, ?_, ?_⟩
          · rw [List.length_map, List.length_map, List.length_append, List.length_singleton]
            exact Nat.le_trans (show _ ≤ 1000200 by omega) (by show 1000200 ≤ sizeLine; decide)
          rw [ints_app]
          have M5 := M4.upd (out2 := out ++ [((Kqz6Neutral.tell ans).length : Int)] ++ Kqz6Neutral.tell ans)
          have eat : (i : Int) + (1 + (n : Int)) = ((i + 1 + n : Nat) : Int) := by omega
          refine ⟨_, rfl, _, rfl, 1, (n : Int), rfl, rfl, (i : Int), _, rfl, rfl, ?_⟩
          dsimp only
          rw [eat]
          refine ⟨⟨i + 1 + n, _, _, _, out', _, _, _, _, rfl, M5, hR3, ?_, by omega⟩, ?_⟩
          · rw [List.append_assoc, List.append_assoc]
            exact hE3
          · show l.length - ((i + 1 + n : Nat) : Int).toNat < l.length - ((i : Nat) : Int).toNat
            rw [Int.toNat_natCast, Int.toNat_natCast]
            omega
      · refine ite_no c ⟨_, rfl, ?_⟩
        have e0 : l.drop i = [] := List.drop_eq_nil_of_le (by omega)
        rw [e0] at hR
        have e1 := rest_nil hR
        subst e1
        rw [List.append_nil] at hE
        refine q H' fa ?_
        rw [← hE]
        exact MM.found
    · rintro σ H' Q Q' hQ ⟨v, h1, v0, h2, a2, xs, h3, h4, i, j, h5, h6, k, h7, h8⟩
      exact ⟨v, h1, v0, h2, a2, xs, h3, h4, i, j, h5, h6, k, h7, hQ _ _ h8⟩
end
end FC
/-! The walk, part 18: the end of a Spec row whose defs make lambdas: each such def's code object has a table, empty as the call begins; tables may grow, all else stays. -/
namespace FC
open PySem PySem.Spec PyProof.Rows L2
open PySem.W (WData Codec OpenSpec)
/-- each pair: a code object, its table -/
abbrev Pairs2 := List (Addr × Addr)
def isTab (cs : Pairs2) (b : Addr) : Prop := ∃ p ∈ cs, p.2 = b
/-- tables known to be empty, beside what H0 tracks -/
noncomputable def withTabs (cs : Pairs2) (H0 : Hp) : Hp := fun b => open Classical in if isTab cs b then some (.tbl #[]) else H0 b
theorem with_in {cs : Pairs2} {H0 : Hp} {b : Addr} (t : isTab cs b) : withTabs cs H0 b = some (.tbl #[]) := by
  unfold withTabs
  exact if_pos t
theorem with_out {cs : Pairs2} {H0 : Hp} {b : Addr} (t : ¬ isTab cs b) : withTabs cs H0 b = H0 b := by
  unfold withTabs
  exact if_neg t
/-- as the call begins: what H tracks of the heap h -/
structure Begun (P : Program) (w : World) (K : PySem.W.Frag) (cs : Pairs2) (h : Heap) (H : Hp) : Prop where
  ok : HOk P w H h
  out : ∀ b o, K.lookup b = some o → H b = none
  plain : ∀ b o, h.get? b = some o → H b = none ∨ (∃ vs n, o.data = .seq vs n) ∨ o.data = .fields #[]
  tabs : ∀ b, isTab cs b → H b = some (.tbl #[])
  rest : ∀ b, ¬ isTab cs b → H b = none ∨ ∃ o u, H b = some (.frz o u)
section
variable {P : Program} {w : World} {K : PySem.W.Frag} {cs : Pairs2} {h : Heap} {H : Hp} {A : List Addr}
/-- from the arguments' objects A -/
theorem begun_args (KX : K.In h) (ar : ∀ a ∈ A, ArgOb h A a) (hT : ∀ p ∈ cs, h.get? p.2 = some (PySem.W.tabObj #[])) (nT : ∀ p ∈ cs, K.lookup p.2 = none) :
    Begun P w K cs h (withTabs cs (argH K h A)) ∧ Same (argH K h A) (withTabs cs (argH K h A)) := by
  have empt : ∀ b, isTab cs b → h.get? b = some (PySem.W.tabObj #[]) := fun b ⟨p, hp, e⟩ => e ▸ hT p hp
  have seen : ∀ b u, argH K h A b = some u → K.lookup b = none ∧ ¬ isTab cs b ∧ ∃ o vs n, h.get? b = some o ∧ o.data = .seq vs n := fun b u q => by
    obtain ⟨kn, vs, _, _, two⟩ := argH_is ar q
    have ex : ∃ o vs n, h.get? b = some o ∧ o.data = .seq vs n := two.elim (fun z => ⟨_, _, _, z.1, rfl⟩) fun z => ⟨_, _, _, z.1, rfl⟩
    refine ⟨kn, fun t => ?_, ex⟩
    obtain ⟨o, vs, n, e, d⟩ := ex
    rw [empt b t] at e
    rw [← Option.some.inj e] at d
    cases d
  refine ⟨⟨fun b u q => ?_, fun b o e => ?_, fun b o e => ?_, fun b t => with_in t, fun b t => ?_⟩, fun b o e => by rw [with_out (seen b o e).2.1]; exact e⟩
  · by_cases t : isTab cs b
    · rw [with_in t] at q
      rw [← Option.some.inj q]
      exact empt b t
    · rw [with_out t] at q
      obtain ⟨_, vs, lv, kv, two⟩ := argH_is ar q
      have hl : (vs.map toV).length ≤ sizeLine := by
        rw [List.length_map]
        exact lv
      rcases two with ⟨e, eu⟩ | ⟨e, eu⟩
      · rw [eu]
        exact ⟨e, hl, vs, _, vals_toV kv, e⟩
      · rw [eu]
        exact ⟨e, hl, vs, vals_toV kv, _, e, rfl, _, rfl⟩
  · by_cases t : isTab cs b
    · obtain ⟨p, hp, rfl⟩ := t
      exact absurd ((nT p hp).symm.trans e) (fun z => by cases z)
    · rw [with_out t]
      cases q : argH K h A b with
      | none => rfl
      | some u => exact absurd ((seen b u q).1.symm.trans e) (fun z => by cases z)
  · by_cases t : isTab cs b
    · have z := (empt b t).symm.trans e
      exact .inr (.inr (by rw [← Option.some.inj z]))
    · rw [with_out t]
      cases q : argH K h A b with
      | none => exact .inl rfl
      | some u =>
        obtain ⟨_, _, o2, vs, n, e2, d⟩ := seen b u q
        exact .inr (.inl ⟨vs, n, by rw [← Option.some.inj (e2.symm.trans e)]; exact d⟩)
  · rw [with_out t]
    exact argH_only ar b
/-- an object of another kind is seen beneath -/
theorem Begun.see (B : Begun P w K cs h H) {b : Addr} {o : Obj} (e : h.get? b = some o) (n1 : ∀ vs n, o.data = .seq vs n → False) (n2 : o.data = .fields #[] → False) : (hidT h H).get? b = some o :=
  hidT_get e ((B.plain b o e).elim id fun z => z.elim (fun ⟨vs, n, d⟩ => (n1 vs n d).elim) fun d => (n2 d).elim)
theorem Begun.ns (B : Begun P w K cs h H) {a : Addr} {m : Str → Option Value} (x : h.Ns a m) : (hidT h H).Ns a m := by
  obtain ⟨o, es, ep, e, d, more⟩ := x
  exact ⟨o, es, ep, B.see e (fun vs n z => by rw [d] at z; cases z) (fun z => by rw [d] at z; cases z), d, more⟩
theorem Begun.kin (B : Begun P w K cs h H) (KX : K.In h) : K.In (hidT h H) := fun b o e => hidT_get (KX b o e) (B.out b o e)
section
variable {p : Program} {lo : List Str} {mean : ExcName → Option Value} {mg mb : Str → Option Value}
theorem Begun.mod (B : Begun P w K cs h H) (KX : K.In h) (T : Top p lo mean mg mb h) : Mod K mg (hidT h H) := by
  obtain ⟨mc, l1, l2⟩ := T.nolimit
  exact ⟨B.kin KX, B.ns T.g, ⟨mb, B.ns T.b, T.builtins⟩, ⟨mc, B.ns l1, l2⟩⟩
theorem Begun.tabB (B : Begun P w K cs h H) (KX : K.In h) (T : Top p lo mean mg mb h) (hc : ∀ p ∈ cs, PySem.W.codeHdIn K p.1 p.2 = true) (hT : ∀ p ∈ cs, h.get? p.2 = some (PySem.W.tabObj #[])) : ∀ p ∈ cs, LamX.TabB (hidT h H) mg p.1 p.2 := fun p hp => by
  obtain ⟨bm, ob, g1, g2, g3, g4, g5, g6⟩ := T.bmain
  obtain ⟨og, es, ep, eg, dg, _⟩ := T.g
  refine NdefX.tabB_of_K (B.kin KX) (hc p hp) ⟨bm, ob, g1, g2, fun z => ?_, fun z => ?_, B.see g3 (fun vs n z => by rw [g6] at z; cases z) (fun z => by rw [g6] at z; cases z), g4, g5, g6⟩ fun z => ?_
  · rw [z] at g3
    rw [← Option.some.inj (eg.symm.trans g3), dg] at g6
    cases g6
  · rw [z] at g3
    rw [← Option.some.inj ((hT p hp).symm.trans g3)] at g6
    cases g6
  · rw [z] at eg
    rw [← Option.some.inj ((hT p hp).symm.trans eg)] at dg
    cases dg
end
/-- nothing old is another, but that tables have grown -/
theorem oldK_tabs {h' : Heap} (ht : ∀ b, isTab cs b → isCodeTable h b ∧ h.get? b = some (PySem.W.tabObj #[]) ∧ ∃ ps, h'.get? b = some (PySem.W.tabObj ps)) (hk : ∀ b o, ¬ isTab cs b → h.get? b = some o → h'.get? b = some o) : OldK h h' := by
  refine ⟨fun b o e => ?_, fun b o e => ?_⟩
  · by_cases t : isTab cs b
    · obtain ⟨ic, e0, ps, e1⟩ := ht b t
      have eo : o = PySem.W.tabObj #[] := Option.some.inj (e.symm.trans e0)
      rw [eo]
      refine .inr (.inl ⟨ic, rfl, #[], ps, rfl, ?_⟩)
      rw [Array.empty_append]
      exact e1
    · exact .inl (hk b o t e)
  · by_cases t : isTab cs b
    · obtain ⟨_, _, ps, e1⟩ := ht b t
      exact ⟨_, e1⟩
    · exact ⟨o, hk b o t e⟩
end
/-- the call of the row's def, from the arguments' objects to what it leaves -/
theorem call_tabs {P p : Program} {w : World} {K : PySem.W.Frag} {lo : List Str} {mean : ExcName → Option Value} {mg mb : Str → Option Value} {k : Nat} {fa : Addr} {fd : FuncData} {ps : List Str} {sp : Sp} {s : Shared} {us : List Value} {ds : List WData} {R : PySem.W.WRecords} {cl : Str → Option Addr} {due : WData} {cs : Pairs2}
    (T : Top p lo mean mg mb s.heap) (KX : K.In s.heap) (gen : s.gens = #[]) (hT : ∀ p ∈ cs, s.heap.get? p.2 = some (PySem.W.tabObj #[])) (nT : ∀ p ∈ cs, K.lookup p.2 = none) (hc : ∀ p ∈ cs, PySem.W.codeHdIn K p.1 p.2 = true)
    (well : PySem.W.WellAll w.params s.heap us ds) (pl : plWs ds = true) (wt : ∀ d ∈ ds, d.weight ≤ 1048576) (hl : us.length = ps.length) (room : Room k callerA) (bind : BindsTo s fd ⟨us, []⟩ (ps.zip us))
    (F : ∀ base : Heap, K.In base → (∀ p ∈ cs, LamX.TabB base mg p.1 p.2) → FnOk P w K mg base CX0 k fa fd ps sp)
    (keeps : ∀ (H0 H : Hp) (xs : List V), OnlyF H0 → Same H0 H → (∀ p ∈ cs, H p.2 = some (.tbl #[])) → DwAll K H0 xs ds → sp xs H (fun v H' => Dw K H' v due) E0) :
    codeAny (model P w) callerA (.call (.ref fa) ⟨us, []⟩) (fun r s' => ∃ u as, r = .ok (.ret u) ∧ PySem.W.ReadsW R cl s'.heap u due as ∧ OldK s.heap s'.heap ∧ s'.os = s.os ∧ AllBare s'.gens) s := by
  obtain ⟨A, okA, arA⟩ := area_all ds us well pl wt
  obtain ⟨B, sm⟩ := begun_args (P := P) (w := w) KX arA hT nT
  have want := keeps _ _ (us.map toV) (argH_only arA) sm (fun p hp => B.tabs _ ⟨p, hp, rfl⟩) (dw_all KX arA ds us well pl okA)
  generalize withTabs cs (argH K s.heap A) = H at B want
  have e0 : Env0 P w K mg (hidT s.heap H) callerA [] s H := ⟨rfl, B.mod KX T, fun _ _ => of_hidT, Nat.le_of_eq (hidT_size _ _), trivial, fun _ z => (nomatch z), B.ok, .of_eq gen⟩
  refine codeAny_mono ((F _ (B.kin KX) (B.tabB KX T hc hT)).run callerA [] s H ⟨us, []⟩ us (us.map toV) _ E0 room e0 bind (vals_toV okA) want) fun r s' done => ?_
  match r, done with
  | .ok (.ret u), done =>
    obtain ⟨v, H', os', bare', un, ok', ru, hv⟩ := done
    have stays : ∀ b o, ¬ isTab cs b → s.heap.get? b = some o → s'.heap.get? b = some o := fun b o t e => by
      rcases B.rest b t with n | ⟨ob, u3, n⟩
      · exact un.keep b o e n (fun z => nomatch z) (fun z => nomatch z)
      · have i1 := (B.ok b _ n).1
        have i2 := (ok' b _ (un.frzs b ob _ n)).1
        rw [i2, ← i1]
        exact e
    have K' : K.In s'.heap := fun b o e => stays b o (fun ⟨p, hp, ep⟩ => by
      rw [← ep, nT p hp] at e
      cases e) (KX b o e)
    obtain ⟨as, reads⟩ := Dw.reads (R := R) (cl := cl) ok' K' due v u hv ru
    refine ⟨u, as, rfl, reads, oldK_tabs (cs := cs) (fun b t => ?_) stays, os', bare'⟩
    obtain ⟨more, g⟩ := un.tbls b #[] (B.tabs b t)
    obtain ⟨p, hp, rfl⟩ := t
    exact ⟨((PySem.W.codeHd_of_K KX (hc p hp)).tab (hT p hp)).isCodeTable, hT p hp, _, ok' p.2 _ g⟩
  | .ok .next, done => exact False.elim done
  | .ok .brk, done => exact False.elim done
  | .ok .cont, done => exact False.elim done
  | .error e, done => exact False.elim done
/-- the goal behind the head: the row holds where its def keeps the promise sp, the pairs cs told -/
theorem walk_tabs {r : OpenSpec} {k : Nat} {q : Program} {loose : List Str} {XP : (Str → Option Value) → Heap → Prop} {YP : World → Heap → Prop} {d : DefRec} {K : Params → PySem.W.Frag} {ps : List Str} {sp : PySem.W.Frag → Sp} (cs : Pairs2)
    (said : r.wellSaid = true) (many : r.args.length = ps.length) (room : Room k callerA) (seen : ∀ (w : World) (h : Heap), YP w h → (K w.params).In h)
    (empt : ∀ (w : World) (lo : List Str) (mean : ExcName → Option Value) (mg mb : Str → Option Value) (h : Heap), Top q lo mean mg mb h → (K w.params).In h → ∀ p ∈ cs, h.get? p.2 = some (PySem.W.tabObj #[]))
    (out : ∀ (w : World), ∀ p ∈ cs, (K w.params).lookup p.2 = none) (code : ∀ (w : World), ∀ p ∈ cs, PySem.W.codeHdIn (K w.params) p.1 p.2 = true)
    (F : ∀ (w : World) (mg : Str → Option Value) (fa : Addr) (h : Heap), (K w.params).In h → h.Ns mainGlobals mg → mg d.name = some (.ref fa) →
      ∃ fd : FuncData, (∀ (s : Shared) (us : List Value), us.length = ps.length → BindsTo s fd ⟨us, []⟩ (ps.zip us)) ∧ ∀ base : Heap, (∀ p ∈ cs, LamX.TabB base mg p.1 p.2) → FnOk r.prog w (K w.params) mg base CX0 k fa fd ps (sp (K w.params)))
    (keeps : ∀ (K : PySem.W.Frag) (H0 H : Hp) (xs : List V) (a : Codec.denoteAll r.args), OnlyF H0 → Same H0 H → (∀ p ∈ cs, H p.2 = some (.tbl #[])) → Codec.withinAll r.args a = true → Codec.app r.args r.asked a = true → DwAll K H0 xs (Codec.encAll r.args a) →
      sp K xs H (fun v H' => Dw K H' v (r.ret.enc (Codec.app r.args r.f a))) E0) : PySem.W.WalkOS q loose XP YP r d [] (fun f vs => PySem.call f vs) := by
  intro w s₀ s mg mb G Y fa _ _ _ _ _ _ _ _ _ _ named gen args us _ pre lay _ well _
  obtain ⟨a, e1, asked⟩ := PySem.W.os_pre_some pre
  obtain ⟨rfl, within⟩ := Codec.encAll_of_decAll r.args args a e1
  have KX := seen w _ Y
  obtain ⟨fd, bind, ok⟩ := F w mg fa _ KX G.T.g named
  have hl : us.length = ps.length := ((wellAll_len well).trans (encAll_len _ _)).trans many
  have run := call_tabs (R := []) (cl := classAt s₀.heap) (due := r.ret.enc (Codec.app r.args r.f a)) (cs := cs) G.T KX gen (empt w _ _ mg mb _ G.T KX) (out w) (code w) well (pl_encAll _ _) (layable_weight lay) hl room (bind s us hl) (fun base _ tb => ok base tb)
    fun H0 H xs o1 o2 o3 o4 => keeps (K w.params) H0 H xs a o1 o2 o3 within asked o4
  refine PySem.W.enter_call (codeAny_mono run fun res s' left => ?_)
  obtain ⟨u, as2, rfl, reads, old, os2, bare2⟩ := left
  refine ⟨.inl ⟨u, r.ret.enc (Codec.app r.args r.f a), as2, rfl, fun _ => rfl, reads, ?_, fun z => ?_⟩, old, os2, bare2⟩
  · exact (OpenSpec.post_iff said within _ _).mpr rfl
  · exact absurd (show false = true from z) Bool.false_ne_true
end FC
/-! The walk, part 19: all together. -/
namespace FC
open PySem PySem.Spec PyProof.Rows L2
open LamX (Tabs TabS TabB ExtN CodeO)
section
variable {P : Program} {w : World} {K : PySem.W.Frag} {mg : Str → Option Value} {base : Heap} {h : Heap} {C : Addr} {T : List (Addr × Str)}
theorem Can.mono {x : Str} {j k : Nat} {ps : List Str} {sp : Sp} (c : Can P w K mg base x j ps sp) (h : j ≤ k) : Can P w K mg base x k ps sp := by
  obtain ⟨f, fd, F, a, b, d⟩ := c.ex
  exact ⟨f, fd, F.mono h, a, b, d⟩
theorem def_mk {x : Str} {st : Stmt} {ps : List Str} {f : Addr} {oc : Value} {od an : Option Addr} {osl : Array (Option Value)} {kV doc pm cdv ct : Value} (X : K.In h) (G : h.Ns mainGlobals mg) (a : PySem.W.nsIn K mainGlobals x = some (some (.ref f)))
    (l : K.lookup f = some ⟨oc, od, .func (PySem.W.fnOf x x (defArgs st) (defBody st) (defScope st) .none kV doc pm an cdv ct), osl⟩) (c : PySem.W.codeIn K cdv x = true) (k : PySem.W.keepIn K (.ref f) = true)
    (hb : ∀ (kV doc pm : Value) (an : Option Addr) (cdv ct : Value) (us : List Value), us.length = ps.length → bindArgs (PySem.W.fnOf x x (defArgs st) (defBody st) (defScope st) .none kV doc pm an cdv ct) ⟨us, []⟩ = pure (ps.zip us)) :
    Def K mg x st ps f (PySem.W.fnOf x x (defArgs st) (defBody st) (defScope st) .none kV doc pm an cdv ct) := ⟨fun_mk l c k, PySem.W.mg_of X G a, (fun_mk l c k).binds hb⟩
theorem def_mkC {x : Str} {st : Stmt} {ps : List Str} {f c0 : Addr} {oc : Value} {od an : Option Addr} {osl : Array (Option Value)} {kV doc pm ct : Value} (X : K.In h) (G : h.Ns mainGlobals mg) (a : PySem.W.nsIn K mainGlobals x = some (some (.ref f)))
    (l : K.lookup f = some ⟨oc, od, .func (PySem.W.fnOf x x (defArgs st) (defBody st) (defScope st) .none kV doc pm an (.ref c0) ct), osl⟩) (c : PySem.W.codeIn K (.ref c0) x = true) (k : PySem.W.keepIn K (.ref f) = true)
    (hb : ∀ (kV doc pm : Value) (an : Option Addr) (cdv ct : Value) (us : List Value), us.length = ps.length → bindArgs (PySem.W.fnOf x x (defArgs st) (defBody st) (defScope st) .none kV doc pm an cdv ct) ⟨us, []⟩ = pure (ps.zip us)) :
    DefC K mg x st ps f (PySem.W.fnOf x x (defArgs st) (defBody st) (defScope st) .none kV doc pm an (.ref c0) ct) c0 := ⟨⟨⟨oc, od, kV, doc, pm, an, ct, osl, rfl, l, c⟩, k⟩, PySem.W.mg_of X G a, (fun_mk l c k).binds hb⟩
theorem mdef_mk {m q : Str} {st : Stmt} {ps : List Str} {f : Addr} {oc : Value} {od an : Option Addr} {osl : Array (Option Value)} {kV doc pm cdv ct : Value} (X : K.In h) (mR : mg "Drawing" = some (.ref C)) (a : PySem.W.findIn K (.ref C) m = some (some (.ref f))) (i : PySem.W.isFn K (.ref f) = true)
    (l : K.lookup f = some ⟨oc, od, .func (PySem.W.fnOf m q (defArgs st) (defBody st) (defScope st) .none kV doc pm an cdv ct), osl⟩) (c : PySem.W.codeIn K cdv q = true) (k : PySem.W.keepIn K (.ref f) = true)
    (hb : ∀ (kV doc pm : Value) (an : Option Addr) (cdv ct : Value) (us : List Value), us.length = ps.length → bindArgs (PySem.W.fnOf m q (defArgs st) (defBody st) (defScope st) .none kV doc pm an cdv ct) ⟨us, []⟩ = pure (ps.zip us)) :
    MDef K C m q st ps f (PySem.W.fnOf m q (defArgs st) (defBody st) (defScope st) .none kV doc pm an cdv ct) := ⟨fun_mk l c k, ⟨a, i, k⟩, (fun_mk l c k).binds hb⟩
/-- a written tuple of whole numbers -/
def sameB : List Int → List Value → Bool
  | [], [] => true
  | n :: l, .int m _ :: us => n == m && sameB l us
  | _, _ => false
theorem vals_by : ∀ {l : List Int} {us : List Value}, sameB l us = true → Vals (l.map V.int) us
  | [], [], _ => .nil
  | n :: l, .int m t :: us, h => by
    have z : (n == m && sameB l us) = true := h
    rw [Bool.and_eq_true, beq_iff_eq] at z
    exact .cons ⟨t, by rw [z.1]⟩ (vals_by z.2)
theorem tup_K {a : Addr} {od : Option Addr} {its : List Value} {n : Nat} {osl : Array (Option Value)} {l : List Int} (e : K.lookup a = some ⟨.type "tuple", od, .seq its.toArray n, osl⟩) (hz : its.length ≤ 1000) (hs : sameB l its = true) (H : Hp) : SqT K H a (l.map V.int) :=
  .inr ⟨_, its.toArray, n, e, rfl, rfl, by rw [List.size_toArray]; exact Nat.le_of_lt (small1000 hz), by rw [List.toList_toArray]; exact vals_by hs⟩
theorem kint_mk {D f : Addr} {es : List DictEntry} {n : Nat} {c : Int} (l : K.lookup D = some ⟨.type "dict", none, .dict (List.toArray es) n, #[]⟩) (i : intsB es = true) (e : (es.find? fun e => Value.isInt c e.key).map (·.val) = some (.ref f)) : KIntD K D c (.ref f) :=
  ⟨es, n, l, i, by unfold findBy; rw [List.find?_toArray]; exact e⟩
theorem pass {A B : Prop} (a : A) (k : A → B) : B := k a
theorem ref_of {x : Str} {a : Addr} (X : K.In h) (G : h.Ns mainGlobals mg) (e : PySem.W.nsIn K mainGlobals x = some (some (.ref a))) : mg x = some (.ref a) := PySem.W.mg_of X G e
theorem num_of {x : Str} {n : Int} {t : Tok} (X : K.In h) (G : h.Ns mainGlobals mg) (e : PySem.W.nsIn K mainGlobals x = some (some (.int n t))) : ∃ t, mg x = some (.int n t) := ⟨t, PySem.W.mg_of X G e⟩
theorem free_of {x : Str} (X : K.In h) (G : h.Ns mainGlobals mg) (e : PySem.W.nsIn K mainGlobals x = some none) : mg x = none := PySem.W.mg_none_of X G e
theorem cl_mk (X : K.In h) (mR : mg "Drawing" = some (.ref C)) (pg : PySem.W.plainGet K C Str.empty = true) (hd : PySem.W.hasDictIn K C = true) (po : PySem.W.plainOver K C = true) (sa : PySem.W.findIn K (.ref C) "__setattr__" = some (some (.builtin "object.__setattr__")))
    (nF : PySem.W.findIn K (.ref C) "figures" = some none) (nK : PySem.W.findIn K (.ref C) "kept_way" = some none) : Cl K C := ⟨⟨pg, hd, po, sa⟩, nF, nK⟩
theorem mk_mk {f : Addr} {fd : FuncData} (X : K.In h) (mR : mg "Drawing" = some (.ref C)) (D : MDef K C "__init__" "Drawing.__init__" sInit ["self"] f fd) (mk : PySem.W.makesIn K C = true) (kc : PySem.W.keepIn K (.ref C) = true) : Mk K C f := ⟨mk, D.me.at_, D.me.fn, kc⟩
theorem tup_mk {x : Str} {a : Addr} {od : Option Addr} {its : List Value} {n : Nat} {osl : Array (Option Value)} {l : List Int} (X : K.In h) (G : h.Ns mainGlobals mg) (a1 : PySem.W.nsIn K mainGlobals x = some (some (.ref a))) (e : K.lookup a = some ⟨.type "tuple", od, .seq its.toArray n, osl⟩) (hz : its.length ≤ 1000) (hs : sameB l its = true) :
    ∃ a, mg x = some (.ref a) ∧ ∀ H : Hp, SqT K H a (l.map V.int) := ⟨a, PySem.W.mg_of X G a1, fun H => tup_K e hz hs H⟩
theorem dict_mk {D : Addr} {es : List DictEntry} {n : Nat} (X : K.In h) (mD : mg "DEEDS" = some (.ref D)) (l : K.lookup D = some ⟨.type "dict", none, .dict (List.toArray es) n, #[]⟩) : K.lookup D = some ⟨.type "dict", none, .dict (List.toArray es) n, #[]⟩ := l
theorem lamT_by {q : Str} {c Pt : Addr} {cs : List (Addr × Addr)} (TB : ∀ p ∈ cs, TabB base mg p.1 p.2) (h1 : (c, Pt) ∈ cs) (h2 : (Pt, q) ∈ T) (h3 : (T.all fun p => !decide (p.1 = Pt) || decide (p.2 = q)) = true) : LamT T base mg c q :=
  ⟨Pt, TB _ h1, h2, fun p hp e => by
    have z := List.all_eq_true.mp h3 p hp
    rw [Bool.or_eq_true, decide_eq_true e] at z
    rcases z with z | z
    · exact absurd z (by decide)
    · exact of_decide_eq_true z⟩
theorem lamT_mk {q : Str} {c Pt : Addr} {cs : List (Addr × Addr)} (TB : ∀ p ∈ cs, TabB base mg p.1 p.2) (h1 : (c, Pt) ∈ cs) (h2 : (Pt, q) ∈ T) (h3 : ∀ p ∈ T, p.1 = Pt → p.2 = q) : LamT T base mg c q := ⟨Pt, TB _ h1, h2, h3⟩
theorem all_ok {D aC fI c41 c42 c43 c44 c45 f63 : Addr} {fdI fd63 : FuncData}
    (CC : Consts K mg) (N : Nums mg) (B : Blt mg) (zM : mg "min" = none) (zZ : mg "zip" = none) (zS : mg "sum" = none) (m9 : ∃ t, mg "MOST_PART" = some (.int 9999 t)) (m4 : ∃ t, mg "MOST_SIZE" = some (.int 400 t)) (m33 : ∃ t, mg "NOT_SO" = some (.int (-33) t)) (m11 : ∃ t, mg "NOT_BEGUN" = some (.int (-11) t)) (m0 : ∃ t, mg "START" = some (.int 0 t))
    (mC : mg "COUNTS" = some (.ref aC)) (hC : ∀ H : Hp, SqT K H aC (counts.map V.int)) (mD : mg "DEEDS" = some (.ref D)) (mR : mg "Drawing" = some (.ref C)) (L : Cl K C) (M : Mk K C fI) (FI : Fun K "__init__" "Drawing.__init__" sInit fI fdI) (bI : Binds K fdI ["self"] [])
    (D4 : ∃ f fd, Def K mg "common_part" sCommon ["one", "other"] f fd)
    (D5 : ∃ f fd, Def K mg "twisted" sTwisted ["fraction", "many"] f fd)
    (D6 : ∃ f fd, Def K mg "turned" sTurned ["fraction"] f fd)
    (D7 : ∃ f fd, Def K mg "comes_to" sComes ["figures"] f fd)
    (D8 : ∃ f fd, Def K mg "is_fraction" sIsFrac ["upper", "lower"] f fd)
    (D11 : ∃ f fd, Def K mg "ring_of" sRingOf ["fraction"] f fd)
    (D12 : ∃ f fd, Def K mg "other_share" sOther ["size", "share"] f fd)
    (D13 : ∃ f fd, Def K mg "name_of" sName ["ring"] f fd)
    (D14 : ∃ f fd, Def K mg "is_ring" sIsRing ["size", "share"] f fd)
    (D15 : ∃ f fd, Def K mg "is_undone_by" sBy ["size", "share", "n"] f fd)
    (D16 : ∃ f fd, Def K mg "is_undone_at" sAt ["size", "share", "half"] f fd)
    (D17 : ∃ f fd, Def K mg "is_one_change" sOne ["ring"] f fd)
    (D20 : ∃ f fd, Def K mg "changed" sChanged ["figure", "many"] f fd)
    (D21 : ∃ f fd, Def K mg "behind" sBehind ["fraction", "figure", "many"] f fd)
    (D22 : ∃ f fd, Def K mg "longer_rows" sLonger ["rows", "figure"] f fd)
    (D23 : ∃ f fd, Def K mg "ways_of" sWays ["figures", "changes"] f fd)
    (D24 : ∃ f fd, Def K mg "fewest" sFewest ["figures", "is_so"] f fd)
    (D25 : ∃ f fd, Def K mg "figures_behind" sFB ["figures", "way"] f fd)
    (D26 : ∃ f fd, Def K mg "unlike" sUnlike ["things"] f fd)
    (D34 : ∃ f fd, Def K mg "twist" sTwist ["drawing", "numbers"] f fd)
    (D35 : ∃ f fd, Def K mg "turn" sTurn ["drawing", "numbers"] f fd)
    (D36 : ∃ f fd, Def K mg "off" sOff ["drawing", "numbers"] f fd)
    (D37 : ∃ f fd, Def K mg "comes" sCome ["drawing", "numbers"] f fd)
    (D38 : ∃ f fd, Def K mg "ring" sRing ["drawing", "numbers"] f fd)
    (D39 : ∃ f fd, Def K mg "crossings" sCross ["drawing", "numbers"] f fd)
    (D40 : ∃ f fd, Def K mg "change" sChange ["drawing", "numbers"] f fd)
    (D46 : ∃ f fd, Def K mg "ways" sWaysD ["drawing", "numbers"] f fd)
    (D47 : ∃ f fd, Def K mg "results" sResults ["drawing", "numbers"] f fd)
    (D48 : ∃ f fd, Def K mg "rings" sRings ["drawing", "numbers"] f fd)
    (D49 : ∃ f fd, Def K mg "way" sWay ["drawing", "numbers"] f fd)
    (D50 : ∃ f fd, Def K mg "do_way" sDo ["drawing", "numbers"] f fd)
    (D51 : ∃ f fd, Def K mg "bound" sBound ["drawing", "numbers"] f fd)
    (D52 : ∃ f fd, Def K mg "figures" sFigs ["drawing", "numbers"] f fd)
    (D53 : ∃ f fd, Def K mg "state" sState ["drawing", "numbers"] f fd)
    (D41 : ∃ f fd, DefC K mg "undone" sUndone ["drawing", "numbers"] f fd c41) (LT41 : LamT T base mg c41 ("undone" ++ ".<locals>." ++ "<lambda>"))
    (D42 : ∃ f fd, DefC K mg "split" sSplit ["drawing", "numbers"] f fd c42) (LT42 : LamT T base mg c42 ("split" ++ ".<locals>." ++ "<lambda>"))
    (D43 : ∃ f fd, DefC K mg "flat" sFlat ["drawing", "numbers"] f fd c43) (LT43 : LamT T base mg c43 ("flat" ++ ".<locals>." ++ "<lambda>"))
    (D44 : ∃ f fd, DefC K mg "lead_to" sLead ["drawing", "numbers"] f fd c44) (LT44 : LamT T base mg c44 ("lead_to" ++ ".<locals>." ++ "<lambda>"))
    (D45 : ∃ f fd, DefC K mg "closes" sCloses ["drawing", "numbers"] f fd c45) (LT45 : LamT T base mg c45 ("closes" ++ ".<locals>." ++ "<lambda>"))
    (Mf : ∃ f fd, MDef K C "fraction" "Drawing.fraction" sFraction ["self"] f fd)
    (Mh : ∃ f fd, MDef K C "half_twists" "Drawing.half_twists" sHalf ["self"] f fd)
    (Ma : ∃ f fd, MDef K C "drawn_anew" "Drawing.drawn_anew" sAnew ["self", "figures"] f fd)
    (Ml : ∃ f fd, MDef K C "led_to" "Drawing.led_to" sLed ["self", "is_so"] f fd)
    (Md : ∃ f fd, MDef K C "way_done" "Drawing.way_done" sDone ["self", "way"] f fd)
    (D62 : ∃ f fd, Def K mg "told_of" sTold ["drawing", "call", "numbers"] f fd) (D63 : Def K mg "answers" sAns ["calls"] f63 fd63)
    (k1 : ∃ f, KIntD K D 1 (.ref f) ∧ mg "twist" = some (.ref f))
    (k2 : ∃ f, KIntD K D 2 (.ref f) ∧ mg "turn" = some (.ref f))
    (k3 : ∃ f, KIntD K D 3 (.ref f) ∧ mg "off" = some (.ref f))
    (k4 : ∃ f, KIntD K D 4 (.ref f) ∧ mg "comes" = some (.ref f))
    (k5 : ∃ f, KIntD K D 5 (.ref f) ∧ mg "ring" = some (.ref f))
    (k6 : ∃ f, KIntD K D 6 (.ref f) ∧ mg "crossings" = some (.ref f))
    (k7 : ∃ f, KIntD K D 7 (.ref f) ∧ mg "change" = some (.ref f))
    (k8 : ∃ f, KIntD K D 8 (.ref f) ∧ mg "undone" = some (.ref f))
    (k9 : ∃ f, KIntD K D 9 (.ref f) ∧ mg "split" = some (.ref f))
    (k10 : ∃ f, KIntD K D 10 (.ref f) ∧ mg "flat" = some (.ref f))
    (k11 : ∃ f, KIntD K D 11 (.ref f) ∧ mg "lead_to" = some (.ref f))
    (k12 : ∃ f, KIntD K D 12 (.ref f) ∧ mg "closes" = some (.ref f))
    (k13 : ∃ f, KIntD K D 13 (.ref f) ∧ mg "ways" = some (.ref f))
    (k14 : ∃ f, KIntD K D 14 (.ref f) ∧ mg "results" = some (.ref f))
    (k15 : ∃ f, KIntD K D 15 (.ref f) ∧ mg "rings" = some (.ref f))
    (k16 : ∃ f, KIntD K D 16 (.ref f) ∧ mg "way" = some (.ref f))
    (k17 : ∃ f, KIntD K D 17 (.ref f) ∧ mg "do_way" = some (.ref f))
    (k18 : ∃ f, KIntD K D 18 (.ref f) ∧ mg "bound" = some (.ref f))
    (k19 : ∃ f, KIntD K D 19 (.ref f) ∧ mg "figures" = some (.ref f))
    (k20 : ∃ f, KIntD K D 20 (.ref f) ∧ mg "state" = some (.ref f)) :
    FnOk P w K mg base CX0 9 f63 fd63 ["calls"] (spAns K T) := by
  obtain ⟨_, _, D4⟩ := D4
  obtain ⟨_, _, D5⟩ := D5
  obtain ⟨_, _, D6⟩ := D6
  obtain ⟨_, _, D7⟩ := D7
  obtain ⟨_, _, D8⟩ := D8
  obtain ⟨_, _, D11⟩ := D11
  obtain ⟨_, _, D12⟩ := D12
  obtain ⟨_, _, D13⟩ := D13
  obtain ⟨_, _, D14⟩ := D14
  obtain ⟨_, _, D15⟩ := D15
  obtain ⟨_, _, D16⟩ := D16
  obtain ⟨_, _, D17⟩ := D17
  obtain ⟨_, _, D20⟩ := D20
  obtain ⟨_, _, D21⟩ := D21
  obtain ⟨_, _, D22⟩ := D22
  obtain ⟨_, _, D23⟩ := D23
  obtain ⟨_, _, D24⟩ := D24
  obtain ⟨_, _, D25⟩ := D25
  obtain ⟨_, _, D26⟩ := D26
  obtain ⟨_, _, D34⟩ := D34
  obtain ⟨_, _, D35⟩ := D35
  obtain ⟨_, _, D36⟩ := D36
  obtain ⟨_, _, D37⟩ := D37
  obtain ⟨_, _, D38⟩ := D38
  obtain ⟨_, _, D39⟩ := D39
  obtain ⟨_, _, D40⟩ := D40
  obtain ⟨_, _, D46⟩ := D46
  obtain ⟨_, _, D47⟩ := D47
  obtain ⟨_, _, D48⟩ := D48
  obtain ⟨_, _, D49⟩ := D49
  obtain ⟨_, _, D50⟩ := D50
  obtain ⟨_, _, D51⟩ := D51
  obtain ⟨_, _, D52⟩ := D52
  obtain ⟨_, _, D53⟩ := D53
  obtain ⟨_, _, D41⟩ := D41
  obtain ⟨_, _, D42⟩ := D42
  obtain ⟨_, _, D43⟩ := D43
  obtain ⟨_, _, D44⟩ := D44
  obtain ⟨_, _, D45⟩ := D45
  obtain ⟨_, _, D62⟩ := D62
  obtain ⟨_, _, Mf⟩ := Mf
  obtain ⟨_, _, Mh⟩ := Mh
  obtain ⟨_, _, Ma⟩ := Ma
  obtain ⟨_, _, Ml⟩ := Ml
  obtain ⟨_, _, Md⟩ := Md
  obtain ⟨_, m9⟩ := m9
  obtain ⟨_, m4⟩ := m4
  obtain ⟨_, m33⟩ := m33
  obtain ⟨_, m11⟩ := m11
  obtain ⟨_, m0⟩ := m0
  obtain ⟨_, mMC⟩ := N.changes
  have C4 := ok_common (P := P) (w := w) (base := base) D4 B.abs
  have C5 := ok_twisted (P := P) (w := w) (base := base) D5
  have C6 := ok_turned (P := P) (w := w) (base := base) D6 CC
  have C7 := ok_comes D7 CC C6 C5
  have C8 := ok_isFrac D8 B.abs m9 C4
  have C11 := ok_ringOf (P := P) (w := w) (base := base) D11
  have C12 := ok_other (P := P) (w := w) (base := base) D12
  have C13 := ok_name D13 zM C12
  have C14 := ok_isRing D14 m4 C4
  have C15 := ok_by (P := P) (w := w) (base := base) D15
  have C16 := ok_at D16 B.range C4 C15
  have C17 := ok_one D17 C16
  have C20 := ok_changed (P := P) (w := w) (base := base) D20
  have C21 := ok_behind D21 C6 C5 C20
  have C22 := ok_longer D22 B.abs zM B.range C21
  have C23 := ok_ways D23 CC C22
  have C24 := run_fewest D24 B.range mMC C23
  have C25 := ok_fb D25 zZ C20
  have C26 := ok_unlike (P := P) (w := w) (base := base) D26 B.list
  have Cf := ok_fraction Mf L C7
  have Ch := ok_half (P := P) (w := w) (base := base) Mh L B.abs zS
  have Ca := ok_anew Ma L B.list Cf
  have Cd := ok_done Md L C25 Ca
  have LD : Led P w K mg base C := ⟨_, Ml.me, run_led Ml.fn Ml.b L m33 C24⟩
  have E1 := ok_twist (T := T) D34 L N B Ca
  have E2 := ok_turn (T := T) D35 L N B Ca
  have E3 := ok_off (T := T) D36 L N B Ca
  have E4 := ok_come (T := T) D37 L B Cf
  have E5 := ok_ring (T := T) D38 L B Cf C11 C13
  have E6 := ok_cross (T := T) D39 L Ch
  have E7 := ok_change (T := T) D40 L N B Cd
  have E8 := ok_undone D41 L LD LT41 C11
  have E9 := ok_split D42 L LD LT42 C11
  have E10 := ok_flat D43 L LD LT43 CC
  have E11 := ok_lead D44 L N LD LT44 C8
  have E12 := ok_closes D45 L N LD LT45 C14 C11 C13
  have E13 := ok_waysD (T := T) D46 L N B C23
  have E14 := ok_results (T := T) D47 L N B C23 C26
  have E15 := ok_rings (T := T) D48 L N B C23 C26 C11 C13
  have E16 := ok_way (P := P) (w := w) (base := base) (T := T) D49 L N B
  have E17 := ok_do (T := T) D50 L N Cd
  have E18 := ok_bound (T := T) D51 L Cf C11 C17
  have E19 := ok_figs (P := P) (w := w) (base := base) (T := T) D52 L B
  have E20 := ok_state (T := T) D53 L B Ch
  have DD : ∀ c, 1 ≤ c → c ≤ 20 → DeedAt P w K mg base C T D c := fun c h1 h2 => by
    have z : c = 1 ∨ c = 2 ∨ c = 3 ∨ c = 4 ∨ c = 5 ∨ c = 6 ∨ c = 7 ∨ c = 8 ∨ c = 9 ∨ c = 10 ∨ c = 11 ∨ c = 12 ∨ c = 13 ∨ c = 14 ∨ c = 15 ∨ c = 16 ∨ c = 17 ∨ c = 18 ∨ c = 19 ∨ c = 20 := by omega
    rcases z with rfl | rfl | rfl | rfl | rfl | rfl | rfl | rfl | rfl | rfl | rfl | rfl | rfl | rfl | rfl | rfl | rfl | rfl | rfl | rfl
    · obtain ⟨f, a, b⟩ := k1
      exact ⟨"twist", f, a, b, E1.mono (by decide)⟩
    · obtain ⟨f, a, b⟩ := k2
      exact ⟨"turn", f, a, b, E2.mono (by decide)⟩
    · obtain ⟨f, a, b⟩ := k3
      exact ⟨"off", f, a, b, E3.mono (by decide)⟩
    · obtain ⟨f, a, b⟩ := k4
      exact ⟨"comes", f, a, b, E4.mono (by decide)⟩
    · obtain ⟨f, a, b⟩ := k5
      exact ⟨"ring", f, a, b, E5.mono (by decide)⟩
    · obtain ⟨f, a, b⟩ := k6
      exact ⟨"crossings", f, a, b, E6.mono (by decide)⟩
    · obtain ⟨f, a, b⟩ := k7
      exact ⟨"change", f, a, b, E7.mono (by decide)⟩
    · obtain ⟨f, a, b⟩ := k8
      exact ⟨"undone", f, a, b, E8.mono (by decide)⟩
    · obtain ⟨f, a, b⟩ := k9
      exact ⟨"split", f, a, b, E9.mono (by decide)⟩
    · obtain ⟨f, a, b⟩ := k10
      exact ⟨"flat", f, a, b, E10.mono (by decide)⟩
    · obtain ⟨f, a, b⟩ := k11
      exact ⟨"lead_to", f, a, b, E11.mono (by decide)⟩
    · obtain ⟨f, a, b⟩ := k12
      exact ⟨"closes", f, a, b, E12.mono (by decide)⟩
    · obtain ⟨f, a, b⟩ := k13
      exact ⟨"ways", f, a, b, E13.mono (by decide)⟩
    · obtain ⟨f, a, b⟩ := k14
      exact ⟨"results", f, a, b, E14.mono (by decide)⟩
    · obtain ⟨f, a, b⟩ := k15
      exact ⟨"rings", f, a, b, E15.mono (by decide)⟩
    · obtain ⟨f, a, b⟩ := k16
      exact ⟨"way", f, a, b, E16.mono (by decide)⟩
    · obtain ⟨f, a, b⟩ := k17
      exact ⟨"do_way", f, a, b, E17.mono (by decide)⟩
    · obtain ⟨f, a, b⟩ := k18
      exact ⟨"bound", f, a, b, E18.mono (by decide)⟩
    · obtain ⟨f, a, b⟩ := k19
      exact ⟨"figures", f, a, b, E19.mono (by decide)⟩
    · obtain ⟨f, a, b⟩ := k20
      exact ⟨"state", f, a, b, E20.mono (by decide)⟩
  exact ok_ans D63 B m0 mC hC mR M (ok_init FI L) bI (ok_told D62 m11 mD DD)
end
theorem dict_ok {K : PySem.W.Frag} {D : Addr} {es : List DictEntry} {n : Nat} (_ : K.lookup D = some ⟨.type "dict", none, .dict (List.toArray es) n, #[]⟩) (i : intsB es = true) : intsB es = true := i
/-- a list argument as it is tracked -/
theorem given_of {K : PySem.W.Frag} {H0 H : Hp} {a : Addr} {xs : List V} (h : SqL K H0 a xs) (hO : OnlyF H0) (s : Same H0 H) : Given K H a xs := by
  rcases h with (h | ⟨o, h⟩) | h
  · rcases hO a with z | ⟨o, u, z⟩
    · rw [h] at z
      cases z
    · rw [h] at z
      cases z
  · exact .inl ⟨o, s _ _ h⟩
  · exact .inr fun H' => .inr h
theorem tabs_start {cs : List (Addr × Addr)} {T : List (Addr × Str)} {H : Hp} (h : ∀ p ∈ cs, H p.2 = some (.tbl #[])) (hT : ∀ p ∈ T, p.1 ∈ cs.map (·.2)) : Tabs T H := fun p hp => by
  obtain ⟨c, hc, e⟩ := List.mem_map.mp (hT p hp)
  have z := h c hc
  rw [e] at z
  exact TabS.nil z
end FC
/-! The end. -/
namespace FC
open PySem PySem.Spec PyProof.Rows L2
/-- code objects and their tables, as the top leaves them -/
def codesT : List (Addr × Addr) := [(200, 196), (207, 203), (214, 210), (221, 217), (228, 224)]
def namesT : List (Addr × Str) := [(196, "undone" ++ ".<locals>." ++ "<lambda>"), (203, "split" ++ ".<locals>." ++ "<lambda>"), (210, "flat" ++ ".<locals>." ++ "<lambda>"), (217, "lead_to" ++ ".<locals>." ++ "<lambda>"), (224, "closes" ++ ".<locals>." ++ "<lambda>")]
theorem tabs_names {H : Hp} (h : ∀ p ∈ codesT, H p.2 = some (.tbl #[])) : LamX.Tabs namesT H := tabs_start (cs := codesT) h fun p hp => by
  have z : (namesT.all fun p => decide (p.1 ∈ codesT.map (·.2))) = true := by decide +kernel
  exact of_decide_eq_true (List.all_eq_true.mp z p hp)
/-- the request, and what is due -/
theorem due_ans (K : PySem.W.Frag) (H0 H : Hp) (xs : List V) (a : PySem.W.Codec.denoteAll PySem.Challenge.rw_fewchanges_s01_answers.args) (hO : OnlyF H0) (hs : Same H0 H) (hT : ∀ p ∈ codesT, H p.2 = some (.tbl #[])) (_ : PySem.W.Codec.withinAll PySem.Challenge.rw_fewchanges_s01_answers.args a = true)
    (hask : PySem.W.Codec.app PySem.Challenge.rw_fewchanges_s01_answers.args PySem.Challenge.rw_fewchanges_s01_answers.asked a = true) (hx : DwAll K H0 xs (PySem.W.Codec.encAll PySem.Challenge.rw_fewchanges_s01_answers.args a)) :
    spAns K namesT xs H (fun v H' => Dw K H' v (PySem.Challenge.rw_fewchanges_s01_answers.ret.enc (PySem.W.Codec.app PySem.Challenge.rw_fewchanges_s01_answers.args PySem.Challenge.rw_fewchanges_s01_answers.f a))) E0 := by
  cases hx with
  | cons h1 h2 =>
    cases h2
    cases h1 with
    | lst hq ha =>
      have e := ints_dw a.1 _ ha
      subst e
      exact ⟨_, a.1, rfl, given_of hq hO hs, hask, tabs_names hT, fun H' p hp => .lst (SqL.of hp) (dw_ints _)⟩
end FC
open PySem PySem.W PyProof.Rows
set_option maxRecDepth 100000 in
set_option maxHeartbeats 8000000 in
theorem PySem.Challenge.cw_fewchanges_s01_answers_holds : PySem.Challenge.rw_fewchanges_s01_answers.Holds := by
  w_on; k_headS; (case hw => exact ⟨[.list [.int 0]], by decide +kernel, by decide +kernel⟩)
  k_fillS
  refine FC.walk_tabs (r := PySem.Challenge.rw_fewchanges_s01_answers) (k := 9) (ps := ["calls"]) (sp := fun K => FC.spAns K FC.namesT) FC.codesT (by decide +kernel) rfl ⟨rfl, by decide, by decide⟩ (fun w h Y => PySem.W.kIn_of Y) ?empt ?out ?code ?body FC.due_ans
  case empt =>
    intro w lo mean mg mb h T X p hp
    have z : p ∈ [(200, 196), (207, 203), (214, 210), (221, 217), (228, 224)] := hp
    simp only [List.mem_cons, List.not_mem_nil, or_false] at z
    rcases z with rfl | rfl | rfl | rfl | rfl
    · exact (PySem.W.tab_of (x := "undone") (c := 200) (P := 196) T X rfl (by kernel_rfl)).2
    · exact (PySem.W.tab_of (x := "split") (c := 207) (P := 203) T X rfl (by kernel_rfl)).2
    · exact (PySem.W.tab_of (x := "flat") (c := 214) (P := 210) T X rfl (by kernel_rfl)).2
    · exact (PySem.W.tab_of (x := "lead_to") (c := 221) (P := 217) T X rfl (by kernel_rfl)).2
    · exact (PySem.W.tab_of (x := "closes") (c := 228) (P := 224) T X rfl (by kernel_rfl)).2
  case out =>
    intro w p hp
    have z : p ∈ [(200, 196), (207, 203), (214, 210), (221, 217), (228, 224)] := hp
    simp only [List.mem_cons, List.not_mem_nil, or_false] at z
    rcases z with rfl | rfl | rfl | rfl | rfl
    · kernel_rfl
    · kernel_rfl
    · kernel_rfl
    · kernel_rfl
    · kernel_rfl
  case code =>
    intro w p hp
    have z : p ∈ [(200, 196), (207, 203), (214, 210), (221, 217), (228, 224)] := hp
    simp only [List.mem_cons, List.not_mem_nil, or_false] at z
    rcases z with rfl | rfl | rfl | rfl | rfl
    · kernel_rfl
    · kernel_rfl
    · kernel_rfl
    · kernel_rfl
    · kernel_rfl
  case body =>
    intro w mg fa h KX G hmg
    refine' FC.pass (FC.ref_of (x := "Drawing") KX G ?aR) ?n_mR
    (case aR => k_is)
    intro mR
    refine' FC.pass (FC.ref_of (x := "DEEDS") KX G ?aD) ?n_mD
    (case aD => k_is)
    intro mD
    refine' FC.pass (FC.dict_mk KX mD ?lD) ?n_hD
    (case lD => k_is)
    intro hD
    refine' FC.pass (FC.free_of (x := "abs") KX G ?fzA) ?n_zA
    (case fzA => k_is)
    intro zA
    refine' FC.pass (FC.free_of (x := "len") KX G ?fzL) ?n_zL
    (case fzL => k_is)
    intro zL
    refine' FC.pass (FC.free_of (x := "list") KX G ?fzI) ?n_zI
    (case fzI => k_is)
    intro zI
    refine' FC.pass (FC.free_of (x := "int") KX G ?fzN) ?n_zN
    (case fzN => k_is)
    intro zN
    refine' FC.pass (FC.free_of (x := "range") KX G ?fzR) ?n_zR
    (case fzR => k_is)
    intro zR
    refine' FC.pass (FC.free_of (x := "min") KX G ?fzM) ?n_zM
    (case fzM => k_is)
    intro zM
    refine' FC.pass (FC.free_of (x := "zip") KX G ?fzZ) ?n_zZ
    (case fzZ => k_is)
    intro zZ
    refine' FC.pass (FC.free_of (x := "sum") KX G ?fzS) ?n_zS
    (case fzS => k_is)
    intro zS
    refine' FC.pass (FC.num_of (x := "MOST_PART") (n := 9999) KX G ?vm9) ?n_m9
    (case vm9 => k_is)
    intro m9
    refine' FC.pass (FC.num_of (x := "MOST_SIZE") (n := 400) KX G ?vm4) ?n_m4
    (case vm4 => k_is)
    intro m4
    refine' FC.pass (FC.num_of (x := "NOT_SO") (n := (-33)) KX G ?vm33) ?n_m33
    (case vm33 => k_is)
    intro m33
    refine' FC.pass (FC.num_of (x := "NOT_BEGUN") (n := (-11)) KX G ?vm11) ?n_m11
    (case vm11 => k_is)
    intro m11
    refine' FC.pass (FC.num_of (x := "START") (n := 0) KX G ?vm0) ?n_m0
    (case vm0 => k_is)
    intro m0
    refine' FC.pass (FC.num_of (x := "NO_FIGURE") (n := (-2)) KX G ?vu1) ?n_u1
    (case vu1 => k_is)
    intro u1
    refine' FC.pass (FC.num_of (x := "NONE") (n := (-6)) KX G ?vu2) ?n_u2
    (case vu2 => k_is)
    intro u2
    refine' FC.pass (FC.num_of (x := "BEYOND") (n := (-22)) KX G ?vu3) ?n_u3
    (case vu3 => k_is)
    intro u3
    refine' FC.pass (FC.num_of (x := "FULL") (n := (-28)) KX G ?vu4) ?n_u4
    (case vu4 => k_is)
    intro u4
    refine' FC.pass (FC.num_of (x := "MOST_TWISTS") (n := 6) KX G ?vu5) ?n_u5
    (case vu5 => k_is)
    intro u5
    refine' FC.pass (FC.num_of (x := "MOST_FIGURES") (n := 10) KX G ?vu6) ?n_u6
    (case vu6 => k_is)
    intro u6
    refine' FC.pass (FC.num_of (x := "MOST_CHANGES") (n := 4) KX G ?vu7) ?n_u7
    (case vu7 => k_is)
    intro u7
    refine' FC.pass (FC.tup_mk (x := "ZERO") (l := [0, 1]) KX G ?atZ ?etZ ?ztZ ?stZ) ?n_tZ
    (case atZ => k_is)
    (case etZ => k_is)
    (case ztZ => decide)
    (case stZ => rfl)
    intro tZ
    refine' FC.pass (FC.tup_mk (x := "ENDLESS") (l := [1, 0]) KX G ?atE ?etE ?ztE ?stE) ?n_tE
    (case atE => k_is)
    (case etE => k_is)
    (case ztE => decide)
    (case stE => rfl)
    intro tE
    refine' FC.pass (FC.tup_mk (x := "COUNTS") (l := FC.counts) KX G ?atC ?etC ?ztC ?stC) ?n_tC
    (case atC => k_is)
    (case etC => k_is)
    (case ztC => decide)
    (case stC => rfl)
    intro tC
    refine' FC.pass (FC.cl_mk KX mR ?pg ?hd ?po ?sa ?nF ?nK) ?n_L
    (case pg => k_is)
    (case hd => k_is)
    (case po => k_is)
    (case sa => k_is)
    (case nF => k_is)
    (case nK => k_is)
    intro L
    refine' FC.pass (FC.mdef_mk (m := "__init__") (q := "Drawing.__init__") (st := FC.sInit) (ps := ["self"]) KX mR ?aMi ?iMi ?lMi ?cMi ?kMi (fun _ _ _ _ _ _ us hl => match us, hl with | [_], _ => rfl)) ?n_Mi
    (case aMi => k_is)
    (case iMi => k_is)
    (case lMi => k_is)
    (case cMi => k_is)
    (case kMi => k_is)
    intro Mi
    refine' FC.pass (FC.mdef_mk (m := "fraction") (q := "Drawing.fraction") (st := FC.sFraction) (ps := ["self"]) KX mR ?aMf ?iMf ?lMf ?cMf ?kMf (fun _ _ _ _ _ _ us hl => match us, hl with | [_], _ => rfl)) ?n_Mf
    (case aMf => k_is)
    (case iMf => k_is)
    (case lMf => k_is)
    (case cMf => k_is)
    (case kMf => k_is)
    intro Mf
    refine' FC.pass (FC.mdef_mk (m := "half_twists") (q := "Drawing.half_twists") (st := FC.sHalf) (ps := ["self"]) KX mR ?aMh ?iMh ?lMh ?cMh ?kMh (fun _ _ _ _ _ _ us hl => match us, hl with | [_], _ => rfl)) ?n_Mh
    (case aMh => k_is)
    (case iMh => k_is)
    (case lMh => k_is)
    (case cMh => k_is)
    (case kMh => k_is)
    intro Mh
    refine' FC.pass (FC.mdef_mk (m := "drawn_anew") (q := "Drawing.drawn_anew") (st := FC.sAnew) (ps := ["self", "figures"]) KX mR ?aMa ?iMa ?lMa ?cMa ?kMa (fun _ _ _ _ _ _ us hl => match us, hl with | [_, _], _ => rfl)) ?n_Ma
    (case aMa => k_is)
    (case iMa => k_is)
    (case lMa => k_is)
    (case cMa => k_is)
    (case kMa => k_is)
    intro Ma
    refine' FC.pass (FC.mdef_mk (m := "led_to") (q := "Drawing.led_to") (st := FC.sLed) (ps := ["self", "is_so"]) KX mR ?aMl ?iMl ?lMl ?cMl ?kMl (fun _ _ _ _ _ _ us hl => match us, hl with | [_, _], _ => rfl)) ?n_Ml
    (case aMl => k_is)
    (case iMl => k_is)
    (case lMl => k_is)
    (case cMl => k_is)
    (case kMl => k_is)
    intro Ml
    refine' FC.pass (FC.mdef_mk (m := "way_done") (q := "Drawing.way_done") (st := FC.sDone) (ps := ["self", "way"]) KX mR ?aMd ?iMd ?lMd ?cMd ?kMd (fun _ _ _ _ _ _ us hl => match us, hl with | [_, _], _ => rfl)) ?n_Md
    (case aMd => k_is)
    (case iMd => k_is)
    (case lMd => k_is)
    (case cMd => k_is)
    (case kMd => k_is)
    intro Md
    refine' FC.pass (FC.mk_mk KX mR Mi ?mk ?kc) ?n_M
    (case mk => k_is)
    (case kc => k_is)
    intro M
    refine' FC.pass (FC.def_mk (x := "common_part") (st := FC.sCommon) (ps := ["one", "other"]) KX G ?a4 ?l4 ?c4 ?k4 (fun _ _ _ _ _ _ us hl => match us, hl with | [_, _], _ => rfl)) ?n_D4
    (case a4 => k_is)
    (case l4 => k_is)
    (case c4 => k_is)
    (case k4 => k_is)
    intro D4
    refine' FC.pass (FC.def_mk (x := "twisted") (st := FC.sTwisted) (ps := ["fraction", "many"]) KX G ?a5 ?l5 ?c5 ?k5 (fun _ _ _ _ _ _ us hl => match us, hl with | [_, _], _ => rfl)) ?n_D5
    (case a5 => k_is)
    (case l5 => k_is)
    (case c5 => k_is)
    (case k5 => k_is)
    intro D5
    refine' FC.pass (FC.def_mk (x := "turned") (st := FC.sTurned) (ps := ["fraction"]) KX G ?a6 ?l6 ?c6 ?k6 (fun _ _ _ _ _ _ us hl => match us, hl with | [_], _ => rfl)) ?n_D6
    (case a6 => k_is)
    (case l6 => k_is)
    (case c6 => k_is)
    (case k6 => k_is)
    intro D6
    refine' FC.pass (FC.def_mk (x := "comes_to") (st := FC.sComes) (ps := ["figures"]) KX G ?a7 ?l7 ?c7 ?k7 (fun _ _ _ _ _ _ us hl => match us, hl with | [_], _ => rfl)) ?n_D7
    (case a7 => k_is)
    (case l7 => k_is)
    (case c7 => k_is)
    (case k7 => k_is)
    intro D7
    refine' FC.pass (FC.def_mk (x := "is_fraction") (st := FC.sIsFrac) (ps := ["upper", "lower"]) KX G ?a8 ?l8 ?c8 ?k8 (fun _ _ _ _ _ _ us hl => match us, hl with | [_, _], _ => rfl)) ?n_D8
    (case a8 => k_is)
    (case l8 => k_is)
    (case c8 => k_is)
    (case k8 => k_is)
    intro D8
    refine' FC.pass (FC.def_mk (x := "ring_of") (st := FC.sRingOf) (ps := ["fraction"]) KX G ?a11 ?l11 ?c11 ?k11 (fun _ _ _ _ _ _ us hl => match us, hl with | [_], _ => rfl)) ?n_D11
    (case a11 => k_is)
    (case l11 => k_is)
    (case c11 => k_is)
    (case k11 => k_is)
    intro D11
    refine' FC.pass (FC.def_mk (x := "other_share") (st := FC.sOther) (ps := ["size", "share"]) KX G ?a12 ?l12 ?c12 ?k12 (fun _ _ _ _ _ _ us hl => match us, hl with | [_, _], _ => rfl)) ?n_D12
    (case a12 => k_is)
    (case l12 => k_is)
    (case c12 => k_is)
    (case k12 => k_is)
    intro D12
    refine' FC.pass (FC.def_mk (x := "name_of") (st := FC.sName) (ps := ["ring"]) KX G ?a13 ?l13 ?c13 ?k13 (fun _ _ _ _ _ _ us hl => match us, hl with | [_], _ => rfl)) ?n_D13
    (case a13 => k_is)
    (case l13 => k_is)
    (case c13 => k_is)
    (case k13 => k_is)
    intro D13
    refine' FC.pass (FC.def_mk (x := "is_ring") (st := FC.sIsRing) (ps := ["size", "share"]) KX G ?a14 ?l14 ?c14 ?k14 (fun _ _ _ _ _ _ us hl => match us, hl with | [_, _], _ => rfl)) ?n_D14
    (case a14 => k_is)
    (case l14 => k_is)
    (case c14 => k_is)
    (case k14 => k_is)
    intro D14
    refine' FC.pass (FC.def_mk (x := "is_undone_by") (st := FC.sBy) (ps := ["size", "share", "n"]) KX G ?a15 ?l15 ?c15 ?k15 (fun _ _ _ _ _ _ us hl => match us, hl with | [_, _, _], _ => rfl)) ?n_D15
    (case a15 => k_is)
    (case l15 => k_is)
    (case c15 => k_is)
    (case k15 => k_is)
    intro D15
    refine' FC.pass (FC.def_mk (x := "is_undone_at") (st := FC.sAt) (ps := ["size", "share", "half"]) KX G ?a16 ?l16 ?c16 ?k16 (fun _ _ _ _ _ _ us hl => match us, hl with | [_, _, _], _ => rfl)) ?n_D16
    (case a16 => k_is)
    (case l16 => k_is)
    (case c16 => k_is)
    (case k16 => k_is)
    intro D16
    refine' FC.pass (FC.def_mk (x := "is_one_change") (st := FC.sOne) (ps := ["ring"]) KX G ?a17 ?l17 ?c17 ?k17 (fun _ _ _ _ _ _ us hl => match us, hl with | [_], _ => rfl)) ?n_D17
    (case a17 => k_is)
    (case l17 => k_is)
    (case c17 => k_is)
    (case k17 => k_is)
    intro D17
    refine' FC.pass (FC.def_mk (x := "changed") (st := FC.sChanged) (ps := ["figure", "many"]) KX G ?a20 ?l20 ?c20 ?k20 (fun _ _ _ _ _ _ us hl => match us, hl with | [_, _], _ => rfl)) ?n_D20
    (case a20 => k_is)
    (case l20 => k_is)
    (case c20 => k_is)
    (case k20 => k_is)
    intro D20
    refine' FC.pass (FC.def_mk (x := "behind") (st := FC.sBehind) (ps := ["fraction", "figure", "many"]) KX G ?a21 ?l21 ?c21 ?k21 (fun _ _ _ _ _ _ us hl => match us, hl with | [_, _, _], _ => rfl)) ?n_D21
    (case a21 => k_is)
    (case l21 => k_is)
    (case c21 => k_is)
    (case k21 => k_is)
    intro D21
    refine' FC.pass (FC.def_mk (x := "longer_rows") (st := FC.sLonger) (ps := ["rows", "figure"]) KX G ?a22 ?l22 ?c22 ?k22 (fun _ _ _ _ _ _ us hl => match us, hl with | [_, _], _ => rfl)) ?n_D22
    (case a22 => k_is)
    (case l22 => k_is)
    (case c22 => k_is)
    (case k22 => k_is)
    intro D22
    refine' FC.pass (FC.def_mk (x := "ways_of") (st := FC.sWays) (ps := ["figures", "changes"]) KX G ?a23 ?l23 ?c23 ?k23 (fun _ _ _ _ _ _ us hl => match us, hl with | [_, _], _ => rfl)) ?n_D23
    (case a23 => k_is)
    (case l23 => k_is)
    (case c23 => k_is)
    (case k23 => k_is)
    intro D23
    refine' FC.pass (FC.def_mk (x := "fewest") (st := FC.sFewest) (ps := ["figures", "is_so"]) KX G ?a24 ?l24 ?c24 ?k24 (fun _ _ _ _ _ _ us hl => match us, hl with | [_, _], _ => rfl)) ?n_D24
    (case a24 => k_is)
    (case l24 => k_is)
    (case c24 => k_is)
    (case k24 => k_is)
    intro D24
    refine' FC.pass (FC.def_mk (x := "figures_behind") (st := FC.sFB) (ps := ["figures", "way"]) KX G ?a25 ?l25 ?c25 ?k25 (fun _ _ _ _ _ _ us hl => match us, hl with | [_, _], _ => rfl)) ?n_D25
    (case a25 => k_is)
    (case l25 => k_is)
    (case c25 => k_is)
    (case k25 => k_is)
    intro D25
    refine' FC.pass (FC.def_mk (x := "unlike") (st := FC.sUnlike) (ps := ["things"]) KX G ?a26 ?l26 ?c26 ?k26 (fun _ _ _ _ _ _ us hl => match us, hl with | [_], _ => rfl)) ?n_D26
    (case a26 => k_is)
    (case l26 => k_is)
    (case c26 => k_is)
    (case k26 => k_is)
    intro D26
    refine' FC.pass (FC.def_mk (x := "twist") (st := FC.sTwist) (ps := ["drawing", "numbers"]) KX G ?a34 ?l34 ?c34 ?k34 (fun _ _ _ _ _ _ us hl => match us, hl with | [_, _], _ => rfl)) ?n_D34
    (case a34 => k_is)
    (case l34 => k_is)
    (case c34 => k_is)
    (case k34 => k_is)
    intro D34
    refine' FC.pass (FC.def_mk (x := "turn") (st := FC.sTurn) (ps := ["drawing", "numbers"]) KX G ?a35 ?l35 ?c35 ?k35 (fun _ _ _ _ _ _ us hl => match us, hl with | [_, _], _ => rfl)) ?n_D35
    (case a35 => k_is)
    (case l35 => k_is)
    (case c35 => k_is)
    (case k35 => k_is)
    intro D35
    refine' FC.pass (FC.def_mk (x := "off") (st := FC.sOff) (ps := ["drawing", "numbers"]) KX G ?a36 ?l36 ?c36 ?k36 (fun _ _ _ _ _ _ us hl => match us, hl with | [_, _], _ => rfl)) ?n_D36
    (case a36 => k_is)
    (case l36 => k_is)
    (case c36 => k_is)
    (case k36 => k_is)
    intro D36
    refine' FC.pass (FC.def_mk (x := "comes") (st := FC.sCome) (ps := ["drawing", "numbers"]) KX G ?a37 ?l37 ?c37 ?k37 (fun _ _ _ _ _ _ us hl => match us, hl with | [_, _], _ => rfl)) ?n_D37
    (case a37 => k_is)
    (case l37 => k_is)
    (case c37 => k_is)
    (case k37 => k_is)
    intro D37
    refine' FC.pass (FC.def_mk (x := "ring") (st := FC.sRing) (ps := ["drawing", "numbers"]) KX G ?a38 ?l38 ?c38 ?k38 (fun _ _ _ _ _ _ us hl => match us, hl with | [_, _], _ => rfl)) ?n_D38
    (case a38 => k_is)
    (case l38 => k_is)
    (case c38 => k_is)
    (case k38 => k_is)
    intro D38
    refine' FC.pass (FC.def_mk (x := "crossings") (st := FC.sCross) (ps := ["drawing", "numbers"]) KX G ?a39 ?l39 ?c39 ?k39 (fun _ _ _ _ _ _ us hl => match us, hl with | [_, _], _ => rfl)) ?n_D39
    (case a39 => k_is)
    (case l39 => k_is)
    (case c39 => k_is)
    (case k39 => k_is)
    intro D39
    refine' FC.pass (FC.def_mk (x := "change") (st := FC.sChange) (ps := ["drawing", "numbers"]) KX G ?a40 ?l40 ?c40 ?k40 (fun _ _ _ _ _ _ us hl => match us, hl with | [_, _], _ => rfl)) ?n_D40
    (case a40 => k_is)
    (case l40 => k_is)
    (case c40 => k_is)
    (case k40 => k_is)
    intro D40
    refine' FC.pass (FC.def_mk (x := "ways") (st := FC.sWaysD) (ps := ["drawing", "numbers"]) KX G ?a46 ?l46 ?c46 ?k46 (fun _ _ _ _ _ _ us hl => match us, hl with | [_, _], _ => rfl)) ?n_D46
    (case a46 => k_is)
    (case l46 => k_is)
    (case c46 => k_is)
    (case k46 => k_is)
    intro D46
    refine' FC.pass (FC.def_mk (x := "results") (st := FC.sResults) (ps := ["drawing", "numbers"]) KX G ?a47 ?l47 ?c47 ?k47 (fun _ _ _ _ _ _ us hl => match us, hl with | [_, _], _ => rfl)) ?n_D47
    (case a47 => k_is)
    (case l47 => k_is)
    (case c47 => k_is)
    (case k47 => k_is)
    intro D47
    refine' FC.pass (FC.def_mk (x := "rings") (st := FC.sRings) (ps := ["drawing", "numbers"]) KX G ?a48 ?l48 ?c48 ?k48 (fun _ _ _ _ _ _ us hl => match us, hl with | [_, _], _ => rfl)) ?n_D48
    (case a48 => k_is)
    (case l48 => k_is)
    (case c48 => k_is)
    (case k48 => k_is)
    intro D48
    refine' FC.pass (FC.def_mk (x := "way") (st := FC.sWay) (ps := ["drawing", "numbers"]) KX G ?a49 ?l49 ?c49 ?k49 (fun _ _ _ _ _ _ us hl => match us, hl with | [_, _], _ => rfl)) ?n_D49
    (case a49 => k_is)
    (case l49 => k_is)
    (case c49 => k_is)
    (case k49 => k_is)
    intro D49
    refine' FC.pass (FC.def_mk (x := "do_way") (st := FC.sDo) (ps := ["drawing", "numbers"]) KX G ?a50 ?l50 ?c50 ?k50 (fun _ _ _ _ _ _ us hl => match us, hl with | [_, _], _ => rfl)) ?n_D50
    (case a50 => k_is)
    (case l50 => k_is)
    (case c50 => k_is)
    (case k50 => k_is)
    intro D50
    refine' FC.pass (FC.def_mk (x := "bound") (st := FC.sBound) (ps := ["drawing", "numbers"]) KX G ?a51 ?l51 ?c51 ?k51 (fun _ _ _ _ _ _ us hl => match us, hl with | [_, _], _ => rfl)) ?n_D51
    (case a51 => k_is)
    (case l51 => k_is)
    (case c51 => k_is)
    (case k51 => k_is)
    intro D51
    refine' FC.pass (FC.def_mk (x := "figures") (st := FC.sFigs) (ps := ["drawing", "numbers"]) KX G ?a52 ?l52 ?c52 ?k52 (fun _ _ _ _ _ _ us hl => match us, hl with | [_, _], _ => rfl)) ?n_D52
    (case a52 => k_is)
    (case l52 => k_is)
    (case c52 => k_is)
    (case k52 => k_is)
    intro D52
    refine' FC.pass (FC.def_mk (x := "state") (st := FC.sState) (ps := ["drawing", "numbers"]) KX G ?a53 ?l53 ?c53 ?k53 (fun _ _ _ _ _ _ us hl => match us, hl with | [_, _], _ => rfl)) ?n_D53
    (case a53 => k_is)
    (case l53 => k_is)
    (case c53 => k_is)
    (case k53 => k_is)
    intro D53
    refine' FC.pass (FC.def_mk (x := "told_of") (st := FC.sTold) (ps := ["drawing", "call", "numbers"]) KX G ?a62 ?l62 ?c62 ?k62 (fun _ _ _ _ _ _ us hl => match us, hl with | [_, _, _], _ => rfl)) ?n_D62
    (case a62 => k_is)
    (case l62 => k_is)
    (case c62 => k_is)
    (case k62 => k_is)
    intro D62
    refine' FC.pass (FC.def_mk (x := "answers") (st := FC.sAns) (ps := ["calls"]) KX G ?a63 ?l63 ?c63 ?k63 (fun _ _ _ _ _ _ us hl => match us, hl with | [_], _ => rfl)) ?n_D63
    (case a63 => k_is)
    (case l63 => k_is)
    (case c63 => k_is)
    (case k63 => k_is)
    intro D63
    refine' FC.pass (FC.def_mkC (x := "undone") (st := FC.sUndone) (ps := ["drawing", "numbers"]) KX G ?a41 ?l41 ?c41 ?k41 (fun _ _ _ _ _ _ us hl => match us, hl with | [_, _], _ => rfl)) ?n_D41
    (case a41 => k_is)
    (case l41 => k_is)
    (case c41 => k_is)
    (case k41 => k_is)
    intro D41
    refine' FC.pass (FC.def_mkC (x := "split") (st := FC.sSplit) (ps := ["drawing", "numbers"]) KX G ?a42 ?l42 ?c42 ?k42 (fun _ _ _ _ _ _ us hl => match us, hl with | [_, _], _ => rfl)) ?n_D42
    (case a42 => k_is)
    (case l42 => k_is)
    (case c42 => k_is)
    (case k42 => k_is)
    intro D42
    refine' FC.pass (FC.def_mkC (x := "flat") (st := FC.sFlat) (ps := ["drawing", "numbers"]) KX G ?a43 ?l43 ?c43 ?k43 (fun _ _ _ _ _ _ us hl => match us, hl with | [_, _], _ => rfl)) ?n_D43
    (case a43 => k_is)
    (case l43 => k_is)
    (case c43 => k_is)
    (case k43 => k_is)
    intro D43
    refine' FC.pass (FC.def_mkC (x := "lead_to") (st := FC.sLead) (ps := ["drawing", "numbers"]) KX G ?a44 ?l44 ?c44 ?k44 (fun _ _ _ _ _ _ us hl => match us, hl with | [_, _], _ => rfl)) ?n_D44
    (case a44 => k_is)
    (case l44 => k_is)
    (case c44 => k_is)
    (case k44 => k_is)
    intro D44
    refine' FC.pass (FC.def_mkC (x := "closes") (st := FC.sCloses) (ps := ["drawing", "numbers"]) KX G ?a45 ?l45 ?c45 ?k45 (fun _ _ _ _ _ _ us hl => match us, hl with | [_, _], _ => rfl)) ?n_D45
    (case a45 => k_is)
    (case l45 => k_is)
    (case c45 => k_is)
    (case k45 => k_is)
    intro D45
    obtain ⟨aZ, mZ, hZ⟩ := tZ
    obtain ⟨aE, mE, hE⟩ := tE
    obtain ⟨aC, mC, hC⟩ := tC
    have efa := hmg.symm.trans D63.g
    cases efa
    have hI : FC.intsB _ = true := FC.dict_ok hD (by rfl)
    exact ⟨_, fun s us hu => match us, hu with | [_], _ => .of_eq rfl, fun base TB => FC.all_ok ⟨⟨aZ, mZ, hZ⟩, ⟨aE, mE, hE⟩⟩
      ⟨u1, u2, u3, u4, u5, u6, u7⟩
      ⟨zA, zL, zI, zN, zR⟩
      zM
      zZ
      zS
      m9
      m4
      m33
      m11
      m0
      mC
      hC
      mD
      mR
      L
      M
      Mi.fn
      Mi.b
      ⟨_, _, D4⟩
      ⟨_, _, D5⟩
      ⟨_, _, D6⟩
      ⟨_, _, D7⟩
      ⟨_, _, D8⟩
      ⟨_, _, D11⟩
      ⟨_, _, D12⟩
      ⟨_, _, D13⟩
      ⟨_, _, D14⟩
      ⟨_, _, D15⟩
      ⟨_, _, D16⟩
      ⟨_, _, D17⟩
      ⟨_, _, D20⟩
      ⟨_, _, D21⟩
      ⟨_, _, D22⟩
      ⟨_, _, D23⟩
      ⟨_, _, D24⟩
      ⟨_, _, D25⟩
      ⟨_, _, D26⟩
      ⟨_, _, D34⟩
      ⟨_, _, D35⟩
      ⟨_, _, D36⟩
      ⟨_, _, D37⟩
      ⟨_, _, D38⟩
      ⟨_, _, D39⟩
      ⟨_, _, D40⟩
      ⟨_, _, D46⟩
      ⟨_, _, D47⟩
      ⟨_, _, D48⟩
      ⟨_, _, D49⟩
      ⟨_, _, D50⟩
      ⟨_, _, D51⟩
      ⟨_, _, D52⟩
      ⟨_, _, D53⟩
      ⟨_, _, D41⟩
      (FC.lamT_by TB (.head _) (.head _) (by decide +kernel))
      ⟨_, _, D42⟩
      (FC.lamT_by TB (.tail _ (.head _)) (.tail _ (.head _)) (by decide +kernel))
      ⟨_, _, D43⟩
      (FC.lamT_by TB (.tail _ (.tail _ (.head _))) (.tail _ (.tail _ (.head _))) (by decide +kernel))
      ⟨_, _, D44⟩
      (FC.lamT_by TB (.tail _ (.tail _ (.tail _ (.head _)))) (.tail _ (.tail _ (.tail _ (.head _)))) (by decide +kernel))
      ⟨_, _, D45⟩
      (FC.lamT_by TB (.tail _ (.tail _ (.tail _ (.tail _ (.head _))))) (.tail _ (.tail _ (.tail _ (.tail _ (.head _))))) (by decide +kernel))
      ⟨_, _, Mf⟩
      ⟨_, _, Mh⟩
      ⟨_, _, Ma⟩
      ⟨_, _, Ml⟩
      ⟨_, _, Md⟩
      ⟨_, _, D62⟩
      D63
      ⟨_, FC.kint_mk hD hI (by rfl), D34.g⟩
      ⟨_, FC.kint_mk hD hI (by rfl), D35.g⟩
      ⟨_, FC.kint_mk hD hI (by rfl), D36.g⟩
      ⟨_, FC.kint_mk hD hI (by rfl), D37.g⟩
      ⟨_, FC.kint_mk hD hI (by rfl), D38.g⟩
      ⟨_, FC.kint_mk hD hI (by rfl), D39.g⟩
      ⟨_, FC.kint_mk hD hI (by rfl), D40.g⟩
      ⟨_, FC.kint_mk hD hI (by rfl), D41.g⟩
      ⟨_, FC.kint_mk hD hI (by rfl), D42.g⟩
      ⟨_, FC.kint_mk hD hI (by rfl), D43.g⟩
      ⟨_, FC.kint_mk hD hI (by rfl), D44.g⟩
      ⟨_, FC.kint_mk hD hI (by rfl), D45.g⟩
      ⟨_, FC.kint_mk hD hI (by rfl), D46.g⟩
      ⟨_, FC.kint_mk hD hI (by rfl), D47.g⟩
      ⟨_, FC.kint_mk hD hI (by rfl), D48.g⟩
      ⟨_, FC.kint_mk hD hI (by rfl), D49.g⟩
      ⟨_, FC.kint_mk hD hI (by rfl), D50.g⟩
      ⟨_, FC.kint_mk hD hI (by rfl), D51.g⟩
      ⟨_, FC.kint_mk hD hI (by rfl), D52.g⟩
      ⟨_, FC.kint_mk hD hI (by rfl), D53.g⟩⟩
