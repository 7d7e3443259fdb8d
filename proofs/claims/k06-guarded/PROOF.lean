import PyProof.Rows.All
import Wide.All
import OpenK.AllK
import Wide.FinOn
import HandS.ForMost
import HandS.Walk
import HandS.IsInst
import HandS.SetTxt0
import HandS.StrMore
import HandS.Conv
import KE.DatumOrd
import KE.KDictCopyH
import PyProof.ListStr
import PyProof.Draws
import PySem.Challenge.RW_shiftrow_k06_whole_guarded
set_option Elab.async false
set_option linter.all false
set_option maxRecDepth 100000
set_option maxHeartbeats 4000000
namespace SR

/-! ### order of tapes -/
/-- lists of ints: the first difference decides, else the shorter -/
def llt : List Int → List Int → Bool
  | [], [] => false
  | [], _ :: _ => true
  | _ :: _, [] => false
  | x :: xs, y :: ys => if x = y then llt xs ys else decide (x < y)
theorem llt_irrefl : ∀ x : List Int, llt x x = false
  | [] => rfl
  | x :: xs => by simp only [llt, if_true]; exact llt_irrefl xs
theorem llt_trans : ∀ {x y z : List Int}, llt x y = true → llt y z = true → llt x z = true
  | [], [], _, h, _ => by simp [llt] at h
  | [], _ :: _, [], _, h => by simp [llt] at h
  | [], _ :: _, _ :: _, _, _ => rfl
  | _ :: _, [], _, h, _ => by simp [llt] at h
  | _ :: _, _ :: _, [], _, h => by simp [llt] at h
  | x :: xs, y :: ys, z :: zs, h1, h2 => by
    simp only [llt] at *
    by_cases a : x = y
    · subst a
      rw [if_pos rfl] at h1
      by_cases b : x = z
      · subst b; rw [if_pos rfl] at h2 ⊢; exact llt_trans h1 h2
      · rw [if_neg b] at h2 ⊢; exact h2
    · rw [if_neg a] at h1
      by_cases b : y = z
      · subst b; rw [if_neg a]; exact h1
      · rw [if_neg b] at h2
        have h1' := of_decide_eq_true h1
        have h2' := of_decide_eq_true h2
        rw [if_neg (by omega)]
        exact decide_eq_true (by omega)
theorem llt_total : ∀ {x y : List Int}, llt x y = false → llt y x = false → x = y
  | [], [], _, _ => rfl
  | [], _ :: _, h, _ => by simp [llt] at h
  | _ :: _, [], _, h => by simp [llt] at h
  | x :: xs, y :: ys, h1, h2 => by
    simp only [llt] at *
    by_cases a : x = y
    · subst a
      rw [if_pos rfl] at h1 h2
      rw [llt_total h1 h2]
    · rw [if_neg a] at h1
      rw [if_neg (fun e => a e.symm)] at h2
      have h1' := of_decide_eq_false h1
      have h2' := of_decide_eq_false h2
      omega
theorem llt_asymm {x y : List Int} (h : llt x y = true) : llt y x = false := by
  cases e : llt y x with
  | false => rfl
  | true => have := llt_trans h e; rw [llt_irrefl] at this; cases this
theorem llt_negtrans {x y z : List Int} (h1 : llt y x = false) (h2 : llt z y = false) : llt z x = false := by
  cases e : llt z x with
  | false => rfl
  | true =>
    cases e2 : llt x y with
    | true => have := llt_trans e e2; rw [h2] at this; cases this
    | false => have := llt_total e2 h1; subst this; rw [h2] at e; cases e
theorem llt_pre (p : List Int) (x y : List Int) : llt (p ++ x) (p ++ y) = llt x y := by
  induction p with
  | nil => rfl
  | cons a p ih => simp only [List.cons_append, llt, if_true]; exact ih
theorem llt_app : ∀ {x y : List Int} (a b : List Int), x.length = y.length → llt x y = true → llt (x ++ a) (y ++ b) = true
  | [], [], _, _, _, h => by simp [llt] at h
  | [], _ :: _, _, _, h, _ => by simp at h
  | _ :: _, [], _, _, h, _ => by simp at h
  | x :: xs, y :: ys, a, b, hl, h => by
    simp only [List.cons_append, llt] at *
    by_cases e : x = y
    · subst e
      rw [if_pos rfl] at h ⊢
      exact llt_app a b (by simpa using hl) h
    · rw [if_neg e] at h ⊢; exact h
/-- one code more at both ends -/
theorem llt_snoc {x y : List Int} (c : Int) (hl : x.length = y.length) (h : llt x y = false) : llt (x ++ [c]) (y ++ [c]) = false := by
  cases e : llt y x with
  | true => exact llt_asymm (llt_app [c] [c] hl.symm e)
  | false => have := llt_total h e; subst this; exact llt_irrefl _

/-- the shorter is the less; of two as short the less list -/
def tlt (x y : List Int) : Bool := if x.length = y.length then llt x y else decide (x.length < y.length)
theorem tlt_irrefl (x : List Int) : tlt x x = false := by unfold tlt; rw [if_pos rfl]; exact llt_irrefl x
theorem tlt_len {x y : List Int} (h : x.length < y.length) : tlt y x = false := by
  unfold tlt; rw [if_neg (by omega)]; exact decide_eq_false (by omega)
theorem tlt_false {x y : List Int} (h : tlt y x = false) : x.length ≤ y.length ∧ (x.length = y.length → llt y x = false) := by
  unfold tlt at h
  by_cases e : y.length = x.length
  · rw [if_pos e] at h; exact ⟨by omega, fun _ => h⟩
  · rw [if_neg e] at h
    have := of_decide_eq_false h
    exact ⟨by omega, fun q => absurd q.symm e⟩
theorem tlt_of {x y : List Int} (h : x.length ≤ y.length) (h2 : x.length = y.length → llt y x = false) : tlt y x = false := by
  unfold tlt
  by_cases e : y.length = x.length
  · rw [if_pos e]; exact h2 e.symm
  · rw [if_neg e]; exact decide_eq_false (by omega)
theorem tlt_negtrans {x y z : List Int} (h1 : tlt y x = false) (h2 : tlt z y = false) : tlt z x = false := by
  obtain ⟨a1, b1⟩ := tlt_false h1
  obtain ⟨a2, b2⟩ := tlt_false h2
  exact tlt_of (by omega) fun e => llt_negtrans (b1 (by omega)) (b2 (by omega))
theorem tlt_total {x y : List Int} (h1 : tlt x y = false) (h2 : tlt y x = false) : x = y := by
  obtain ⟨a1, b1⟩ := tlt_false h1
  obtain ⟨a2, b2⟩ := tlt_false h2
  exact llt_total (b1 (by omega)) (b2 (by omega))
theorem tlt_asymm {x y : List Int} (h : tlt x y = true) : tlt y x = false := by
  unfold tlt at *
  by_cases e : x.length = y.length
  · rw [if_pos e] at h; rw [if_pos e.symm]; exact llt_asymm h
  · rw [if_neg e] at h; rw [if_neg (fun q => e q.symm)]
    have := of_decide_eq_true h
    exact decide_eq_false (by omega)
theorem tlt_pre (p : List Int) (x y : List Int) : tlt (p ++ x) (p ++ y) = tlt x y := by
  unfold tlt
  rw [llt_pre]
  simp only [List.length_append]
  by_cases e : x.length = y.length
  · rw [if_pos (by omega), if_pos e]
  · rw [if_neg (by omega), if_neg e]
    exact decide_eq_decide.mpr (by omega)

/-! ### tapes that may be none -/
/-- the shorter of two; none stands for none -/
def shorter : Option (List Int) → Option (List Int) → Option (List Int)
  | none, y => y
  | some x, none => some x
  | some x, some y => if tlt y x = false then some x else some y
def ahead (p : List Int) (x : Option (List Int)) : Option (List Int) := x.map (p ++ ·)
/-- x is there and is no greater wherever y is there -/
def ole (x y : Option (List Int)) : Prop := ∀ w', y = some w' → ∃ w, x = some w ∧ tlt w' w = false
theorem ole_refl (x : Option (List Int)) : ole x x := fun w e => ⟨w, e, tlt_irrefl w⟩
theorem ole_trans {x y z : Option (List Int)} (a : ole x y) (b : ole y z) : ole x z := fun w e => by
  obtain ⟨w1, e1, h1⟩ := b w e
  obtain ⟨w2, e2, h2⟩ := a w1 e1
  exact ⟨w2, e2, tlt_negtrans h2 h1⟩
theorem ole_none (x : Option (List Int)) : ole x none := fun _ e => nomatch e
theorem shorter_l (x y : Option (List Int)) : ole (shorter x y) x := fun w e => by
  subst e
  cases y with
  | none => exact ⟨w, rfl, tlt_irrefl w⟩
  | some v =>
    simp only [shorter]
    cases h : tlt v w with
    | false => rw [if_pos rfl]; exact ⟨w, rfl, tlt_irrefl w⟩
    | true => rw [if_neg (by decide)]; exact ⟨v, rfl, tlt_asymm h⟩
theorem shorter_r (x y : Option (List Int)) : ole (shorter x y) y := fun w e => by
  subst e
  cases x with
  | none => exact ⟨w, rfl, tlt_irrefl w⟩
  | some v =>
    simp only [shorter]
    cases h : tlt w v with
    | false => rw [if_pos rfl]; exact ⟨v, rfl, h⟩
    | true => rw [if_neg (by decide)]; exact ⟨w, rfl, tlt_irrefl w⟩
theorem shorter_is (x y : Option (List Int)) : shorter x y = x ∨ shorter x y = y := by
  cases x with
  | none => exact .inr rfl
  | some v =>
    cases y with
    | none => exact .inl rfl
    | some w =>
      simp only [shorter]
      cases h : tlt w v with
      | false => exact .inl (if_pos rfl)
      | true => exact .inr (if_neg (by decide))
theorem shorter_glb {x y z : Option (List Int)} (a : ole z x) (b : ole z y) : ole z (shorter x y) := by
  rcases shorter_is x y with e | e
  · rw [e]; exact a
  · rw [e]; exact b
theorem shorter_some {x y : Option (List Int)} (h : x.isSome = true ∨ y.isSome = true) : (shorter x y).isSome = true := by
  cases x with
  | none => cases y with
    | none => simp at h
    | some w => rfl
  | some v => cases y with
    | none => rfl
    | some w => simp only [shorter]; split <;> rfl
theorem ahead_mono {x y : Option (List Int)} (p : List Int) (h : ole x y) : ole (ahead p x) (ahead p y) := fun w e => by
  cases y with
  | none => exact nomatch e
  | some v =>
    obtain ⟨u, e1, h1⟩ := h v rfl
    subst e1
    have e' : p ++ v = w := Option.some.inj e
    subst e'
    exact ⟨p ++ u, rfl, by rw [tlt_pre]; exact h1⟩
theorem ahead_ge (p : List Int) (x : Option (List Int)) : ole x (ahead p x) := fun w e => by
  cases x with
  | none => exact nomatch e
  | some v =>
    have e' : p ++ v = w := Option.some.inj e
    subst e'
    refine ⟨v, rfl, ?_⟩
    cases p with
    | nil => exact tlt_irrefl v
    | cons a p => exact tlt_len (by simp only [List.cons_append, List.length_cons, List.length_append]; omega)
theorem ahead_ahead (p q : List Int) (x : Option (List Int)) : ahead p (ahead q x) = ahead (p ++ q) x := by
  cases x with
  | none => rfl
  | some v => simp [ahead]
theorem ahead_shorter (p : List Int) (x y : Option (List Int)) : ahead p (shorter x y) = shorter (ahead p x) (ahead p y) := by
  cases x with
  | none => cases y <;> rfl
  | some v =>
    cases y with
    | none => rfl
    | some w =>
      simp only [shorter, ahead, Option.map_some, tlt_pre]
      split <;> rfl

/-! ### signs, codes, shifts -/
theorem bool_ne {x y : Bool} (h : ¬ x = y) : x = !y := by
  cases x <;> cases y <;> first | rfl | exact absurd rfl h
def bi (b : Bool) : Int := if b = true then 1 else 0
theorem bi_not (b : Bool) : bi (!b) = 1 - bi b := by cases b <;> rfl
def oi : Option Nat → Int
  | none => -1
  | some k => k
/-- the place of a sign -/
def idx : List Nat → Nat → Option Nat
  | [], _ => none
  | x :: r, c => if x = c then some 0 else (idx r c).map (· + 1)
theorem idx_get : ∀ {l : List Nat} {c k : Nat}, idx l c = some k → l[k]? = some c
  | [], _, _, h => by simp [idx] at h
  | x :: r, c, k, h => by
    simp only [idx] at h
    by_cases e : x = c
    · rw [if_pos e] at h; cases h; simp [e]
    · rw [if_neg e] at h
      cases q : idx r c with
      | none => rw [q] at h; cases h
      | some j =>
        rw [q] at h
        have h' : j + 1 = k := Option.some.inj h
        subst h'
        simpa using idx_get q
theorem idx_mem : ∀ {l : List Nat} {c : Nat}, c ∈ l → ∃ k, idx l c = some k
  | x :: r, c, h => by
    simp only [idx]
    by_cases e : x = c
    · exact ⟨0, if_pos e⟩
    · rw [if_neg e]
      rcases List.mem_cons.mp h with q | q
      · exact absurd q.symm e
      · obtain ⟨k, hk⟩ := idx_mem q
        exact ⟨k + 1, by rw [hk]; rfl⟩
theorem idx_none : ∀ {l : List Nat} {c : Nat}, c ∉ l → idx l c = none
  | [], _, _ => rfl
  | x :: r, c, h => by
    simp only [idx]
    rw [if_neg (fun e => by subst e; exact h List.mem_cons_self), idx_none (fun q => h (List.mem_cons_of_mem _ q))]
    rfl
theorem idx_lt {l : List Nat} {c k : Nat} (h : idx l c = some k) : k < l.length := (List.getElem?_eq_some_iff.mp (idx_get h)).1
theorem idx_mem_of {l : List Nat} {c k : Nat} (h : idx l c = some k) : c ∈ l := List.mem_of_getElem? (idx_get h)

/-- two sets of signs -/
structure Sets where
  one : List Nat
  two : List Nat
def Sets.row (S : Sets) (st : Bool) : List Nat := if st = true then S.two else S.one
def Sets.n (S : Sets) : Int := S.one.length
def common (S : Sets) (k : Nat) : Bool := decide (S.one.getD k 0 = S.two.getD k 0)
def bump (S : Sets) (o : Option Nat) (k : Nat) : Option Nat := match o with
  | none => none
  | some j => some (if common S k = true then j else j + 1)
def okO (most : Nat) (o : Option Nat) : Bool := match o with
  | none => true
  | some j => decide (j ≤ most)
/-- none at most, then the numbers -/
def lo (o o' : Option Nat) : Prop := match o, o' with
  | none, _ => True
  | some _, none => False
  | some j, some j' => j ≤ j'
theorem lo_refl (o : Option Nat) : lo o o := by cases o <;> simp [lo]
theorem lo_bump {S : Sets} {o o' : Option Nat} (k : Nat) (h : lo o o') : lo (bump S o k) (bump S o' k) := by
  cases o with
  | none => cases o' <;> simp [bump, lo]
  | some j => cases o' with
    | none => simp [lo] at h
    | some j' => simp only [lo, bump] at *; split <;> omega
theorem lo_ok {most : Nat} {o o' : Option Nat} (h : lo o o') (q : okO most o' = true) : okO most o = true := by
  cases o with
  | none => rfl
  | some j => cases o' with
    | none => simp [lo] at h
    | some j' => simp only [lo, okO, decide_eq_true_eq] at *; omega

/-- the shortest codes of a place's sign in a state, B the rest's -/
def signed (S : Sets) (most : Nat) (B : Bool → Option Nat → Option (List Int)) (c : Nat) (st : Bool) (o : Option Nat) : Option (List Int) :=
  match idx (S.row st) c with
  | none => none
  | some k => if okO most (bump S o k) = true then ahead [(k : Int)] (B st (bump S o k)) else none
def turn (S : Sets) (st : Bool) : Int := S.n + bi (!st)
def same (S : Sets) (st : Bool) : Int := S.n + bi st
/-- the shortest rest, as the program looks for it -/
def best (S : Sets) (most : Nat) : List Nat → Bool → Option Nat → Option (List Int)
  | [], _, _ => some []
  | c :: r, st, o =>
    let b1 := signed S most (best S most r) c st o
    let b2 := shorter b1 (ahead [turn S st] (signed S most (best S most r) c (!st) (some 0)))
    let b3 := if o.isSome = true then shorter b2 (ahead [same S st] (signed S most (best S most r) c st none)) else b2
    shorter b3 (ahead [turn S st, turn S st] (signed S most (best S most r) c (!st) none))

/-! ### best is a lower bound of its ways -/
section
variable {S : Sets} {most : Nat}
theorem best_cons (c : Nat) (r : List Nat) (st : Bool) (o : Option Nat) : best S most (c :: r) st o =
    shorter (if o.isSome = true then shorter (shorter (signed S most (best S most r) c st o) (ahead [turn S st] (signed S most (best S most r) c (!st) (some 0)))) (ahead [same S st] (signed S most (best S most r) c st none))
      else shorter (signed S most (best S most r) c st o) (ahead [turn S st] (signed S most (best S most r) c (!st) (some 0))))
      (ahead [turn S st, turn S st] (signed S most (best S most r) c (!st) none)) := rfl
theorem best_1 (c : Nat) (r : List Nat) (st : Bool) (o : Option Nat) : ole (best S most (c :: r) st o) (signed S most (best S most r) c st o) := by
  rw [best_cons]
  refine ole_trans (shorter_l _ _) ?_
  split
  · exact ole_trans (shorter_l _ _) (shorter_l _ _)
  · exact shorter_l _ _
theorem best_2 (c : Nat) (r : List Nat) (st : Bool) (o : Option Nat) : ole (best S most (c :: r) st o) (ahead [turn S st] (signed S most (best S most r) c (!st) (some 0))) := by
  rw [best_cons]
  refine ole_trans (shorter_l _ _) ?_
  split
  · exact ole_trans (shorter_l _ _) (shorter_r _ _)
  · exact shorter_r _ _
theorem best_3 (c : Nat) (r : List Nat) (st : Bool) (o : Option Nat) : ole (best S most (c :: r) st o) (ahead [same S st] (signed S most (best S most r) c st none)) := by
  cases o with
  | none => exact ole_trans (best_1 c r st none) (ahead_ge _ _)
  | some j =>
    rw [best_cons]
    refine ole_trans (shorter_l _ _) ?_
    rw [if_pos (show (some j).isSome = true from rfl)]
    exact shorter_r _ _
theorem best_4 (c : Nat) (r : List Nat) (st : Bool) (o : Option Nat) : ole (best S most (c :: r) st o) (ahead [turn S st, turn S st] (signed S most (best S most r) c (!st) none)) := by
  rw [best_cons]
  exact shorter_r _ _
theorem best_glb {c : Nat} {r : List Nat} {st : Bool} {o : Option Nat} {z : Option (List Int)} (h1 : ole z (signed S most (best S most r) c st o)) (h2 : ole z (ahead [turn S st] (signed S most (best S most r) c (!st) (some 0))))
    (h3 : o.isSome = true → ole z (ahead [same S st] (signed S most (best S most r) c st none))) (h4 : ole z (ahead [turn S st, turn S st] (signed S most (best S most r) c (!st) none))) : ole z (best S most (c :: r) st o) := by
  rw [best_cons]
  refine shorter_glb ?_ h4
  split
  · rename_i e
    exact shorter_glb (shorter_glb h1 h2) (h3 e)
  · exact shorter_glb h1 h2
theorem signed_mono {B : Bool → Option Nat → Option (List Int)} (hB : ∀ st o o', lo o o' → ole (B st o) (B st o')) {c : Nat} {st : Bool} {o o' : Option Nat} (h : lo o o') :
    ole (signed S most B c st o) (signed S most B c st o') := by
  unfold signed
  cases idx (S.row st) c with
  | none => exact ole_refl _
  | some k =>
    simp only
    by_cases q : okO most (bump S o' k) = true
    · rw [if_pos q, if_pos (lo_ok (lo_bump k h) q)]
      exact ahead_mono _ (hB _ _ _ (lo_bump k h))
    · rw [if_neg q]; exact ole_none _
theorem best_mono : ∀ (r : List Nat) (st : Bool) (o o' : Option Nat), lo o o' → ole (best S most r st o) (best S most r st o')
  | [], _, _, _, _ => ole_refl _
  | c :: r, st, o, o', h => by
    have ih := best_mono r
    exact best_glb (ole_trans (best_1 c r st o) (signed_mono ih h)) (best_2 c r st o) (fun _ => best_3 c r st o) (best_4 c r st o)
/-- one shift more is no better -/
theorem best_shift (c : Nat) (r : List Nat) (st x : Bool) (o : Option Nat) : ole (best S most (c :: r) st o) (ahead [S.n + bi x] (best S most (c :: r) x (if x = st then none else some 0))) := by
  have mono := fun st o o' => best_mono (S := S) (most := most) r st o o'
  have key : ∀ z : Option (List Int), (∀ u, u = best S most (c :: r) x (if x = st then none else some 0) → ∃ v, ole v u ∧ ole z (ahead [S.n + bi x] v)) → ole z (ahead [S.n + bi x] (best S most (c :: r) x (if x = st then none else some 0))) := fun z h => by
    obtain ⟨v, h1, h2⟩ := h _ rfl
    exact ole_trans h2 (ahead_mono _ h1)
  -- the four ways of the state behind the shift, each with the shift ahead
  have four : ∀ (p : Option Nat), p = (if x = st then none else some 0) →
      ole (best S most (c :: r) st o) (ahead [S.n + bi x] (signed S most (best S most r) c x p)) →
      ole (best S most (c :: r) st o) (ahead [S.n + bi x] (ahead [turn S x] (signed S most (best S most r) c (!x) (some 0)))) →
      (p.isSome = true → ole (best S most (c :: r) st o) (ahead [S.n + bi x] (ahead [same S x] (signed S most (best S most r) c x none)))) →
      ole (best S most (c :: r) st o) (ahead [S.n + bi x] (ahead [turn S x, turn S x] (signed S most (best S most r) c (!x) none))) →
      ole (best S most (c :: r) st o) (ahead [S.n + bi x] (best S most (c :: r) x p)) := fun p _ h1 h2 h3 h4 => by
    rw [best_cons c r x p, ahead_shorter]
    refine shorter_glb ?_ h4
    split
    · rename_i e
      rw [ahead_shorter, ahead_shorter]
      exact shorter_glb (shorter_glb h1 h2) (h3 e)
    · rw [ahead_shorter]
      exact shorter_glb h1 h2
  refine four _ rfl ?_ ?_ ?_ ?_
  · by_cases e : x = st
    · subst e; rw [if_pos rfl]; exact best_3 c r x o
    · have e' : x = !st := bool_ne e
      subst e'; rw [if_neg e]; exact best_2 c r st o
  · by_cases e : x = st
    · subst e; exact ole_trans (best_2 c r x o) (ahead_ge _ _)
    · have e' : x = !st := bool_ne e
      subst e'
      rw [Bool.not_not, ahead_ahead]
      have q : ole (ahead [same S st] (signed S most (best S most r) c st none)) (ahead [same S st] (signed S most (best S most r) c st (some 0))) := ahead_mono _ (signed_mono mono (by trivial))
      have t : turn S (!st) = same S st := by unfold turn same; rw [Bool.not_not]
      rw [t]
      refine ole_trans (best_3 c r st o) (ole_trans q ?_)
      have := ahead_ge [S.n + bi (!st)] (ahead [same S st] (signed S most (best S most r) c st (some 0)))
      rw [ahead_ahead] at this
      exact this
  · intro hp
    by_cases e : x = st
    · rw [if_pos e] at hp; cases hp
    · have e' : x = !st := bool_ne e
      subst e'
      rw [ahead_ahead]
      exact best_4 c r st o
  · by_cases e : x = st
    · subst e; exact ole_trans (best_4 c r x o) (ahead_ge _ _)
    · have e' : x = !st := bool_ne e
      subst e'
      rw [Bool.not_not]
      have t : turn S (!st) = same S st := by unfold turn same; rw [Bool.not_not]
      rw [t, show ([same S st, same S st] : List Int) = [same S st] ++ [same S st] from rfl, ← ahead_ahead, ahead_ahead]
      refine ole_trans (best_3 c r st o) ?_
      rw [← ahead_ahead]
      exact ole_trans (ahead_ge [same S st] _) (ahead_ge _ _)
end

/-! ### words that a state takes -/
abbrev Stt := List Nat × Bool × Option Nat
def step (S : Sets) (most : Nat) : Stt → Int → Option Stt
  | ([], _, _), _ => none
  | (c :: r, st, o), k =>
    if k = S.n + bi false then some (c :: r, false, if false = st then none else some 0)
    else if k = S.n + bi true then some (c :: r, true, if true = st then none else some 0)
    else match idx (S.row st) c with
      | none => none
      | some j => if k = (j : Int) ∧ okO most (bump S o j) = true then some (r, st, bump S o j) else none
def run (S : Sets) (most : Nat) : Stt → List Int → Option Stt
  | q, [] => some q
  | q, k :: w => (step S most q k).bind fun q' => run S most q' w
def Acc (S : Sets) (most : Nat) (q : Stt) (w : List Int) : Prop := ∃ st o, run S most q w = some ([], st, o)

section
variable {S : Sets} {most : Nat}
/-- both sets have as many signs -/
structure Even (S : Sets) : Prop where
  len : S.two.length = S.one.length
theorem Even.row {S : Sets} (h : Even S) (st : Bool) : ((S.row st).length : Int) = S.n := by
  unfold Sets.row Sets.n
  split
  · rw [h.len]
  · rfl
theorem idx_row (h : Even S) {st : Bool} {c k : Nat} (e : idx (S.row st) c = some k) : (k : Int) < S.n := by
  rw [← h.row st]
  exact Int.ofNat_lt.mpr (idx_lt e)
theorem step_shift (c : Nat) (r : List Nat) (st x : Bool) (o : Option Nat) : step S most (c :: r, st, o) (S.n + bi x) = some (c :: r, x, if x = st then none else some 0) := by
  cases x with
  | false => unfold step; exact if_pos rfl
  | true =>
    have ne : ¬ (S.n + bi true = S.n + bi false) := by simp only [bi]; simp; omega
    show (if S.n + bi true = S.n + bi false then _ else if S.n + bi true = S.n + bi true then some (c :: r, true, if true = st then none else some 0) else _) = _
    rw [if_neg ne]
    exact if_pos rfl
theorem step_sign (h : Even S) {c j : Nat} {r : List Nat} {st : Bool} {o : Option Nat} (e : idx (S.row st) c = some j) (ok : okO most (bump S o j) = true) : step S most (c :: r, st, o) (j : Int) = some (r, st, bump S o j) := by
  have hl := idx_row h e
  simp only [step]
  rw [if_neg (by simp [bi]; omega), if_neg (by simp [bi]; omega), e]
  simp only
  rw [if_pos ⟨trivial, ok⟩]
theorem step_inv {q : Stt} {k : Int} {q' : Stt} (e : step S most q k = some q') : ∃ c r st o, q = (c :: r, st, o) ∧
    ((∃ x, k = S.n + bi x ∧ q' = (c :: r, x, if x = st then none else some 0)) ∨ ∃ j, idx (S.row st) c = some j ∧ k = (j : Int) ∧ okO most (bump S o j) = true ∧ q' = (r, st, bump S o j)) := by
  obtain ⟨rem, st, o⟩ := q
  cases rem with
  | nil => simp [step] at e
  | cons c r =>
    refine ⟨c, r, st, o, rfl, ?_⟩
    simp only [step] at e
    by_cases h0 : k = S.n + bi false
    · rw [if_pos h0] at e; exact .inl ⟨false, h0, (Option.some.inj e).symm⟩
    · rw [if_neg h0] at e
      by_cases h1 : k = S.n + bi true
      · rw [if_pos h1] at e; exact .inl ⟨true, h1, (Option.some.inj e).symm⟩
      · rw [if_neg h1] at e
        cases h2 : idx (S.row st) c with
        | none => rw [h2] at e; cases e
        | some j =>
          rw [h2] at e
          simp only at e
          by_cases h3 : k = (j : Int) ∧ okO most (bump S o j) = true
          · rw [if_pos h3] at e; exact .inr ⟨j, rfl, h3.1, h3.2, (Option.some.inj e).symm⟩
          · rw [if_neg h3] at e; cases e
theorem run_cons {q : Stt} {k : Int} {w : List Int} {p : Stt} (e : run S most q (k :: w) = some p) : ∃ q', step S most q k = some q' ∧ run S most q' w = some p := by
  simp only [run] at e
  cases h : step S most q k with
  | none => rw [h] at e; cases e
  | some q' => rw [h] at e; exact ⟨q', rfl, e⟩
theorem run_append : ∀ (u w : List Int) (q : Stt), run S most q (u ++ w) = (run S most q u).bind fun q' => run S most q' w
  | [], w, q => rfl
  | k :: u, w, q => by
    simp only [List.cons_append, run]
    cases step S most q k with
    | none => rfl
    | some q' => exact run_append u w q'

/-- no word is less than the best -/
theorem best_least (h : Even S) : ∀ (w : List Int) (q : Stt) (o' : Option Nat), lo o' q.2.2 → Acc S most q w → ole (best S most q.1 q.2.1 o') (some w)
  | [], (rem, st, o), o', _, ⟨st1, o1, e⟩ => by
    simp only [run, Option.some.injEq, Prod.mk.injEq] at e
    obtain ⟨rfl, _, _⟩ := e
    exact ole_refl _
  | k :: w, q, o', hlo, ⟨st1, o1, e⟩ => by
    obtain ⟨q', e1, e2⟩ := run_cons e
    obtain ⟨c, r, st, o, rfl, h1⟩ := step_inv e1
    rcases h1 with ⟨x, rfl, rfl⟩ | ⟨j, hj, rfl, ok, rfl⟩
    · have ih := best_least h w _ (if x = st then none else some 0) (lo_refl _) ⟨st1, o1, e2⟩
      exact ole_trans (best_shift c r st x o') (ahead_mono [S.n + bi x] ih)
    · have ih := best_least h w (r, st, bump S o j) (bump S o' j) (lo_bump j hlo) ⟨st1, o1, e2⟩
      refine ole_trans (best_1 c r st o') ?_
      unfold signed
      rw [hj]
      simp only
      rw [if_pos (lo_ok (lo_bump j hlo) ok)]
      exact ahead_mono [(j : Int)] ih
theorem acc_cons {q q' : Stt} {k : Int} {w : List Int} (e : step S most q k = some q') (a : Acc S most q' w) : Acc S most q (k :: w) := by
  obtain ⟨st, o, a⟩ := a
  refine ⟨st, o, ?_⟩
  simp only [run]
  rw [e]
  exact a
theorem signed_acc (h : Even S) {r : List Nat} (ih : ∀ st o w, best S most r st o = some w → Acc S most (r, st, o) w) {c : Nat} {st : Bool} {o : Option Nat} {w : List Int} (e : signed S most (best S most r) c st o = some w) : Acc S most (c :: r, st, o) w := by
  unfold signed at e
  cases hj : idx (S.row st) c with
  | none => rw [hj] at e; cases e
  | some j =>
    rw [hj] at e
    simp only at e
    by_cases ok : okO most (bump S o j) = true
    · rw [if_pos ok] at e
      cases hb : best S most r st (bump S o j) with
      | none => rw [hb] at e; cases e
      | some v =>
        rw [hb] at e
        have e' : (j : Int) :: v = w := Option.some.inj e
        subst e'
        exact acc_cons (step_sign h hj ok) (ih _ _ _ hb)
    · rw [if_neg ok] at e; cases e
theorem ahead_inv {p w : List Int} {x : Option (List Int)} (e : ahead p x = some w) : ∃ v, x = some v ∧ w = p ++ v := by
  cases x with
  | none => cases e
  | some v => exact ⟨v, rfl, (Option.some.inj e).symm⟩
theorem turn_shift (st : Bool) (c : Nat) (r : List Nat) (o : Option Nat) : step S most (c :: r, st, o) (turn S st) = some (c :: r, !st, some 0) := by
  unfold turn
  rw [step_shift]
  cases st <;> rfl
theorem same_shift (st : Bool) (c : Nat) (r : List Nat) (o : Option Nat) : step S most (c :: r, st, o) (same S st) = some (c :: r, st, none) := by
  unfold same
  rw [step_shift, if_pos rfl]
theorem turn_again (st : Bool) (c : Nat) (r : List Nat) (o : Option Nat) : step S most (c :: r, !st, o) (turn S st) = some (c :: r, !st, none) := by
  unfold turn
  rw [step_shift, if_pos rfl]
/-- the best is taken -/
theorem best_acc (h : Even S) : ∀ (rem : List Nat) (st : Bool) (o : Option Nat) (w : List Int), best S most rem st o = some w → Acc S most (rem, st, o) w
  | [], st, o, w, e => by
    have e' : [] = w := Option.some.inj e
    subst e'
    exact ⟨st, o, rfl⟩
  | c :: r, st, o, w, e => by
    have ih := best_acc h r
    have w1 : signed S most (best S most r) c st o = some w → Acc S most (c :: r, st, o) w := fun e => signed_acc h ih e
    have w2 : ahead [turn S st] (signed S most (best S most r) c (!st) (some 0)) = some w → Acc S most (c :: r, st, o) w := fun e => by
      obtain ⟨v, e1, rfl⟩ := ahead_inv e
      exact acc_cons (turn_shift st c r o) (signed_acc h ih e1)
    have w3 : ahead [same S st] (signed S most (best S most r) c st none) = some w → Acc S most (c :: r, st, o) w := fun e => by
      obtain ⟨v, e1, rfl⟩ := ahead_inv e
      exact acc_cons (same_shift st c r o) (signed_acc h ih e1)
    have w4 : ahead [turn S st, turn S st] (signed S most (best S most r) c (!st) none) = some w → Acc S most (c :: r, st, o) w := fun e => by
      obtain ⟨v, e1, rfl⟩ := ahead_inv e
      exact acc_cons (turn_shift st c r o) (acc_cons (turn_again st c r _) (signed_acc h ih e1))
    rw [best_cons] at e
    rcases shorter_is _ _ with q | q
    · rw [q] at e
      by_cases ho : o.isSome = true
      · rw [if_pos ho] at e
        rcases shorter_is (shorter (signed S most (best S most r) c st o) (ahead [turn S st] (signed S most (best S most r) c (!st) (some 0)))) (ahead [same S st] (signed S most (best S most r) c st none)) with q | q
        · rw [q] at e
          rcases shorter_is (signed S most (best S most r) c st o) (ahead [turn S st] (signed S most (best S most r) c (!st) (some 0))) with q | q
          · rw [q] at e; exact w1 e
          · rw [q] at e; exact w2 e
        · rw [q] at e; exact w3 e
      · rw [if_neg ho] at e
        rcases shorter_is (signed S most (best S most r) c st o) (ahead [turn S st] (signed S most (best S most r) c (!st) (some 0))) with q | q
        · rw [q] at e; exact w1 e
        · rw [q] at e; exact w2 e
    · rw [q] at e; exact w4 e
/-- every sign stands in some set -/
def Stands (S : Sets) (t : List Nat) : Prop := ∀ c ∈ t, ∃ st, c ∈ S.row st
theorem signed_some {B : Bool → Option Nat → Option (List Int)} (hB : ∀ st o, okO most o = true → (B st o).isSome = true) {c : Nat} {st : Bool} (hc : c ∈ S.row st) : (signed S most B c st none).isSome = true := by
  obtain ⟨j, hj⟩ := idx_mem hc
  unfold signed
  rw [hj]
  show (if okO most (bump S none j) = true then ahead [(j : Int)] (B st (bump S none j)) else none).isSome = true
  rw [if_pos (show okO most (bump S none j) = true from rfl)]
  unfold ahead
  rw [Option.isSome_map]
  exact hB _ _ rfl
/-- there always is one -/
theorem best_some : ∀ (rem : List Nat) (st : Bool) (o : Option Nat), Stands S rem → okO most o = true → (best S most rem st o).isSome = true
  | [], _, _, _, _ => rfl
  | c :: r, st, o, hS, ho => by
    have ih : ∀ st o, okO most o = true → (best S most r st o).isSome = true := fun st o => best_some r st o fun d hd => hS d (List.mem_cons_of_mem _ hd)
    obtain ⟨x, hx⟩ := hS c List.mem_cons_self
    have hs := signed_some ih hx
    by_cases e : x = st
    · subst e
      obtain ⟨w, hw⟩ := Option.isSome_iff_exists.mp hs
      obtain ⟨v, hv, _⟩ := best_3 (S := S) (most := most) c r x o ([same S x] ++ w) (by rw [hw]; rfl)
      rw [hv]; rfl
    · have e' : x = !st := bool_ne e
      subst e'
      obtain ⟨w, hw⟩ := Option.isSome_iff_exists.mp hs
      obtain ⟨v, hv, _⟩ := best_4 (S := S) (most := most) c r st o ([turn S st, turn S st] ++ w) (by rw [hw]; rfl)
      rw [hv]; rfl
/-- and it is short -/
theorem best_len : ∀ (rem : List Nat) (st : Bool) (o : Option Nat) (w : List Int), best S most rem st o = some w → w.length ≤ 3 * rem.length
  | [], st, o, w, e => by
    have e' : [] = w := Option.some.inj e
    subst e'; simp
  | c :: r, st, o, w, e => by
    have ih := best_len r
    have sg : ∀ st o w, signed S most (best S most r) c st o = some w → w.length ≤ 3 * r.length + 1 := fun st o w e => by
      unfold signed at e
      cases hj : idx (S.row st) c with
      | none => rw [hj] at e; cases e
      | some j =>
        rw [hj] at e
        simp only at e
        by_cases ok : okO most (bump S o j) = true
        · rw [if_pos ok] at e
          obtain ⟨v, e1, rfl⟩ := ahead_inv e
          have := ih _ _ _ e1
          simp; omega
        · rw [if_neg ok] at e; cases e
    have sa : ∀ p st o w, ahead p (signed S most (best S most r) c st o) = some w → w.length ≤ 3 * r.length + 1 + p.length := fun p st o w e => by
      obtain ⟨v, e1, rfl⟩ := ahead_inv e
      have := sg _ _ _ e1
      simp; omega
    have fin : w.length ≤ 3 * r.length + 3 := by
      rw [best_cons] at e
      rcases shorter_is _ _ with q | q
      · rw [q] at e
        by_cases ho : o.isSome = true
        · rw [if_pos ho] at e
          rcases shorter_is (shorter (signed S most (best S most r) c st o) (ahead [turn S st] (signed S most (best S most r) c (!st) (some 0)))) (ahead [same S st] (signed S most (best S most r) c st none)) with q | q
          · rw [q] at e
            rcases shorter_is (signed S most (best S most r) c st o) (ahead [turn S st] (signed S most (best S most r) c (!st) (some 0))) with q | q
            · rw [q] at e; have := sg _ _ _ e; omega
            · rw [q] at e; have := sa _ _ _ _ e; simp at this; omega
          · rw [q] at e; have := sa _ _ _ _ e; simp at this; omega
        · rw [if_neg ho] at e
          rcases shorter_is (signed S most (best S most r) c st o) (ahead [turn S st] (signed S most (best S most r) c (!st) (some 0))) with q | q
          · rw [q] at e; have := sg _ _ _ e; omega
          · rw [q] at e; have := sa _ _ _ _ e; simp at this; omega
      · rw [q] at e; have := sa _ _ _ _ e; simp at this; omega
    simp only [List.length_cons]; omega

/-! ### what is read of a tape -/
def gone (S : Sets) : List Int → Bool → List Nat × Bool
  | [], st => ([], st)
  | k :: w, st => if k < S.n then ((S.row st).getD k.toNat 0 :: (gone S w st).1, (gone S w st).2) else gone S w (decide (k - S.n = 1))
theorem gone_sign {k : Int} {w : List Int} {st : Bool} (h : k < S.n) : gone S (k :: w) st = ((S.row st).getD k.toNat 0 :: (gone S w st).1, (gone S w st).2) := by
  simp only [gone]; rw [if_pos h]
theorem gone_shift (x : Bool) (w : List Int) (st : Bool) : gone S ((S.n + bi x) :: w) st = gone S w x := by
  simp only [gone]
  rw [if_neg (by cases x <;> simp [bi]; omega)]
  congr 1
  cases x
  · simp [bi]
  · simp only [bi, if_true, decide_eq_true_eq]; omega
/-- codes that a tape may hold -/
def Codes (S : Sets) (w : List Int) : Prop := ∀ k ∈ w, 0 ≤ k ∧ k < S.n + 2
theorem run_codes (h : Even S) : ∀ (w : List Int) (q p : Stt), run S most q w = some p → Codes S w
  | [], _, _, _, k, hk => nomatch hk
  | a :: w, q, p, e, k, hk => by
    obtain ⟨q', e1, e2⟩ := run_cons e
    rcases List.mem_cons.mp hk with rfl | hk
    · obtain ⟨c, r, st, o, rfl, h1⟩ := step_inv e1
      have hn : (0 : Int) ≤ S.n := by unfold Sets.n; omega
      rcases h1 with ⟨x, rfl, _⟩ | ⟨j, hj, rfl, _, _⟩
      · cases x <;> simp [bi] <;> omega
      · have := idx_row h hj
        omega
    · exact run_codes h w q' p e2 k hk
/-- behind a run the text told and the state -/
theorem run_gone (h : Even S) : ∀ (w : List Int) (q p : Stt), run S most q w = some p → q.1 = (gone S w q.2.1).1 ++ p.1 ∧ p.2.1 = (gone S w q.2.1).2
  | [], q, p, e => by
    have e' : q = p := Option.some.inj e
    subst e'
    exact ⟨rfl, rfl⟩
  | a :: w, q, p, e => by
    obtain ⟨q', e1, e2⟩ := run_cons e
    obtain ⟨c, r, st, o, rfl, h1⟩ := step_inv e1
    have ih := run_gone h w q' p e2
    rcases h1 with ⟨x, rfl, rfl⟩ | ⟨j, hj, rfl, _, rfl⟩
    · simp only
      rw [gone_shift]
      exact ih
    · simp only
      rw [gone_sign (idx_row h hj)]
      have hg : (S.row st).getD ((j : Int)).toNat 0 = c := by
        rw [Int.toNat_natCast, List.getD_eq_getElem?_getD, idx_get hj]; rfl
      rw [hg]
      exact ⟨by rw [List.cons_append, ← ih.1], ih.2⟩
theorem acc_text (h : Even S) {t : List Nat} {st : Bool} {o : Option Nat} {w : List Int} (a : Acc S most (t, st, o) w) : (gone S w st).1 = t := by
  obtain ⟨st1, o1, e⟩ := a
  have := (run_gone h w _ _ e).1
  simp only [List.append_nil] at this
  exact this.symm

/-! ### what a lost code spoils -/
/-- how many signs are unlike, place by place -/
def df : List Nat → List Nat → Nat
  | x :: xs, y :: ys => (if x = y then 0 else 1) + df xs ys
  | _, _ => 0
theorem df_self : ∀ x : List Nat, df x x = 0
  | [] => rfl
  | x :: xs => by simp only [df, if_true]; rw [df_self xs]
theorem df_pre (p x y : List Nat) : df (p ++ x) (p ++ y) = df x y := by
  induction p with
  | nil => rfl
  | cons a p ih => simp only [List.cons_append, df, if_true]; rw [ih]; omega
theorem common_row {k : Nat} (st : Bool) (hc : common S k = true) : (S.row (!st)).getD k 0 = (S.row st).getD k 0 := by
  have e := of_decide_eq_true hc
  cases st
  · simpa [Sets.row] using e.symm
  · simpa [Sets.row] using e
theorem acc_spoils (h : Even S) : ∀ (w : List Int) (rem : List Nat) (x : Bool) (j : Nat), j ≤ most → Acc S most (rem, x, some j) w → j + df (gone S w (!x)).1 (gone S w x).1 ≤ most
  | [], _, _, j, hj, _ => by simpa [gone, df] using hj
  | a :: w, rem, x, j, hj, ⟨st1, o1, e⟩ => by
    obtain ⟨q', e1, e2⟩ := run_cons e
    obtain ⟨c, r, st, o, e3, h1⟩ := step_inv e1
    simp only [Prod.mk.injEq] at e3
    obtain ⟨rfl, rfl, rfl⟩ := e3
    rcases h1 with ⟨y, rfl, rfl⟩ | ⟨k, hk, rfl, ok, rfl⟩
    · rw [gone_shift, gone_shift, df_self]
      omega
    · rw [gone_sign (idx_row h hk), gone_sign (idx_row h hk)]
      simp only [df]
      simp only [bump] at ok e2
      by_cases hc : common S k = true
      · rw [if_pos hc] at ok e2
        have ih := acc_spoils h w r x j hj ⟨st1, o1, e2⟩
        rw [if_pos (by rw [Int.toNat_natCast]; exact common_row x hc)]
        omega
      · rw [if_neg hc] at ok e2
        have ok' : j + 1 ≤ most := of_decide_eq_true ok
        have ih := acc_spoils h w r x (j + 1) ok' ⟨st1, o1, e2⟩
        split <;> omega
theorem gone_append : ∀ (u v : List Int) (st : Bool), (gone S (u ++ v) st).1 = (gone S u st).1 ++ (gone S v (gone S u st).2).1 ∧ (gone S (u ++ v) st).2 = (gone S v (gone S u st).2).2
  | [], _, _ => ⟨rfl, rfl⟩
  | a :: u, v, st => by
    simp only [List.cons_append, gone]
    split
    · have := gone_append u v st
      exact ⟨by rw [this.1]; rfl, this.2⟩
    · exact gone_append u v _
/-- how many signs of the tape u, k, v are read otherwise without k -/
def loss (S : Sets) (st : Bool) (w : List Int) (i : Nat) : Nat :=
  if w.getD i 0 < S.n then 0 else df (gone S (w.take i ++ w.drop (i + 1)) st).1 (gone S w st).1
theorem loss_le (h : Even S) {t : List Nat} {st : Bool} {w : List Int} (a : Acc S most (t, st, none) w) {i : Nat} (hi : i < w.length) : loss S st w i ≤ most := by
  unfold loss
  split
  · exact Nat.zero_le _
  · rename_i hk
    obtain ⟨st1, o1, e⟩ := a
    have ew : w = w.take i ++ w[i] :: w.drop (i + 1) := by
      rw [← List.drop_eq_getElem_cons hi, List.take_append_drop]
    have hk' : w.getD i 0 = w[i] := by rw [List.getD_eq_getElem?_getD, List.getElem?_eq_getElem hi]; rfl
    rw [hk'] at hk
    have e' := e
    rw [ew, run_append] at e'
    cases hu : run S most (t, st, none) (w.take i) with
    | none => rw [hu] at e'; cases e'
    | some q =>
      rw [hu] at e'
      obtain ⟨q', e1, e2⟩ := run_cons (show run S most q (w[i] :: w.drop (i + 1)) = some ([], st1, o1) from e')
      obtain ⟨c, r, su, o, rfl, h1⟩ := step_inv e1
      have hg := (run_gone h _ _ _ hu).2
      simp only at hg
      have eg : (gone S w st).1 = (gone S (w.take i) st).1 ++ (gone S (w[i] :: w.drop (i + 1)) su).1 := by
        have z := (gone_append (S := S) (w.take i) (w[i] :: w.drop (i + 1)) st).1
        rw [← ew, ← hg] at z
        exact z
      rw [eg, (gone_append _ _ _).1, ← hg, df_pre]
      rcases h1 with ⟨x, hx, rfl⟩ | ⟨j, hj, ej, _, _⟩
      · rw [hx, gone_shift]
        by_cases ex : x = su
        · subst ex; rw [df_self]; exact Nat.zero_le _
        · rw [if_neg ex] at e2
          have esu : su = !x := bool_ne (fun z => ex z.symm)
          have := acc_spoils h (w.drop (i + 1)) (c :: r) x 0 (Nat.zero_le _) ⟨st1, o1, e2⟩
          rw [esu]; omega
      · exact absurd (by rw [ej]; exact idx_row h hj) hk
theorem df_len : ∀ (v : List Int) (x y : Bool), (gone S v x).1.length = (gone S v y).1.length
  | [], _, _ => rfl
  | a :: v, x, y => by
    simp only [gone]
    split
    · simp only [List.length_cons]; rw [df_len v x y]
    · rfl
end
end SR

namespace SR
/-! ### counting -/
theorem nodup_subset_len {α : Type} [DecidableEq α] : ∀ {l m : List α}, l.Nodup → (∀ x ∈ l, x ∈ m) → l.length ≤ m.length
  | [], m, _, _ => Nat.zero_le _
  | x :: r, m, hn, hs => by
    obtain ⟨h1, h2⟩ := List.nodup_cons.mp hn
    have hx : x ∈ m := hs x List.mem_cons_self
    have ih := nodup_subset_len (l := r) (m := m.erase x) h2 fun y hy => (List.mem_erase_of_ne (fun e => h1 (by rw [← e]; exact hy))).mpr (hs y (List.mem_cons_of_mem _ hy))
    rw [List.length_erase_of_mem hx] at ih
    have : 0 < m.length := List.length_pos_of_mem hx
    simp only [List.length_cons]; omega
theorem nodup_bound {l : List Nat} {n : Nat} (h : l.Nodup) (hb : ∀ x ∈ l, x < n) : l.length ≤ n := by
  have := nodup_subset_len (m := List.range n) h fun x hx => List.mem_range.mpr (hb x hx)
  simpa using this
theorem nodup_map {α β : Type} {f : α → β} : ∀ {l : List α}, l.Nodup → (∀ x ∈ l, ∀ y ∈ l, f x = f y → x = y) → (l.map f).Nodup
  | [], _, _ => List.nodup_nil
  | x :: r, hn, hi => by
    obtain ⟨h1, h2⟩ := List.nodup_cons.mp hn
    rw [List.map_cons]
    refine List.nodup_cons.mpr ⟨fun hm => ?_, nodup_map h2 fun a ha b hb => hi a (List.mem_cons_of_mem _ ha) b (List.mem_cons_of_mem _ hb)⟩
    obtain ⟨y, hy, e⟩ := List.mem_map.mp hm
    have := hi y (List.mem_cons_of_mem _ hy) x List.mem_cons_self e
    exact h1 (this ▸ hy)

/-! ### levels as tables -/
abbrev K3 := Nat × Bool × Option Nat
abbrev Lv := List (K3 × List Int)
def getA (b : Lv) (q : K3) : Option (List Int) := (b.find? fun e => decide (e.1 = q)).map (·.2)
def putA (b : Lv) (q : K3) (w : List Int) : Lv :=
  if (b.any fun e => decide (e.1 = q)) = true then b.map (fun e => if e.1 = q then (e.1, w) else e) else b ++ [(q, w)]
theorem getA_pos {p : K3 × List Int} {r : Lv} {q : K3} (e : p.1 = q) : getA (p :: r) q = some p.2 := by simp [getA, List.find?_cons, e]
theorem getA_neg {p : K3 × List Int} {r : Lv} {q : K3} (e : ¬ p.1 = q) : getA (p :: r) q = getA r q := by simp [getA, List.find?_cons, e]
theorem getA_any (q : K3) : ∀ b : Lv, (b.any fun e => decide (e.1 = q)) = (getA b q).isSome
  | [] => rfl
  | p :: r => by
    rw [List.any_cons]
    by_cases e : p.1 = q
    · simp only [getA_pos e, decide_eq_true e, Bool.true_or, Option.isSome_some]
    · rw [getA_neg e, decide_eq_false e, Bool.false_or]; exact getA_any q r
theorem getA_map (q p : K3) (w : List Int) : ∀ b : Lv, getA (b.map fun e => if e.1 = q then (e.1, w) else e) p = (getA b p).map fun x => if p = q then w else x
  | [] => rfl
  | a :: r => by
    have ih := getA_map q p w r
    rw [List.map_cons]
    by_cases h : a.1 = q
    · rw [if_pos h]
      by_cases e : a.1 = p
      · rw [getA_pos (p := (a.1, w)) e, getA_pos e, Option.map_some, if_pos (e.symm.trans h)]
      · rw [getA_neg (p := (a.1, w)) e, getA_neg e, ih]
    · rw [if_neg h]
      by_cases e : a.1 = p
      · rw [getA_pos (p := a) e, getA_pos e, Option.map_some, if_neg (fun z => h (e.trans z))]
      · rw [getA_neg (p := a) e, getA_neg e, ih]
theorem getA_snoc (q p : K3) (w : List Int) : ∀ b : Lv, getA b q = none → getA (b ++ [(q, w)]) p = if p = q then some w else getA b p
  | [], _ => by
    by_cases e : q = p
    · rw [if_pos e.symm]; exact getA_pos (p := (q, w)) e
    · rw [if_neg (fun z => e z.symm)]; exact getA_neg (p := (q, w)) e
  | a :: r, hn => by
    rw [List.cons_append]
    have hk : ¬ a.1 = q := fun z => by rw [getA_pos z] at hn; cases hn
    rw [getA_neg hk] at hn
    have ih := getA_snoc q p w r hn
    by_cases e : a.1 = p
    · rw [getA_pos e, getA_pos e, if_neg (fun z => hk (e.trans z))]
    · rw [getA_neg e, getA_neg e, ih]
theorem getA_put (b : Lv) (q p : K3) (w : List Int) : getA (putA b q w) p = if p = q then some w else getA b p := by
  unfold putA
  by_cases a : (b.any fun e => decide (e.1 = q)) = true
  · rw [if_pos a, getA_map]
    rw [getA_any] at a
    by_cases e : p = q
    · obtain ⟨x, hx⟩ := Option.isSome_iff_exists.mp a
      rw [if_pos e, e, hx, Option.map_some, if_pos rfl]
    · rw [if_neg e]
      cases getA b p with
      | none => rfl
      | some x => rw [Option.map_some, if_neg e]
  · rw [if_neg a]
    refine getA_snoc q p w b ?_
    rw [getA_any] at a
    cases z : getA b q with
    | none => rfl
    | some x => rw [z] at a; exact (a rfl).elim
theorem keys_map (q : K3) (w : List Int) (b : Lv) : (b.map fun e => if e.1 = q then (e.1, w) else e).map (·.1) = b.map (·.1) := by
  rw [List.map_map]
  exact List.map_congr_left fun e _ => by simp only [Function.comp]; split <;> rfl
theorem getA_mem {q : K3} {w : List Int} : ∀ {b : Lv}, getA b q = some w → (q, w) ∈ b
  | a :: r, h => by
    by_cases e : a.1 = q
    · rw [getA_pos e] at h
      have e2 : a.2 = w := Option.some.inj h
      have e3 : a = (q, w) := Prod.ext e e2
      rw [e3]; exact List.mem_cons_self
    · rw [getA_neg e] at h
      exact List.mem_cons_of_mem _ (getA_mem h)
theorem getA_of_mem {q : K3} {w : List Int} : ∀ {b : Lv}, (b.map (·.1)).Nodup → (q, w) ∈ b → getA b q = some w
  | a :: r, hn, h => by
    rw [List.map_cons] at hn
    obtain ⟨h1, h2⟩ := List.nodup_cons.mp hn
    rcases List.mem_cons.mp h with e | h
    · subst e; exact getA_pos rfl
    · have ne : ¬ a.1 = q := fun e => h1 (e ▸ List.mem_map.mpr ⟨(q, w), h, rfl⟩)
      rw [getA_neg ne]
      exact getA_of_mem h2 h
theorem getA_none {q : K3} : ∀ {b : Lv}, getA b q = none → q ∉ b.map (·.1)
  | [], _ => fun h => nomatch h
  | a :: r, h => by
    have ne : ¬ a.1 = q := fun e => by rw [getA_pos e] at h; cases h
    rw [getA_neg ne] at h
    rw [List.map_cons]
    intro hm
    rcases List.mem_cons.mp hm with e | hm
    · exact ne e.symm
    · exact getA_none h hm
theorem nodup_put {b : Lv} (q : K3) (w : List Int) (h : (b.map (·.1)).Nodup) : ((putA b q w).map (·.1)).Nodup := by
  unfold putA
  by_cases a : (b.any fun e => decide (e.1 = q)) = true
  · rw [if_pos a, keys_map]; exact h
  · rw [if_neg a, List.map_append]
    rw [getA_any] at a
    have hn : getA b q = none := by
      cases z : getA b q with
      | none => rfl
      | some x => rw [z] at a; exact (a rfl).elim
    exact List.nodup_append.mpr ⟨h, by simp, fun x hx y hy e => by
      have : y = q := by simpa using hy
      subst this; subst e
      exact getA_none hn hx⟩

/-! ### one candidate more -/
def relax1 (b : Lv) (c : K3 × List Int) : Lv := match getA b c.1 with
  | none => putA b c.1 c.2
  | some w0 => if llt c.2 w0 = true then putA b c.1 c.2 else b
structure Rlx (b : Lv) (cs : List (K3 × List Int)) : Prop where
  nd : (b.map (·.1)).Nodup
  le : ∀ q w, getA b q = some w → (q, w) ∈ cs ∧ ∀ w', (q, w') ∈ cs → llt w' w = false
  ex : ∀ q w, (q, w) ∈ cs → ∃ w0, getA b q = some w0
theorem Rlx.nil : Rlx [] [] := ⟨List.nodup_nil, fun _ _ h => (nomatch h), fun _ _ h => (nomatch h)⟩
theorem Rlx.put {b : Lv} {cs : List (K3 × List Int)} (R : Rlx b cs) (c : K3 × List Int) (hl : ∀ w', (c.1, w') ∈ cs → llt w' c.2 = false) : Rlx (putA b c.1 c.2) (cs ++ [c]) := by
  refine ⟨nodup_put _ _ R.nd, fun q w h => ?_, fun q w h => ?_⟩
  · rw [getA_put] at h
    by_cases e : q = c.1
    · rw [if_pos e] at h
      have e2 : c.2 = w := Option.some.inj h
      subst e; subst e2
      refine ⟨List.mem_append_right _ List.mem_cons_self, fun w' hw => ?_⟩
      rcases List.mem_append.mp hw with hw | hw
      · exact hl w' hw
      · have : w' = c.2 := by
          have := List.mem_singleton.mp hw
          rw [← this]
        rw [this]; exact llt_irrefl _
    · rw [if_neg e] at h
      obtain ⟨h1, h2⟩ := R.le q w h
      refine ⟨List.mem_append_left _ h1, fun w' hw => ?_⟩
      rcases List.mem_append.mp hw with hw | hw
      · exact h2 w' hw
      · have : c = (q, w') := (List.mem_singleton.mp hw).symm
        exact absurd (by rw [this]) e
  · rw [getA_put]
    by_cases e : q = c.1
    · rw [if_pos e]; exact ⟨_, rfl⟩
    · rw [if_neg e]
      rcases List.mem_append.mp h with h | h
      · exact R.ex q w h
      · have : c = (q, w) := (List.mem_singleton.mp h).symm
        exact absurd (by rw [this]) e
theorem Rlx.step {b : Lv} {cs : List (K3 × List Int)} (R : Rlx b cs) (c : K3 × List Int) : Rlx (relax1 b c) (cs ++ [c]) := by
  unfold relax1
  cases h : getA b c.1 with
  | none =>
    exact R.put c fun w' hw => by
      obtain ⟨w0, h0⟩ := R.ex _ _ hw
      rw [h] at h0; cases h0
  | some w0 =>
    simp only
    obtain ⟨h1, h2⟩ := R.le _ _ h
    by_cases l : llt c.2 w0 = true
    · rw [if_pos l]
      refine R.put c fun w' hw => ?_
      exact llt_negtrans (llt_asymm l) (h2 w' hw)
    · rw [if_neg l]
      have l' : llt c.2 w0 = false := Bool.eq_false_iff.mpr l
      refine ⟨R.nd, fun q w hq => ?_, fun q w hq => ?_⟩
      · obtain ⟨g1, g2⟩ := R.le q w hq
        refine ⟨List.mem_append_left _ g1, fun w' hw => ?_⟩
        rcases List.mem_append.mp hw with hw | hw
        · exact g2 w' hw
        · have e : c = (q, w') := (List.mem_singleton.mp hw).symm
          subst e
          rw [h] at hq
          have : w0 = w := Option.some.inj hq
          subst this
          exact l'
      · rcases List.mem_append.mp hq with hq | hq
        · exact R.ex q w hq
        · have e : c = (q, w) := (List.mem_singleton.mp hq).symm
          subst e
          exact ⟨w0, h⟩
theorem Rlx.all : ∀ {cs' : List (K3 × List Int)} {b : Lv} {cs : List (K3 × List Int)}, Rlx b cs → Rlx (cs'.foldl relax1 b) (cs ++ cs')
  | [], b, cs, R => by simpa using R
  | c :: cs', b, cs, R => by
    have := Rlx.all (cs' := cs') (R.step c)
    rw [List.append_assoc] at this
    exact this
theorem Rlx.of (cs : List (K3 × List Int)) : Rlx (cs.foldl relax1 []) cs := by
  have := Rlx.all (cs' := cs) Rlx.nil
  simpa using this

/-! ### the law's levels -/
def oShift (x st : Bool) : Option Nat := if x = st then none else some 0
def lsteps (S : Sets) (most : Nat) (t : List Nat) (q : K3) : List (Int × K3) :=
  [(S.n + 0, (q.1, false, oShift false q.2.1)), (S.n + 1, (q.1, true, oShift true q.2.1))] ++
    (match t[q.1]? with
      | none => []
      | some c => match idx (S.row q.2.1) c with
        | none => []
        | some j => if okO most (bump S q.2.2 j) = true then [((j : Int), (q.1 + 1, q.2.1, bump S q.2.2 j))] else [])
/-- what an entry of a level gives to the next -/
def candsOf (S : Sets) (most : Nat) (t : List Nat) (e : K3 × List Int) : List (K3 × List Int) := (lsteps S most t e.1).map fun s => (s.2, e.2 ++ [s.1])
def cands (S : Sets) (most : Nat) (t : List Nat) (lv : Lv) : List (K3 × List Int) := (lv.map (candsOf S most t)).flatten
def nextL (S : Sets) (most : Nat) (t : List Nat) (lv : Lv) : Lv := (cands S most t lv).foldl relax1 []
def lvl (S : Sets) (most : Nat) (t : List Nat) (st : Bool) : Nat → Lv
  | 0 => [((0, st, none), [])]
  | i + 1 => nextL S most t (lvl S most t st i)
/-- what is left of a text in a key -/
def absK (t : List Nat) (q : K3) : Stt := (t.drop q.1, q.2.1, q.2.2)
def KOk (most : Nat) (t : List Nat) (q : K3) : Prop := q.1 ≤ t.length ∧ okO most q.2.2 = true

section
variable {S : Sets} {most : Nat} {t : List Nat}
theorem oShift_ok (x st : Bool) : okO most (oShift x st) = true := by
  unfold oShift; split
  · rfl
  · exact decide_eq_true (show 0 ≤ most from Nat.zero_le _)
theorem lsteps_ok {q : K3} (h : KOk most t q) {s : Int × K3} (hs : s ∈ lsteps S most t q) : KOk most t s.2 := by
  unfold lsteps at hs
  rcases List.mem_append.mp hs with hs | hs
  · rcases List.mem_cons.mp hs with e | hs
    · subst e; exact ⟨h.1, oShift_ok _ _⟩
    · have e := List.mem_singleton.mp hs
      subst e; exact ⟨h.1, oShift_ok _ _⟩
  · cases h1 : t[q.1]? with
    | none => rw [h1] at hs; cases hs
    | some c =>
      rw [h1] at hs
      simp only at hs
      cases h2 : idx (S.row q.2.1) c with
      | none => rw [h2] at hs; cases hs
      | some j =>
        rw [h2] at hs
        simp only at hs
        by_cases ok : okO most (bump S q.2.2 j) = true
        · rw [if_pos ok] at hs
          have e := List.mem_singleton.mp hs
          subst e
          exact ⟨(List.getElem?_eq_some_iff.mp h1).1, ok⟩
        · rw [if_neg ok] at hs; cases hs
/-- a step of the law is a step of the words -/
theorem lsteps_step (h : Even S) {q : K3} (hq : q.1 < t.length) {s : Int × K3} (hs : s ∈ lsteps S most t q) : step S most (absK t q) s.1 = some (absK t s.2) := by
  have hd : t.drop q.1 = t[q.1] :: t.drop (q.1 + 1) := List.drop_eq_getElem_cons hq
  unfold absK
  rw [hd]
  unfold lsteps at hs
  rcases List.mem_append.mp hs with hs | hs
  · rcases List.mem_cons.mp hs with e | hs
    · subst e
      have := step_shift (S := S) (most := most) t[q.1] (t.drop (q.1 + 1)) q.2.1 false q.2.2
      simp only [hd]; exact this
    · have e := List.mem_singleton.mp hs
      subst e
      have := step_shift (S := S) (most := most) t[q.1] (t.drop (q.1 + 1)) q.2.1 true q.2.2
      simp only [hd]; exact this
  · rw [List.getElem?_eq_getElem hq] at hs
    simp only at hs
    cases h2 : idx (S.row q.2.1) t[q.1] with
    | none => rw [h2] at hs; cases hs
    | some j =>
      rw [h2] at hs
      simp only at hs
      by_cases ok : okO most (bump S q.2.2 j) = true
      · rw [if_pos ok] at hs
        have e := List.mem_singleton.mp hs
        subst e
        exact step_sign h h2 ok
      · rw [if_neg ok] at hs; cases hs
theorem absK_inj {q p : K3} (hq : q.1 ≤ t.length) (hp : p.1 ≤ t.length) (e : absK t q = absK t p) : q = p := by
  unfold absK at e
  simp only [Prod.mk.injEq] at e
  obtain ⟨e1, e2, e3⟩ := e
  have := congrArg List.length e1
  simp only [List.length_drop] at this
  exact Prod.ext (by omega) (Prod.ext e2 e3)
/-- a step of the words is a step of the law -/
theorem step_lsteps (h : Even S) {q : K3} (hq : q.1 ≤ t.length) {k : Int} {p : Stt} (e : step S most (absK t q) k = some p) : ∃ q', (k, q') ∈ lsteps S most t q ∧ absK t q' = p ∧ q'.1 ≤ t.length := by
  obtain ⟨c, r, st, o, e1, h1⟩ := step_inv e
  have hlt : q.1 < t.length := by
    rcases Nat.lt_or_ge q.1 t.length with z | z
    · exact z
    · unfold absK at e1
      rw [List.drop_eq_nil_of_le z] at e1
      simp at e1
  have hd : t.drop q.1 = t[q.1] :: t.drop (q.1 + 1) := List.drop_eq_getElem_cons hlt
  unfold absK at e1
  rw [hd] at e1
  simp only [Prod.mk.injEq, List.cons.injEq] at e1
  obtain ⟨⟨rfl, rfl⟩, rfl, rfl⟩ := e1
  rcases h1 with ⟨x, rfl, rfl⟩ | ⟨j, hj, rfl, ok, rfl⟩
  · refine ⟨(q.1, x, oShift x q.2.1), ?_, by unfold absK; rw [hd]; rfl, hq⟩
    unfold lsteps
    refine List.mem_append_left _ ?_
    cases x
    · exact List.mem_cons_self
    · exact List.mem_cons_of_mem _ List.mem_cons_self
  · refine ⟨(q.1 + 1, q.2.1, bump S q.2.2 j), ?_, rfl, hlt⟩
    unfold lsteps
    refine List.mem_append_right _ ?_
    rw [List.getElem?_eq_getElem hlt]
    simp only
    rw [hj]
    simp only
    rw [if_pos ok]
    exact List.mem_cons_self

/-- what stands in the i-th level -/
structure LOk (S : Sets) (most : Nat) (t : List Nat) (st : Bool) (i : Nat) (lv : Lv) : Prop where
  nd : (lv.map (·.1)).Nodup
  ok : ∀ q w, (q, w) ∈ lv → KOk most t q ∧ w.length = i ∧ run S most (t, st, none) w = some (absK t q) ∧ ∀ w', w'.length = i → run S most (t, st, none) w' = some (absK t q) → llt w' w = false
  ex : ∀ q w', q.1 ≤ t.length → w'.length = i → run S most (t, st, none) w' = some (absK t q) → ∃ w, (q, w) ∈ lv
theorem LOk.zero (st : Bool) : LOk S most t st 0 (lvl S most t st 0) := by
  refine ⟨by simp [lvl], fun q w h => ?_, fun q w' hq hl e => ?_⟩
  · have e : (q, w) = ((0, st, none), []) := List.mem_singleton.mp h
    simp only [Prod.mk.injEq] at e
    obtain ⟨rfl, rfl⟩ := e
    refine ⟨⟨Nat.zero_le _, rfl⟩, rfl, rfl, fun w' hl _ => ?_⟩
    rw [List.length_eq_zero_iff.mp hl]; rfl
  · have e0 := List.length_eq_zero_iff.mp hl
    subst e0
    have e1 : (t, st, none) = absK t q := Option.some.inj e
    have e2 : q = (0, st, none) := absK_inj (t := t) hq (Nat.zero_le _) e1.symm
    subst e2
    exact ⟨[], List.mem_cons_self⟩
theorem mem_cands {lv : Lv} {q : K3} {w : List Int} : (q, w) ∈ cands S most t lv ↔ ∃ e ∈ lv, ∃ s ∈ lsteps S most t e.1, q = s.2 ∧ w = e.2 ++ [s.1] := by
  unfold cands candsOf
  simp only [List.mem_flatten, List.mem_map]
  constructor
  · rintro ⟨l, ⟨e, he, rfl⟩, hm⟩
    obtain ⟨s, hs, e2⟩ := List.mem_map.mp hm
    simp only [Prod.mk.injEq] at e2
    exact ⟨e, he, s, hs, e2.1.symm, e2.2.symm⟩
  · rintro ⟨e, he, s, hs, rfl, rfl⟩
    exact ⟨_, ⟨e, he, rfl⟩, List.mem_map.mpr ⟨s, hs, rfl⟩⟩
theorem snoc_of : ∀ {w : List Int} {i : Nat}, w.length = i + 1 → ∃ u k, w = u ++ [k] ∧ u.length = i := fun {w i} h => by
  have hne : w ≠ [] := fun e => by rw [e] at h; simp at h
  exact ⟨w.dropLast, w.getLast hne, (List.dropLast_concat_getLast hne).symm, by rw [List.length_dropLast, h]; omega⟩
theorem run_snoc {u : List Int} {k : Int} {q : Stt} : run S most q (u ++ [k]) = (run S most q u).bind fun q' => step S most q' k := by
  rw [run_append]
  cases run S most q u with
  | none => rfl
  | some q' =>
    simp only [Option.bind_some, run]
    cases step S most q' k <;> rfl
/-- states that a run comes to are rests of the text -/
theorem run_rest (h : Even S) {st : Bool} : ∀ (i : Nat) (w : List Int) (p : Stt), w.length = i → run S most (t, st, none) w = some p → ∃ q : K3, q.1 ≤ t.length ∧ absK t q = p
  | 0, w, p, hl, e => by
    have e0 := List.length_eq_zero_iff.mp hl
    subst e0
    exact ⟨(0, st, none), Nat.zero_le _, Option.some.inj e⟩
  | i + 1, w, p, hl, e => by
    obtain ⟨u, k, rfl, hu⟩ := snoc_of hl
    rw [run_snoc] at e
    cases z : run S most (t, st, none) u with
    | none => rw [z] at e; cases e
    | some p1 =>
      rw [z] at e
      obtain ⟨q, hq, rfl⟩ := run_rest h i u p1 hu z
      obtain ⟨q', _, e2, hq'⟩ := step_lsteps h hq (show step S most (absK t q) k = some p from e)
      exact ⟨q', hq', e2⟩
theorem LOk.next (h : Even S) {st : Bool} {i : Nat} {lv : Lv} (L : LOk S most t st i lv) (hf : ∀ q w, (q, w) ∈ lv → q.1 < t.length) : LOk S most t st (i + 1) (nextL S most t lv) := by
  have R := Rlx.of (cands S most t lv)
  have cand_run : ∀ q w, (q, w) ∈ cands S most t lv → KOk most t q ∧ w.length = i + 1 ∧ run S most (t, st, none) w = some (absK t q) := fun q w hm => by
    obtain ⟨⟨q0, w0⟩, he, s, hs, rfl, rfl⟩ := mem_cands.mp hm
    obtain ⟨k0, l0, r0, _⟩ := L.ok q0 w0 he
    refine ⟨lsteps_ok k0 hs, by simp [l0], ?_⟩
    rw [run_snoc, r0]
    exact lsteps_step h (hf q0 w0 he) hs
  have low : ∀ q w', q.1 ≤ t.length → w'.length = i + 1 → run S most (t, st, none) w' = some (absK t q) → ∃ w, (q, w) ∈ cands S most t lv ∧ llt w' w = false := fun q w' hq hl e => by
    obtain ⟨u, k, rfl, hu⟩ := snoc_of hl
    rw [run_snoc] at e
    cases z : run S most (t, st, none) u with
    | none => rw [z] at e; cases e
    | some p1 =>
      rw [z] at e
      obtain ⟨q1, hq1, rfl⟩ := run_rest h i u p1 hu z
      obtain ⟨w1, hw1⟩ := L.ex q1 u hq1 hu z
      obtain ⟨_, l1, _, m1⟩ := L.ok q1 w1 hw1
      obtain ⟨q', hs, e2, hq'⟩ := step_lsteps h hq1 (show step S most (absK t q1) k = some (absK t q) from e)
      have e3 : q' = q := absK_inj hq' hq e2
      subst e3
      exact ⟨w1 ++ [k], mem_cands.mpr ⟨(q1, w1), hw1, (k, q'), hs, rfl, rfl⟩, llt_snoc k (by omega) (m1 u hu z)⟩
  refine ⟨R.nd, fun q w hm => ?_, fun q w' hq hl e => ?_⟩
  · obtain ⟨c1, c2⟩ := R.le q w (getA_of_mem R.nd hm)
    obtain ⟨a1, a2, a3⟩ := cand_run q w c1
    refine ⟨a1, a2, a3, fun w' hl e => ?_⟩
    obtain ⟨w2, hw2, l2⟩ := low q w' a1.1 hl e
    exact llt_negtrans (c2 w2 hw2) l2
  · obtain ⟨w2, hw2, _⟩ := low q w' hq hl e
    obtain ⟨w0, h0⟩ := R.ex q w2 hw2
    exact ⟨w0, getA_mem h0⟩

/-! ### how many keys there are -/
def oc : Option Nat → Nat
  | none => 0
  | some j => j + 1
theorem oc_lt {o : Option Nat} (h : okO most o = true) : oc o < most + 2 := by
  cases o with
  | none => simp only [oc]; omega
  | some j => simp only [okO, decide_eq_true_eq] at h; simp only [oc]; omega
theorem oc_inj {o o' : Option Nat} (e : oc o = oc o') : o = o' := by
  cases o <;> cases o' <;> simp only [oc] at e <;> first | rfl | omega | (congr 1; omega)
def codeK (most : Nat) (q : K3) : Nat := (q.1 * 2 + (if q.2.1 = true then 1 else 0)) * (most + 2) + oc q.2.2
def bigK (most : Nat) (t : List Nat) : Nat := (t.length + 1) * 2 * (most + 2)
theorem codeK_lt {q : K3} (h : KOk most t q) : codeK most q < bigK most t := by
  obtain ⟨a, b, o⟩ := q
  obtain ⟨h1, h2⟩ := h
  simp only at h1 h2
  unfold codeK bigK
  simp only
  have hb : (if b = true then 1 else 0) ≤ 1 := by split <;> omega
  have ho := oc_lt h2
  generalize oc o = u at *
  generalize (if b = true then 1 else 0) = v at *
  have hm : (a * 2 + v) + 1 ≤ (t.length + 1) * 2 := by omega
  have := Nat.mul_le_mul_right (most + 2) hm
  rw [Nat.add_mul, Nat.one_mul] at this
  omega
theorem codeK_inj {q p : K3} (hq : KOk most t q) (hp : KOk most t p) (e : codeK most q = codeK most p) : q = p := by
  obtain ⟨a, b, o⟩ := q
  obtain ⟨a', b', o'⟩ := p
  have ho := oc_lt hq.2
  have ho' := oc_lt hp.2
  simp only at ho ho'
  unfold codeK at e
  simp only at e
  have d1 : (a * 2 + (if b = true then 1 else 0)) = (a' * 2 + (if b' = true then 1 else 0)) := by
    have q1 : ((a * 2 + (if b = true then 1 else 0)) * (most + 2) + oc o) / (most + 2) = a * 2 + (if b = true then 1 else 0) := by
      rw [Nat.mul_comm, Nat.mul_add_div (by omega), Nat.div_eq_of_lt ho]; omega
    have q2 : ((a' * 2 + (if b' = true then 1 else 0)) * (most + 2) + oc o') / (most + 2) = a' * 2 + (if b' = true then 1 else 0) := by
      rw [Nat.mul_comm, Nat.mul_add_div (by omega), Nat.div_eq_of_lt ho']; omega
    rw [← q1, ← q2, e]
  have d2 : oc o = oc o' := by rw [d1] at e; omega
  have eb : b = b' := by
    cases b <;> cases b' <;> simp at d1 ⊢ <;> omega
  subst eb
  have ea : a = a' := by omega
  subst ea
  rw [oc_inj d2]
theorem keys_few {l : List K3} (hn : l.Nodup) (hk : ∀ q ∈ l, KOk most t q) : l.length ≤ bigK most t := by
  have := nodup_bound (l := l.map (codeK most)) (n := bigK most t) (nodup_map hn fun x hx y hy e => codeK_inj (hk x hx) (hk y hy) e) fun x hx => by
    obtain ⟨q, hq, rfl⟩ := List.mem_map.mp hx
    exact codeK_lt (hk q hq)
  simpa using this
/-- a table on its way has few keys -/
theorem part_few {lv : Lv} (hk : ∀ q w, (q, w) ∈ lv → KOk most t q) {cs : List (K3 × List Int)} (hs : ∀ c ∈ cs, c ∈ cands S most t lv) : (cs.foldl relax1 []).length ≤ bigK most t := by
  have R := Rlx.of cs
  have := keys_few (most := most) (t := t) R.nd fun q hq => by
    obtain ⟨⟨q', w⟩, he, rfl⟩ := List.mem_map.mp hq
    obtain ⟨c1, _⟩ := R.le q' w (getA_of_mem R.nd he)
    obtain ⟨⟨q0, w0⟩, he0, s, hs0, e1, _⟩ := mem_cands.mp (hs _ c1)
    have := lsteps_ok (S := S) (hk q0 w0 he0) hs0
    rw [← e1] at this
    exact this
  simpa using this

/-! ### the end: the least of the first level that comes to the text's end -/
theorem lvl_all (h : Even S) {st : Bool} {W : List Int} (hW : best S most t st none = some W) : ∀ i, i ≤ W.length → LOk S most t st i (lvl S most t st i) ∧ (i < W.length → ∀ q w, (q, w) ∈ lvl S most t st i → q.1 < t.length) := by
  have early : ∀ i, i < W.length → LOk S most t st i (lvl S most t st i) → ∀ q w, (q, w) ∈ lvl S most t st i → q.1 < t.length := fun i hi L q w hm => by
    obtain ⟨k, l, r, _⟩ := L.ok q w hm
    rcases Nat.lt_or_ge q.1 t.length with z | z
    · exact z
    · have e : absK t q = ([], q.2.1, q.2.2) := by unfold absK; rw [List.drop_eq_nil_of_le z]
      rw [e] at r
      obtain ⟨W', e1, l1⟩ := best_least h w (t, st, none) none (lo_refl _) ⟨_, _, r⟩ w rfl
      rw [hW] at e1
      have e2 : W = W' := Option.some.inj e1
      subst e2
      have := (tlt_false l1).1
      omega
  intro i
  induction i with
  | zero => exact fun _ => ⟨LOk.zero st, fun hi => early 0 hi (LOk.zero st)⟩
  | succ i ih =>
    intro hi
    obtain ⟨L, f⟩ := ih (by omega)
    have L' := L.next h (f (by omega))
    exact ⟨L', fun hi' => early (i + 1) hi' L'⟩
theorem lvl_end (h : Even S) {st : Bool} {W : List Int} (hW : best S most t st none = some W) : (∃ q, q.1 = t.length ∧ (q, W) ∈ lvl S most t st W.length) ∧ ∀ q w, (q, w) ∈ lvl S most t st W.length → q.1 = t.length → llt w W = false := by
  obtain ⟨L, _⟩ := lvl_all h hW W.length (Nat.le_refl _)
  have low : ∀ q w, (q, w) ∈ lvl S most t st W.length → q.1 = t.length → llt w W = false := fun q w hm hq => by
    obtain ⟨k, l, r, _⟩ := L.ok q w hm
    have e : absK t q = ([], q.2.1, q.2.2) := by unfold absK; rw [List.drop_eq_nil_of_le (by omega)]
    rw [e] at r
    obtain ⟨W', e1, l1⟩ := best_least h w (t, st, none) none (lo_refl _) ⟨_, _, r⟩ w rfl
    rw [hW] at e1
    have e2 : W = W' := Option.some.inj e1
    subst e2
    exact (tlt_false l1).2 l.symm
  obtain ⟨st1, o1, r⟩ := best_acc h t st none W hW
  have e : absK t (t.length, st1, o1) = ([], st1, o1) := by unfold absK; rw [List.drop_eq_nil_of_le (Nat.le_refl _)]
  obtain ⟨w, hw⟩ := L.ex (t.length, st1, o1) W (Nat.le_refl _) rfl (by rw [e]; exact r)
  have l1 := low _ w hw rfl
  obtain ⟨_, _, _, m⟩ := L.ok _ w hw
  have l2 := m W rfl (by rw [e]; exact r)
  have ew : w = W := llt_total l1 l2
  subst ew
  exact ⟨⟨_, rfl, hw⟩, low⟩
/-- the first of the least -/
def minL (x : List Int) (xs : List (List Int)) : List Int := xs.foldl (fun a y => if llt y a = true then y else a) x
theorem minL_is {W : List Int} : ∀ {xs : List (List Int)} {x : List Int}, llt x W = false → (∀ y ∈ xs, llt y W = false) → (x = W ∨ W ∈ xs) → minL x xs = W
  | [], x, _, _, h => by
    rcases h with h | h
    · exact h
    · cases h
  | y :: ys, x, hx, hy, h => by
    have y1 := hy y List.mem_cons_self
    have ys1 : ∀ z ∈ ys, llt z W = false := fun z hz => hy z (List.mem_cons_of_mem _ hz)
    show minL (if llt y x = true then y else x) ys = W
    by_cases l : llt y x = true
    · rw [if_pos l]
      refine minL_is y1 ys1 ?_
      rcases h with h | h
      · subst h; rw [y1] at l; cases l
      · rcases List.mem_cons.mp h with h | h
        · exact .inl h.symm
        · exact .inr h
    · rw [if_neg l]
      have l' : llt y x = false := Bool.eq_false_iff.mpr l
      refine minL_is hx ys1 ?_
      rcases h with h | h
      · exact .inl h
      · rcases List.mem_cons.mp h with h | h
        · subst h; exact .inl (llt_total hx l')
        · exact .inr h
end
end SR

namespace SR
open PySem PySem.Spec PyProof.Rows L2

/-! ### order: lists of ints, pairs of a number and such a list -/
theorem llt_eq : ∀ xs ys : List Int, PySem.W.listLt xs ys = llt xs ys
  | [], [] => rfl
  | [], _ :: _ => rfl
  | _ :: _, [] => rfl
  | x :: xs, y :: ys => by
    show (if x = y then PySem.W.listLt xs ys else decide (x < y)) = (if x = y then llt xs ys else decide (x < y))
    rw [llt_eq xs ys]
theorem tlt_eq (xs ys : List Int) : PySem.W.DatumOrd.lt ((xs.length : Int), xs) ((ys.length : Int), ys) = tlt xs ys := by
  show (if (xs.length : Int) = (ys.length : Int) then PySem.W.listLt xs ys else decide ((xs.length : Int) < (ys.length : Int))) = tlt xs ys
  unfold tlt
  rw [llt_eq]
  by_cases e : xs.length = ys.length
  · rw [if_pos e, if_pos (by omega)]
  · rw [if_neg e, if_neg (by omega)]
    exact decide_eq_decide.mpr (by omega)
section
variable {X : Cx} {pins : List (Addr × Obj)} {σ : L2.St} {H : Hp} {s : Shared}
theorem holds_ints (I : Inv X pins σ H s) {a : Addr} {ns : List Int} (h : SqL X.K H a (ns.map V.int)) : PySem.W.Holds s.heap (.ref a) ns := by
  obtain ⟨its, r, p, _⟩ := I.list h
  exact PySem.W.holds_list p.isList (PySem.W.HoldAll.of_ints (by simpa using Vals.ints r))
end
def rLtL (K : PySem.W.Frag) : R2 := fun x y H Q => ∃ (a b : Addr) (ns ms : List Int), x = .ref a ∧ y = .ref b ∧ SqL K H a (ns.map V.int) ∧ SqL K H b (ms.map V.int) ∧ Q (.bl (llt ns ms)) H
theorem op_ltL {X : Cx} (hu : X.A.units + 64 < cLine) : OpR X (compareOp .Lt) (rLtL X.K) := by
  intro pins s σ H x y v u Q I rx ry h
  obtain ⟨a, b, ns, ms, rfl, rfl, ha, hb, q⟩ := h
  cases rx
  cases ry
  refine PySem.W.lt_datum (holds_ints I ha) (holds_ints I hb) (Nat.lt_of_le_of_lt (Nat.add_le_add_left (show (1 : Nat) ≤ 64 by decide) _) hu) ⟨.bl _, H, I, rfl, ?_⟩
  rw [show PySem.W.DatumOrd.lt ns ms = llt ns ms from llt_eq ns ms]
  exact q
def rLeP (K : PySem.W.Frag) : R2 := fun x y H Q => ∃ (a b p q : Addr) (ns ms : List Int), x = .ref a ∧ y = .ref b ∧ SqT K H a [.int ns.length, .ref p] ∧ SqT K H b [.int ms.length, .ref q] ∧
  SqL K H p (ns.map V.int) ∧ SqL K H q (ms.map V.int) ∧ Q (.bl (!tlt ms ns)) H
theorem holds_lp {X : Cx} {pins : List (Addr × Obj)} {σ : L2.St} {H : Hp} {s : Shared} (I : Inv X pins σ H s) {a p : Addr} {ns : List Int} (ht : SqT X.K H a [.int ns.length, .ref p]) (hl : SqL X.K H p (ns.map V.int)) :
    PySem.W.Holds s.heap (.ref a) ((ns.length : Int), ns) := by
  obtain ⟨its, r, pt, _⟩ := I.tuple ht
  obtain ⟨u, w', rfl, ⟨t, rfl⟩, rw'⟩ := vals2 r
  cases rw'
  exact PySem.W.holds_pair pt (PySem.W.holds_int _ t) (holds_ints I hl)
theorem op_leP {X : Cx} (hu : X.A.units + 64 < cLine) : OpR X (compareOp .LtE) (rLeP X.K) := by
  intro pins s σ H x y v u Q I rx ry h
  obtain ⟨a, b, p, q, ns, ms, rfl, rfl, ha, hb, hp, hq, k⟩ := h
  cases rx
  cases ry
  refine PySem.W.le_datum (holds_lp I ha hp) (holds_lp I hb hq) (Nat.lt_of_le_of_lt (Nat.add_le_add_left (show (max 0 1 + 1 : Nat) ≤ 64 by decide) _) hu) ⟨.bl _, H, I, rfl, ?_⟩
  rw [tlt_eq]
  exact k
theorem ints_inj : ∀ {us : List Value} {ns ms : List Int}, IntsAre us ns → IntsAre us ms → ns = ms
  | _, _, _, .nil, .nil => rfl
  | _, _, _, .cons n t r, q => by
    cases q with
    | cons _ _ q => rw [ints_inj r q]
theorem holds_inj {h : Heap} {v : Value} {ns ms : List Int} (a : PySem.W.Holds h v ns) (b : PySem.W.Holds h v ms) : ns = ms := by
  obtain ⟨l, vs, rfl, ⟨o, e, _, n, d⟩, ha⟩ := PySem.W.list_of_holds a
  obtain ⟨l', vs', e1, ⟨o', e', _, n', d'⟩, hb⟩ := PySem.W.list_of_holds b
  cases e1
  rw [e] at e'
  cases e'
  rw [d] at d'
  injection d' with d1 _
  subst d1
  exact ints_inj (PySem.W.HoldAll.toInts ha) (PySem.W.HoldAll.toInts hb)
/-- min of a list of lists of ints -/
def rMinL (K : PySem.W.Frag) : List V → Hp → VK → Prop := fun vs H Q => ∃ (a : Addr) (p0 : Addr × List Int) (ps : List (Addr × List Int)), vs = [.ref a] ∧ SqL K H a ((p0 :: ps).map fun p => V.ref p.1) ∧
  (∀ p ∈ p0 :: ps, SqL K H p.1 (p.2.map V.int)) ∧ ∀ p ∈ p0 :: ps, p.2 = minL p0.2 (ps.map (·.2)) → Q (.ref p.1) H
theorem minOf_eq (x : List Int) : ∀ xs : List (List Int), PySem.W.minOf x xs = minL x xs := fun xs => by
  unfold PySem.W.minOf minL
  congr 1
  funext a y
  rw [show PySem.W.DatumOrd.lt y a = llt y a from llt_eq y a]
theorem vals_refs_at : ∀ {ps : List (Addr × List Int)} {its : List Value}, Vals (ps.map fun p => V.ref p.1) its → its = ps.map fun p => Value.ref p.1
  | [], _, r => by cases r; rfl
  | p :: ps, _, r => by
    rw [List.map_cons] at r
    cases r with
    | cons r1 r2 =>
      cases r1
      rw [vals_refs_at r2]
      rfl
theorem cr_minL {X : Cx} (hc : X.calm = true) (hu : X.A.units + 64 < cLine) : CallR X (.builtin "min") (rMinL X.K) := by
  intro pins s σ H xs us Q I r h
  obtain ⟨a, p0, ps, rfl, hl, hall, q⟩ := h
  obtain ⟨u, rfl, ru⟩ := vals1 r
  cases ru
  obtain ⟨its, rv, pl, hz⟩ := I.list hl
  have ei := vals_refs_at rv
  have hold : ∀ l : List (Addr × List Int), (∀ p ∈ l, SqL X.K H p.1 (p.2.map V.int)) → PySem.W.HoldAll s.heap (l.map fun p => Value.ref p.1) (l.map (·.2)) := by
    intro l
    induction l with
    | nil => exact fun _ => PySem.W.HoldAll.nil
    | cons p l ih => exact fun h => PySem.W.HoldAll.cons (holds_ints I (h p List.mem_cons_self)) (ih fun z hz => h z (List.mem_cons_of_mem _ hz))
  have hh := hold (p0 :: ps) hall
  have hh' : PySem.W.HoldAll s.heap its.toArray.toList (p0.2 :: ps.map (·.2)) := by
    rw [ei]
    exact hh
  refine PySem.W.min_list_datum (I.ok.hd hc) pl.isList hh' (Nat.lt_of_le_of_lt (by show X.A.units + 1 + 1 ≤ X.A.units + 64; omega) hu) fun i v h' tk hi hv hk => ?_
  rw [ei] at hi
  have hi2 : ((p0 :: ps).map fun p => Value.ref p.1)[i]? = some v := by simpa using hi
  rw [List.getElem?_map] at hi2
  cases e : (p0 :: ps)[i]? with
  | none => rw [e] at hi2; cases hi2
  | some p =>
    rw [e] at hi2
    have e2 : Value.ref p.1 = v := Option.some.inj hi2
    subst e2
    have hm : p ∈ p0 :: ps := List.mem_of_getElem? e
    have I1 : Inv X pins σ H { s with heap := h', toks := tk } := I.kept hk
    have e3 : p.2 = PySem.W.minOf p0.2 (ps.map (·.2)) := holds_inj (holds_ints I1 (hall p hm)) hv
    rw [minOf_eq] at e3
    exact ⟨.ref p.1, H, I1, rfl, q p hm e3⟩

/-! ### texts: index of a sign that is there, list(text), enumerate(text) -/
def tx (l : List Nat) : Str := ⟨l.toArray⟩
def sg (c : Nat) : Str := ⟨#[c]⟩
theorem tx_cps (l : List Nat) : (tx l).cps.toList = l := by simp [tx]
theorem tx_len (l : List Nat) : (tx l).length = l.length := by simp [tx, Str.length]
theorem tx_sg (c : Nat) : sg c = tx [c] := rfl
theorem tx_app (l m : List Nat) : tx l ++ tx m = tx (l ++ m) := by
  show (⟨(tx l).cps ++ (tx m).cps⟩ : Str) = tx (l ++ m)
  simp [tx]
theorem tx_inj {l m : List Nat} (e : tx l = tx m) : l = m := by
  have := congrArg (fun z : Str => z.cps.toList) e
  simpa [tx] using this
theorem mt_index1 {X : Cx} : MtR X "str.index" (fun x xs H Q => ∃ (a b : Str) (k : Nat) (rest : List Nat), x = .str a ∧ xs = [.str b] ∧ Builtin.Str.occurrences a b 0 a.length 1 = k :: rest ∧ Q (.int (k : Nat)) H) := by
  intro pins s σ H x xs v us Q I rx rs h
  obtain ⟨a, b, k, rest, rfl, rfl, e, w⟩ := h
  obtain ⟨t, rfl⟩ := rx
  obtain ⟨u, rfl, t', rfl⟩ := vals1 rs
  exact PySem.SC.index e ⟨.int (k : Nat), H, I.tok _, ⟨_, rfl⟩, w⟩
theorem signs_vals {x : Str} : ∀ (l : List Nat) (vs : List Value) (i : Nat), x.cps.toList.drop i = l → (∀ j v, vs[j]? = some v → SignAt x (i + j) v) → vs.length = l.length → Vals (l.map fun c => V.str (sg c)) vs
  | [], [], _, _, _, _ => .nil
  | [], _ :: _, _, _, _, h => by simp at h
  | _ :: _, [], _, _, _, h => by simp at h
  | c :: l, v :: vs, i, hd, hs, hl => by
    have h0 := hs 0 v rfl
    obtain ⟨c', u, hc, rfl⟩ := h0
    have e1 : x.cps.toList[i]? = some c := by
      have : (x.cps.toList.drop i)[0]? = some c := by rw [hd]; rfl
      rw [List.getElem?_drop] at this
      exact this
    have e2 : c' = c := by
      rw [← Array.getElem?_toList] at hc
      rw [Nat.add_zero, e1] at hc
      exact (Option.some.inj hc).symm
    subst e2
    refine .cons ⟨u, rfl⟩ (signs_vals (x := x) l vs (i + 1) ?_ (fun j v hv => ?_) (by simpa using hl))
    · have : (x.cps.toList.drop i).drop 1 = l := by rw [hd]; rfl
      rw [List.drop_drop] at this
      exact this
    · have := hs (j + 1) v (by simpa using hv)
      rw [show i + 1 + j = i + (j + 1) by omega]
      exact this
theorem cr_listS {X : Cx} (hc : X.calm = true) : CallR X (.type "list") (fun xs H Q => ∃ l : List Nat, xs = [.str (tx l)] ∧ l.length ≤ sizeLine ∧ ∀ p, H p = none → Q (.ref p) (upd H p (.lst (l.map fun c => V.str (sg c))))) := by
  intro pins s σ H xs us Q I r h
  obtain ⟨l, rfl, hz, q⟩ := h
  obtain ⟨u, rfl, t, rfl⟩ := vals1 r
  have esz : (tx l).cps.size = l.length := by simp [tx]
  refine PySem.call_list_str (I.ok.hd hc) (tx l) t (fun h' tk acc c k hS hit => ?_) (by rw [esz]; exact hz)
  have hacc : acc.toList.length = l.length := by
    have := hit.1
    simp only [esz] at this
    simpa using this
  have hv : Vals (l.map fun c => V.str (sg c)) acc.toList := signs_vals (x := tx l) l acc.toList 0 (by simp [tx]) (fun j v hv => by
    rw [Nat.zero_add]
    exact hit.2 j v (by rw [← Array.getElem?_toList]; exact hv)) hacc
  have new : ObjOk X.prog X.w (upd H s.heap.objs.size (.lst (l.map fun c => V.str (sg c)))) h' s.heap.objs.size (.lst (l.map fun c => V.str (sg c))) :=
    ⟨by simpa using hz, acc.toList, c, hv, by simpa using hS⟩
  exact ⟨.ref s.heap.objs.size, _, I.laid (t' := tk) k (Nat.le_refl _) new, rfl, q _ (I.hok.fresh (Nat.le_refl _))⟩
end SR

namespace SR
open PySem PySem.Spec PyProof.Rows L2

/-! ### enumerate(text) -/
/-- each sign in a new pair with its place -/
def IteS (z : Str) : It :=
  ⟨fun i _ => i < z.cps.size, fun i H v H' => ∃ T c, v = .ref T ∧ H T = none ∧ H' = upd H T (.tup [.int (i : Nat), .str ⟨#[c]⟩]) ∧ z.cps[i]? = some c, fun i _ => z.cps.size ≤ i⟩
theorem turn_enumS {P : Program} {w : World} {K : PySem.W.Frag} {elts : List Expr} {kk : Nat} {tpos : Pos} (e it : Addr) (z : Str) (t : Tok) :
    Turn P w K (.Tuple elts kk tpos) (IteS z) [e, it] e (fun i h => (∃ old, IsEnum h e it ((i : Nat) : Int) old) ∧ h.IsStrIter it (strIterType z) z t i ∧ e ≠ it ∧ i ≤ z.cps.size) where
  mem := by simp
  obj := fun i h st b hb => by
    obtain ⟨⟨old, he⟩, ⟨o, ho, hc, hd⟩, _⟩ := st
    have e' : b = e ∨ b = it := by simpa using hb
    rcases e' with q | q
    · rw [q]; exact ⟨_, he, fun v q => nomatch q⟩
    · rw [q]; exact ⟨o, ho, fun v q => by rw [hd] at q; cases q⟩
  keep := fun i h h' st k => let ⟨⟨old, he⟩, hi, hne, hle⟩ := st; ⟨⟨old, k e (by simp) _ he⟩, (let ⟨o, ho, r⟩ := hi; ⟨o, k it (by simp) o ho, r⟩), hne, hle⟩
  item := by
    intro X hP hw hK hc i pins s σ H E I hf st hg
    subst hP hw hK
    obtain ⟨⟨old, he⟩, hit, hne, hle⟩ := st
    have D : Draws X.prog X.w X.A.in1 it [it] z.cps.size (fun i v => ∃ c u, z.cps[i]? = some c ∧ v = .str ⟨#[c]⟩ u) (fun i h => h.IsStrIter it (strIterType z) z t i) := by
      by_cases ha : z.cps.all (· < 128) = true
      · have q : strIterType z = "str_ascii_iterator" := if_pos ha
        rw [q]; exact Draws.strAscii (A := X.A.in1) (show X.A.in1.handled = none from I.ok.hd hc) it z t
      · have q : strIterType z = "str_iterator" := if_neg ha
        rw [q]; exact Draws.strWide (A := X.A.in1) (show X.A.in1.handled = none from I.ok.hd hc) it z t
    have hel : e < s.heap.objs.size := Heap.lt_size he
    have hil : it < s.heap.objs.size := by obtain ⟨_, q, _⟩ := hit; exact Heap.lt_size q
    refine wpAny_pyNext_enum_itemD D he hit hg hne (by simpa using hne) fun x h' tk hx ho hit' hT hsz hk => ?_
    obtain ⟨c, u, hcx, rfl⟩ := hx
    refine ⟨_, rfl, wpAny_letOwnedTupleGo_enum (s := { s with heap := h', toks := tk + 1 }) ho fun h'' he' sb => ?_⟩
    have hT2 : h''.get? s.heap.objs.size = some { cls := .type "tuple", data := .seq #[.int i tk, .str ⟨#[c]⟩ u] } := (sb.2 _ (Nat.ne_of_gt hel)).trans hT
    have new : ObjOk X.prog X.w (upd H s.heap.objs.size (.tup [.int (i : Nat), .str ⟨#[c]⟩])) h'' s.heap.objs.size (.tup [.int (i : Nat), .str ⟨#[c]⟩]) :=
      ⟨by show 2 ≤ sizeLine; decide, [.int i tk, .str ⟨#[c]⟩ u], .cons ⟨_, rfl⟩ (.cons ⟨_, rfl⟩ .nil), ⟨_, hT2, rfl, _, rfl⟩⟩
    have I1 : Inv X pins σ (upd H s.heap.objs.size (.tup [.int (i : Nat), .str ⟨#[c]⟩])) { s with heap := h'', toks := tk + 1 } :=
      I.turnedNew (ch := [e, it]) (fun b ob hb q => (sb.2 b (fun z => hb (by simp [z]))).trans (hk b ob (fun z => hb (by simp [z])) (fun z => hb (by simp [z])) q)) hf (Nat.le_refl _) new
    have hit2 : h''.IsStrIter it (strIterType z) z t (i + 1) := by
      obtain ⟨o, ho, r⟩ := hit'
      exact ⟨o, (sb.2 it (Ne.symm hne)).trans ho, r⟩
    have he2 : IsEnum h'' e it ((i + 1 : Nat) : Int) (.str ⟨#[c]⟩ u) := by
      have e1 : ((i + 1 : Nat) : Int) = (i : Int) + 1 := by omega
      rw [e1]; exact he'
    refine ⟨.ref s.heap.objs.size, _, I1, rfl, ⟨_, c, rfl, I.hok.fresh (Nat.le_refl _), rfl, hcx⟩, ⟨⟨_, he2⟩, hit2, hne, hg⟩, fun b hb => ?_⟩
    · have hb' : b < s.heap.objs.size := by
        have e' : b = e ∨ b = it := by simpa using hb
        rcases e' with z | z
        · rw [z]; exact hel
        · rw [z]; exact hil
      rw [upd_ne (Nat.ne_of_lt hb')]
      exact (hf b hb).1
  done := by
    intro X hP hw hK hc i pins s σ H E I hf st hg
    subst hP hw hK
    obtain ⟨⟨old, he⟩, hit, hne, hle⟩ := st
    have D : Draws X.prog X.w X.A.in1 it [it] z.cps.size (fun i v => ∃ c u, z.cps[i]? = some c ∧ v = .str ⟨#[c]⟩ u) (fun i h => h.IsStrIter it (strIterType z) z t i) := by
      by_cases ha : z.cps.all (· < 128) = true
      · have q : strIterType z = "str_ascii_iterator" := if_pos ha
        rw [q]; exact Draws.strAscii (A := X.A.in1) (show X.A.in1.handled = none from I.ok.hd hc) it z t
      · have q : strIterType z = "str_iterator" := if_neg ha
        rw [q]; exact Draws.strWide (A := X.A.in1) (show X.A.in1.handled = none from I.ok.hd hc) it z t
    obtain ⟨f0, f1, f2, f3, f4, f5⟩ := hf it (by simp)
    have ei : i = z.cps.size := Nat.le_antisymm hle hg
    subst ei
    exact wpAny_pyNext_enum_endD D he hit fun h' eb => ⟨rfl, I.turned (t' := s.toks) (fun b o hb q => eb b o hb q) f0 f1 f3 f4 f5⟩
  self := fun A i s Q E st h => let ⟨⟨_, he⟩, _⟩ := st; wpAny_pyIter_enum he h
def iEnumS (ta : TA) : TI := fun σ H R => ta σ H fun vs H1 => ∃ z, vs = [.str z] ∧ R (IteS z) H1
theorem pi_enumS {X : Cx} {e : Expr} {ta : TA} {p pos tpos : Pos} {elts : List Expr} {kk : Nat} (hg : Gl X "enumerate") (hm : X.mg "enumerate" = none) (ha : PA X [e] ta) (hs : starEach [e] X.env = [(false, eval e X.env)] := by rfl) :
    PI X (.Tuple elts kk tpos) (.Call (.Name "enumerate" p) [e] [] pos) (iEnumS ta) := by
  refine ⟨fun pins s σ H R I h => ?_⟩
  refine Call_ (ld_blt I hg hm boot_enumerate (PyProof.Rows.callWith_type1 (thn (ha.run pos pins s σ H _ I h) fun us s1 ⟨vs, H1, I1, r1, q1⟩ => ?_) hs rfl))
  obtain ⟨z, ex, q⟩ := q1
  subst ex
  obtain ⟨u, rfl, t, rfl⟩ := vals1 r1
  refine call_enumerate_str fun h' he hit hsz hk => wpAny_pyIter_enum he ?_
  have I2 : Inv X pins σ H1 { s1 with heap := h' } := I1.kept (t' := s1.toks) hk
  refine ⟨s1.heap.objs.size + 1, [s1.heap.objs.size + 1, s1.heap.objs.size], _, _, H1, rfl, I2, turn_enumS (s1.heap.objs.size + 1) s1.heap.objs.size z t, ⟨⟨.none, he⟩, hit, Nat.succ_ne_self _, Nat.zero_le _⟩, fun b hb => ?_, q⟩
  have e' : b = s1.heap.objs.size + 1 ∨ b = s1.heap.objs.size := by simpa using hb
  have hle : s1.heap.objs.size ≤ b := by
    rcases e' with z | z
    · rw [z]; exact Nat.le_add_right _ _
    · rw [z]; exact Nat.le_refl _
  exact I1.fpOk hle (I1.hok.fresh hle)
theorem walk_enumS {z : Str} : Walk (IteS z) z.cps.size (fun _ => True) (fun i H v H' => ∃ T c, v = .ref T ∧ H T = none ∧ H' = upd H T (.tup [.int (i : Nat), .str ⟨#[c]⟩]) ∧ z.cps[i]? = some c) :=
  ⟨fun _ _ hi _ => hi, fun _ _ => Nat.le_refl _, fun _ _ _ _ _ _ y => y⟩

/-! ### a dict whose keys are tuples of ints and None, its values lists -/
def leafV : Leaf → V
  | .none => .non
  | .num i => .int i
  | .text x => .str x
abbrev MTab := List (List Leaf × Addr × Addr)
def rawM (xs : MTab) : List (List Leaf × Addr × Value) := xs.map fun x => (x.1, x.2.1, Value.ref x.2.2)
structure MemoR (P : Program) (w : World) (h : Heap) (d : Addr) (xs : MTab) : Prop where
  big : xs.length ≤ sizeLine
  low : (d == sysModules) = false
  nd : (xs.map (·.1)).Nodup
  ob : ∃ o es ep, h.get? d = some o ∧ o.ExactDict ∧ o.data = .dict es ep ∧ es.toList = (rawM xs).map (entryOfKey (tupleKind (leafKind P w)))
abbrev memoO (P : Program) (w : World) (d : Addr) (xs : MTab) : HO := .ext fun h => MemoR P w h d xs
def KeysAt (H : Hp) (xs : MTab) : Prop := ∀ x ∈ xs, H x.2.1 = some (.tup (x.1.map leafV))
def getM (xs : MTab) (k : List Leaf) : Option Addr := (xs.find? fun x => decide (x.1 = k)).map (·.2.2)
def putM (xs : MTab) (k : List Leaf) (b v : Addr) : MTab := if (getM xs k).isSome = true then xs.map (fun x => if x.1 = k then (x.1, x.2.1, v) else x) else xs ++ [(k, b, v)]
theorem atKey_raw (xs : MTab) (k : List Leaf) : (atKey (rawM xs) k).map (·.2) = (getM xs k).map Value.ref := by
  induction xs with
  | nil => rfl
  | cons x xs ih =>
    by_cases e : x.1 = k
    · simp [atKey, getM, rawM, List.find?_cons, e]
    · have e1 : atKey (rawM (x :: xs)) k = atKey (rawM xs) k := by simp [atKey, rawM, List.find?_cons, e]
      have e2 : getM (x :: xs) k = getM xs k := by simp [getM, List.find?_cons, e]
      rw [e1, e2, ih]
theorem atKey_some (xs : MTab) (k : List Leaf) : (atKey (rawM xs) k).isSome = (getM xs k).isSome := by
  have := congrArg Option.isSome (atKey_raw xs k)
  simpa using this
theorem raw_put (xs : MTab) (k : List Leaf) (b v : Addr) : storedH (rawM xs) k b (.ref v) = rawM (putM xs k b v) := by
  unfold storedH putM
  rw [atKey_some]
  by_cases e : (getM xs k).isSome = true
  · rw [if_pos e, if_pos e]
    unfold rawM
    rw [List.map_map, List.map_map]
    refine List.map_congr_left fun x _ => ?_
    simp only [Function.comp, putAt]
    by_cases q : x.1 = k
    · rw [if_pos q, if_pos q]
    · rw [if_neg q, if_neg q]
  · rw [if_neg e, if_neg e]
    simp [rawM]
theorem rawM_keys (xs : MTab) : (rawM xs).map (·.1) = xs.map (·.1) := by simp [rawM]
theorem putM_len (xs : MTab) (k : List Leaf) (b v : Addr) : (putM xs k b v).length ≤ xs.length + 1 := by
  unfold putM
  split
  · rw [List.length_map]; omega
  · simp
theorem leaf_is {P : Program} {w : World} {k : Leaf} {u : Value} (r : RelV (leafV k) u) : (leafKind P w).is k u = true := by
  cases k with
  | none => cases (show u = Value.none from r); rfl
  | num i => obtain ⟨t, rfl⟩ := (show ∃ t, u = Value.int i t from r); exact decide_eq_true rfl
  | text x => obtain ⟨t, rfl⟩ := (show ∃ t, u = Value.str x t from r); simp [leafKind, Leaf.isOf, Value.isStrOf]
theorem leafs_are {P : Program} {w : World} : ∀ {ks : List Leaf} {us : List Value}, Vals (ks.map leafV) us → ItemsAre (leafKind P w) ks us
  | [], _, r => by rw [List.map_nil] at r; cases r; exact .nil
  | k :: ks, _, r => by
    rw [List.map_cons] at r
    cases r with
    | cons h t => exact .cons (leaf_is h) (leafs_are t)
section
variable {P : Program} {w : World} {H : Hp} {h : Heap} {d a : Addr} {xs : MTab}
theorem leaf_key (ok : HOk P w H h) {ks : List Leaf} (e : H a = some (.tup (ks.map leafV))) : (tupleKind (leafKind P w)).is h ks a := by
  obtain ⟨_, its, r, o, h1, h2, n, h3⟩ := (show ObjOk P w H h a (.tup (ks.map leafV)) from ok a _ e)
  exact ⟨o, its.toArray, n, h1, h2, h3, by simpa using leafs_are r⟩
theorem memo_of (ok : HOk P w H h) (e : H d = some (memoO P w d xs)) (kk : KeysAt H xs) : xs.length ≤ sizeLine ∧ (d == sysModules) = false ∧ h.DictOfH (tupleKind (leafKind P w)) d (rawM xs) := by
  obtain ⟨M, _, _⟩ := (show ObjOk P w H h d (memoO P w d xs) from ok d _ e)
  obtain ⟨o, es, ep, h1, h2, h3, h4⟩ := M.ob
  refine ⟨M.big, M.low, o, es, ep, h1, h2, h3, h4, fun x hx => ?_, by rw [rawM_keys]; exact M.nd⟩
  obtain ⟨y, hy, rfl⟩ := List.mem_map.mp hx
  exact leaf_key ok (kk y hy)
theorem memo_new {H' : Hp} (M : MemoR P w h d xs) : ObjOk P w H' h d (memoO P w d xs) := by
  obtain ⟨o, es, ep, h1, h2⟩ := M.ob
  refine ⟨M, ⟨o, h1⟩, fun g1 g2 m k => ⟨m.big, m.low, m.nd, ?_⟩⟩
  obtain ⟨o', es', ep', q1, q2⟩ := m.ob
  exact ⟨o', es', ep', k _ q1, q2⟩
end
section
variable {X : Cx} {o i e value : Expr} {pos pos' tpos : Pos} {td ty tv : TE}
def tMNew (P : Program) (w : World) : TE := fun _ H Q => ∀ p, H p = none → Q (.ref p) (upd H p (memoO P w p []))
theorem pe_mnew : PE X (.Dict [] [] pos) (tMNew X.prog X.w) := ⟨fun pins s σ H Q I h =>
  wpAny_Dict_empty ⟨.ref s.heap.objs.size, _, I.laid (a := s.heap.objs.size) (o := memoO X.prog X.w s.heap.objs.size []) (t' := s.toks) (fun _ _ q => Heap.get?_push_of_some _ q) (Nat.le_refl _)
    (memo_new ⟨Nat.zero_le _, beq_eq_false_iff_ne.mpr (Ne.symm (Nat.ne_of_lt I.big)), List.nodup_nil, _, #[], 0, Heap.get?_push_size _ rfl, ⟨rfl, rfl, rfl⟩, rfl, rfl⟩), rfl, h _ (I.hok.fresh (Nat.le_refl _))⟩⟩
def tMNotIn (P : Program) (w : World) (ty td : TE) : TE := fun σ H Q => ty σ H fun y H1 => td σ H1 fun x H2 => ∃ (d b : Addr) (xs : MTab) (k : List Leaf), x = .ref d ∧ y = .ref b ∧ H2 d = some (memoO P w d xs) ∧ KeysAt H2 xs ∧ H2 b = some (.tup (k.map leafV)) ∧
  Q (.bl (!(getM xs k).isSome)) H2
theorem pc_mnotin (hu : X.A.units + 1 < cLine) (hi : PE X i ty) (ho : PE X o td) : PC X .NotIn i o (tMNotIn X.prog X.w ty td) := by
  refine ⟨fun pins s σ H Q I h => ?_⟩
  refine thn (hi.run pins s σ H _ I h) fun iv s1 ⟨y, H1, I1, ry, q1⟩ => thn (ho.run pins s1 σ H1 _ I1 q1) fun u s2 ⟨x, H2, I2, rx, d, b, xs, k, ex, ey, g, kk, eb, q2⟩ => ?_
  subst ex ey
  obtain rfl : u = Value.ref d := rx
  obtain rfl : iv = Value.ref b := ry
  obtain ⟨z, hd, dd⟩ := memo_of I2.hok g kk
  refine wpAny_notIn_heap (tupleKind_room_in1 hu) (leaf_key I2.hok eb) hd dd ?_
  rw [atKey_some]
  exact ⟨.bl _, H2, I2.tok _, rfl, q2⟩
def tMGet (P : Program) (w : World) (td ty : TE) : TE := fun σ H Q => td σ H fun x H1 => ty σ H1 fun y H2 => ∃ (d b v : Addr) (xs : MTab) (k : List Leaf), x = .ref d ∧ y = .ref b ∧ H2 d = some (memoO P w d xs) ∧ KeysAt H2 xs ∧ H2 b = some (.tup (k.map leafV)) ∧
  getM xs k = some v ∧ Q (.ref v) H2
theorem pe_mget (hu : X.A.units + 1 < cLine) (ho : PE X o td) (hi : PE X i ty) (hs : NoSl i) : PE X (.Subscript o i pos) (tMGet X.prog X.w td ty) := by
  refine ⟨fun pins s σ H Q I h => ?_⟩
  refine subD_of PySem.F.slot_dict_getitem.lookup hs (thn (ho.run pins s σ H _ I h) fun u s1 ⟨x, H1, I1, rx, q1⟩ => thn (hi.run pins s1 σ H1 _ I1 q1) fun iv s2 ⟨y, H2, I2, ry, d, b, v, xs, k, ex, ey, g, kk, eb, ev, q2⟩ => ?_)
  subst ex ey
  obtain rfl : u = Value.ref d := rx
  obtain rfl : iv = Value.ref b := ry
  obtain ⟨z, hd, dd⟩ := memo_of I2.hok g kk
  refine ⟨dd.typeIs, ?_⟩
  have ha := atKey_raw xs k
  rw [ev] at ha
  obtain ⟨p, hp, hp2⟩ := Option.map_eq_some_iff.mp ha
  refine wpAny_getItem_heap (tupleKind_room_in1 hu) (leaf_key I2.hok eb) dd hp ?_
  rw [hp2]
  exact ⟨.ref v, H2, I2.tok _, rfl, q2⟩
def sMPut (P : Program) (w : World) (td ty tv : TE) : TS := fun D σ H => tv σ H fun v H1 => td σ H1 fun x H2 => ty σ H2 fun y H3 => ∃ (d b a : Addr) (xs : MTab) (k : List Leaf), v = .ref a ∧ x = .ref d ∧ y = .ref b ∧
  H3 d = some (memoO P w d xs) ∧ KeysAt H3 xs ∧ H3 b = some (.tup (k.map leafV)) ∧ xs.length < sizeLine ∧ D.nx σ (upd H3 d (memoO P w d (putM xs k b a)))
theorem ps_mput (hu : X.A.units + 1 < cLine) (ho : PE X o td) (hi : PE X i ty) (hv : PE X value tv) (hs : swapsWith value (some (.Subscript o i pos')) pos.line X.env = pure false) :
    PS X (.Assign [.Subscript o i pos'] value pos) (sMPut X.prog X.w td ty tv) := by
  refine ⟨fun pins s σ H D I h => ?_⟩
  refine wpAny_Assign_Subscript (thn (hv.run pins s σ H _ I h) fun r s1 ⟨v, H1, I1, rv, q1⟩ => thn (ho.run pins s1 σ H1 _ I1 q1) fun u s2 ⟨x, H2, I2, rx, q2⟩ => thn (hi.run pins s2 σ H2 _ I2 q2) fun iv s3 ⟨y, H3, I3, ry, d, b, a, xs, k, ev, ex, ey, g, kk, eb, hlt, q3⟩ => ?_) hs
  subst ev ex ey
  obtain rfl : u = Value.ref d := rx
  obtain rfl : iv = Value.ref b := ry
  obtain rfl : r = Value.ref a := rv
  obtain ⟨z, hd, dd⟩ := memo_of I3.hok g kk
  have hz : (rawM xs).length ≤ sizeLine := by simpa [rawM] using z
  refine wpAny_setItem_heap (hsz := hz) (tupleKind_room_in1 hu) (leaf_key I3.hok eb) dd fun h' dd' hs => ?_
  rw [raw_put] at dd'
  obtain ⟨q, es, ep, hq, h2, h3, h4, _, h5⟩ := dd'
  rw [rawM_keys] at h5
  refine ⟨σ, _, d_write I3 (by rw [g]; exact True.intro) hs ⟨q, hq⟩ (memo_new ⟨?_, hd, h5, q, es, ep, hq, h2, h3, h4⟩), q3⟩
  have := putM_len xs k b a
  omega
end

/-! ### {k: v} with one key that is a tuple -/
def tDispT (tk tv : TE) : TE := fun σ H Q => ∀ p, H p = none → tk σ (upd H p (.dT [])) fun x H1 => tv σ H1 fun y H2 => H2 p = some (.dT []) ∧ ∃ (b : Addr) (k : List Key), x = .ref b ∧ H2 b = some (.tup (k.map kV)) ∧ Q (.ref p) (upd H2 p (.dT [(k, y)]))
theorem pe_dispT {X : Cx} {pos : Pos} {ek ev : Expr} {tk tv : TE} (hu : X.A.units + 1 < cLine) (hk : PE X ek tk) (hv : PE X ev tv) : PE X (.Dict [some ek] [ev] pos) (tDispT tk tv) := by
  refine ⟨fun pins s σ H Q I q => ?_⟩
  have hn := I.hok.fresh (Nat.le_refl s.heap.objs.size)
  have I1 := I.laid (a := s.heap.objs.size) (o := .dT []) (h' := s.heap.push { cls := .type "dict", data := .dict #[] }) (t' := s.toks) (fun _ _ q => Heap.get?_push_of_some _ q) (Nat.le_refl _) (dt_empty s.heap I.big)
  rw [arm_eval_Dict, zip_pairTrees [some ek] [ev] X.env pos rfl rfl, dictDisplay_pairs _ (by simp [pairTrees]) (by simp [pairTrees])]
  refine wpAny_bind (wpAny_standAt (wpAny_bind ?_))
  unfold subDict
  refine wpAny_bind (wpAny_alloc ?_)
  refine wpAny_bind (wpAny_holding ?_)
  rw [if_pos (by simp [pairTrees])]
  refine wpAny_bind (pairTrees_cons_walk (thn (hk.run pins _ σ _ _ I1 (q _ hn)) fun u s1 ⟨x, H1, I2, rx, q1⟩ => thn (hv.run pins s1 σ H1 _ I2 q1) fun w2 s2 ⟨y, H2, I3, ry, e, b, k, ex, eb, q2⟩ => pairTrees_nil_walk ?_))
  subst ex
  obtain rfl : u = Value.ref b := rx
  refine wpAny_holding ?_
  obtain ⟨z, hd, xs, rel, dd⟩ := dt_of I3.hok e
  cases rel
  have es : storedH ([] : List (List Key × Addr × Value)) k b w2 = [(k, b, w2)] := rfl
  rw [List.forIn_cons]
  refine wpAny_bind (wpAny_bind (wpAny_bind (wpAny_dictSet_heap (hsz := Nat.zero_le _) (k := k) (show (tupleKind (mixKind X.prog X.w)).room X.A from Nat.lt_of_succ_lt hu) (key_of I3.hok eb) dd fun h' dd' hs => wpAny_pure ?_)))
  rw [es] at dd'
  obtain ⟨o', es', ep', hq, h2, h3, h4, _, h5⟩ := dd'
  have I4 := d_write (ob := .dT [(k, y)]) (t' := s2.toks + (tupleKind (mixKind X.prog X.w)).draws k) I3 (by rw [e]; exact True.intro) hs ⟨o', hq⟩
    ⟨by show 1 ≤ sizeLine; decide, hd, [(k, b, w2)], .cons ⟨rfl, by rw [upd_ne (ne_of eb e (fun z => nomatch z))]; exact eb, ry⟩ .nil, o', es', ep', hq, h2, h3, h4, h5⟩
  exact wpAny_pure (wpAny_pure (wpAny_pure (wpAny_pure ⟨.ref s.heap.objs.size, _, I4, rfl, q2⟩)))
end SR

namespace PySem.Froz
open PySem
theorem sub_str_set : isSubtype (.type "str") (.type "set") = pure false := by rw [isSubtype_type]; kernel_rfl
theorem sub_str_frozenset : isSubtype (.type "str") (.type "frozenset") = pure false := by rw [isSubtype_type]; kernel_rfl
section
variable {prog : Program} {w : World} {A : Around} {E : Value → Shared → Prop} {s : Shared}
/-- the payload of a set of a text's signs -/
theorem run_ok : ∀ (cs : List Nat) (tk : Tok) (D : SD) (l : List Str), TxOk prog w D l → (∀ c ∈ cs, sing c ∉ l) → cs.Nodup → (runD w cs tk D).1.size = D.1.size + cs.length ∧ (runD w cs tk D).2.2.fits (runD w cs tk D).1.size = true
  | [], _, D, l, F, _, _ => ⟨rfl, F.fit⟩
  | c :: r, tk, D, l, F, hn, hd => by
    obtain ⟨h1, h2⟩ := List.nodup_cons.mp hd
    have F2 := add_ok (P := prog) (w := w) (k := sing c) tk F
    have ih := run_ok r (tk + 2) _ (sing c :: l) F2 (fun d hdr hm => by
      rcases List.mem_cons.mp hm with q | q
      · have q2 : [d] = [c] := congrArg (fun y : Str => y.cps.toList) q
        exact h1 ((List.cons.inj q2).1 ▸ hdr)
      · exact hn d (List.mem_cons_of_mem _ hdr) q) h2
    refine ⟨?_, ih.2⟩
    show (runD w r (tk + 2) _).1.size = _
    have e1 := F2.sz
    have e2 := F.sz
    rw [ih.1, e1, e2]
    show l.length + 1 + r.length = l.length + (r.length + 1)
    omega
set_option maxHeartbeats 8000000 in
/-- set(text): as many members as signs, where these are unlike -/
theorem call_set_str {x : Str} {u : Tok} {Q : Value → Shared → Prop} (hh : A.handled = none) (ha : x.cps.all (· < 128) = true) (hd : x.cps.toList.Nodup) (hb : x.cps.toList.length < scanBound)
    (h : ∀ (h' : Heap) (tk : Nat) (es : Array (Int × Value)) (ep : Nat) (t : SetTable), h'.get? s.heap.objs.size = some { cls := .type "set", data := .set es ep t } → es.size = x.cps.toList.length → t.fits es.size = true →
      (∀ b o, b < s.heap.objs.size → s.heap.get? b = some o → h'.get? b = some o) → Q (.ref s.heap.objs.size) { s with heap := h', toks := tk }) :
    wpAny (model prog w) A (call (.type "set") [.str x u]) Q E s := by
  obtain ⟨c, tl, hmro⟩ := F.called_set.mro
  have hmade := F.called_set.made
  have hsub := F.called_set.sub
  refine wpAny_call (codeAny_of_tree ?_)
  show wpAny _ _ (callAny (.type "set") _) _ _ _
  refine wpAny_pure ⟨Code.quiet_builtin _ (by decide +kernel), codeAny_builtin F.entry_type_call ?_⟩
  rw [Around.under_plain (weight_type_call_type "set" [.str x u] []) rfl]
  have h1 := F.called_set.notType
  have h2 := F.called_set.canCreate
  have hct := F.typeCall_set_1 (.str x u)
  repeat (any_goals (first | assumption | wp_step))
  refine codeAny_mono (code_set_new_1 (.str x u) (E := E) (Q₁ := fun obj s₁ => ∃ led : Bool, obj = .ref s.heap.objs.size ∧ s₁ = { s with heap := s.heap.push { cls := .type "set", dict := none, data := .set #[] 0 (.fresh 0 0 led) } }) fun led => ⟨led, rfl, rfl⟩) fun r s₁ hr => ?_
  cases r with
  | error e => exact hr
  | ok fl =>
    cases fl with
    | ret obj =>
      obtain ⟨led, rfl, rfl⟩ := hr
      have hS : (s.heap.push { cls := .type "set", dict := none, data := .set #[] 0 (.fresh 0 0 led) }).get? s.heap.objs.size = some { cls := .type "set", dict := none, data := .set #[] 0 (.fresh 0 0 led) } := Heap.get?_push_size _ rfl
      have hT : Shared.TypeIs { s with heap := s.heap.push { cls := .type "set", dict := none, data := .set #[] 0 (.fresh 0 0 led) } } (.ref s.heap.objs.size) "set" := ⟨_, hS, rfl⟩
      have hli := F.called_set.init.lookup
      have hbi := F.called_set.init.bind (.ref s.heap.objs.size)
      repeat (any_goals (first | assumption | wp_step))
      refine codeAny_mono (codeAny_call_builtin (R := wants (fun r s₂ => r = .none ∧ ∃ (h' : Heap) (tk : Nat) (es : Array (Int × Value)) (ep : Nat) (t : SetTable), s₂ = { s with heap := h', toks := tk } ∧
          h'.get? s.heap.objs.size = some { cls := .type "set", data := .set es ep t } ∧ es.size = x.cps.toList.length ∧ t.fits es.size = true ∧
          (∀ b o, b < s.heap.objs.size → s.heap.get? b = some o → h'.get? b = some o)) E) F.called_set.init.plain F.entry_set_init (check_set_init_1 hT ?_)) fun r₂ s₂ hr₂ => ?_
      · have hss := sub_str_set
        have hsf := sub_str_frozenset
        have hne : (Value.type "str" == Value.type "dict") = false := by decide
        unfold Builtin.«set.__init__» noKeywords Builtin.Frozenset.updateFrom
        generalize hPI : pyIter = PI
        wp_walk
        subst hPI
        refine wpAny_pyIter_ascii ha ?_
        refine wpAny_bind (wpAny_runValue ?_)
        have hh3 : A.in1.in1.handled = none := by simp [hh]
        have hI : (s.heap.push { cls := .type "set", dict := none, data := .set #[] 0 (.fresh 0 0 led) }).objs.size = s.heap.objs.size + 1 := Heap.size_push ..
        have hneI : s.heap.objs.size ≠ (s.heap.push { cls := .type "set", dict := none, data := .set #[] 0 (.fresh 0 0 led) }).objs.size := by
          rw [hI]; exact Nat.ne_of_lt (Nat.lt_succ_self _)
        have F0 : TxOk prog w (#[], 0, .fresh 0 0 led) [] := TxOk.nil (by cases led <;> decide +kernel)
        obtain ⟨z1, z2⟩ := run_ok (prog := prog) (w := w) x.cps.toList s.toks (#[], 0, .fresh 0 0 led) [] F0 (fun _ _ q => nomatch q) hd
        refine code_update (P := prog) (w := w) (x := x) (u := u) (T := "set") hneI hh3 x.cps.toList 0 (#[], 0, .fresh 0 0 led) [] _ rfl ?ga ?gb F0 (fun _ _ q => nomatch q) hd
          (by simpa using hb) ?gc
        case ga => exact Heap.get?_push_of_some _ hS
        case gb => exact Heap.get?_push_size _ rfl
        show wpAny _ _ _ _ _ _
        refine wpAny_pure ?_
        show wpAny _ _ (ret Value.none) _ _ _
        have hz0 : ((s.heap.push { cls := .type "set", dict := none, data := .set #[] 0 (.fresh 0 0 led) }).push (itObj x u 0)).objs.size = s.heap.objs.size + 2 := by rw [Heap.size_push, hI]
        refine wpAny_pure ⟨rfl, _, _, (runD w x.cps.toList s.toks (#[], 0, .fresh 0 0 led)).1, (runD w x.cps.toList s.toks (#[], 0, .fresh 0 0 led)).2.1, (runD w x.cps.toList s.toks (#[], 0, .fresh 0 0 led)).2.2, rfl, ?_, by simpa using z1, z2, fun b o hb' e => ?_⟩
        · refine Heap.get?_push_of_some _ (Heap.get?_push_of_some _ ?_)
          unfold two
          exact Heap.get?_update_of_ne _ (Ne.symm hneI) (get_upd _ (Heap.get?_push_of_some _ hS) rfl)
        · refine Heap.get?_push_of_some _ (Heap.get?_push_of_some _ ?_)
          unfold two
          refine Heap.get?_update_of_ne _ (by rw [hI]; exact Nat.ne_of_gt (Nat.lt_succ_of_lt hb')) (Heap.get?_update_of_ne _ (Nat.ne_of_gt hb') (Heap.get?_push_of_some _ (Heap.get?_push_of_some _ e)))
      · cases r₂ with
        | error e => exact hr₂
        | ok fl₂ =>
          cases fl₂ with
          | ret r =>
            obtain ⟨rfl, h', tk, es, ep, t, rfl, g1, g2, g3, g4⟩ := hr₂
            repeat (any_goals (first | assumption | wp_step))
            exact h _ _ _ _ _ g1 g2 g3 g4
          | _ => exact hr₂.elim
    | _ => exact hr.elim
end
end PySem.Froz
namespace SR
open PySem PySem.Spec PyProof.Rows L2
def tLenSetS (ta : TE) : TE := fun σ H Q => ta σ H fun x H1 => ∃ l : List Nat, x = .str (tx l) ∧ (∀ c ∈ l, c < 128) ∧ l.Nodup ∧ l.length < 64 ∧ Q (.int (l.length : Nat)) H1
theorem pe_lenSetS {X : Cx} {a : Expr} {ta : TE} {p p2 q pos : Pos} (hg : Gl X "len") (hm : X.mg "len" = none) (hg2 : Gl X "set") (hm2 : X.mg "set" = none) (ha : PE X a ta) (hc : X.calm = true := by rfl)
    (na : starEach [a] X.env = (false, eval a X.env) :: starEach [] X.env := by rfl) : PE X (.Call (.Name "len" p) [.Call (.Name "set" p2) [a] [] q] [] pos) (tLenSetS ta) := by
  refine ⟨fun pins s σ H Q I h => ?_⟩
  refine Call_ (ld_blt I hg hm boot_len ?_)
  refine PyProof.Rows.callWith_builtin1 (PyProof.Rows.args_cons ?_ rfl) rfl rfl
  refine Call_ (ld_blt I hg2 hm2 boot_set ?_)
  refine PyProof.Rows.callWith_type1 (PyProof.Rows.args_cons (thn (ha.run pins s σ H _ I h) fun v s1 ⟨x, H1, I1, r1, q1⟩ => PyProof.Rows.args_nil ?_) na) na rfl
  obtain ⟨l, rfl, hasc, hnd, hl, q1⟩ := q1
  obtain ⟨u, rfl⟩ := r1
  have ec : (tx l).cps.toList = l := tx_cps l
  refine PySem.Froz.call_set_str (I1.ok.hd hc) (x := tx l) (u := u) ?_ (by rw [ec]; exact hnd) (by rw [ec]; unfold scanBound; omega) fun h' tk es ep t g1 g2 g3 g4 => ?_
  · rw [← Array.all_toList, ec, List.all_eq_true]
    exact fun c hc => decide_eq_true (hasc c hc)
  refine PyProof.Rows.args_nil ?_
  rw [ec] at g2
  have I2 : Inv X pins σ H1 { s1 with heap := h', toks := tk } := I1.kept fun b o e => g4 b o (Heap.lt_size e) e
  refine call_len_set g1 ⟨rfl, rfl, rfl⟩ rfl g3 (by rw [g2]; omega) ⟨.int l.length, H1, I2.tok _, ⟨_, by rw [g2]⟩, q1⟩
end SR

namespace SR
open PySem PySem.Spec PyProof.Rows L2
/-! ### the text by places -/
def top (i : Nat) : Stmt := PySem.Challenge.pw_shiftrow_k06_whole_guarded.main.body.getD i (.Pass ⟨0, 0, 0, 0⟩)
abbrev sNeedSets : Stmt := top 9
abbrev sNeedTape : Stmt := top 10
abbrev sNeedState : Stmt := top 11
abbrev sNeedAll : Stmt := top 12
abbrev sIsCommon : Stmt := top 13
abbrev sGone : Stmt := top 14
abbrev sRead : Stmt := top 15
abbrev sCodesOf : Stmt := top 16
abbrev sNeedText : Stmt := top 17
abbrev sShorter : Stmt := top 20
abbrev sWInit : Stmt := inClass (top 21) 0
abbrev sRest : Stmt := inClass (top 21) 1
abbrev sFound : Stmt := inClass (top 21) 2
abbrev sAhead : Stmt := inClass (top 21) 3
abbrev sSigned : Stmt := inClass (top 21) 4
abbrev sGuardedOf : Stmt := top 22
abbrev sGuarded : Stmt := top 23
abbrev sDice : Stmt := top 25
abbrev sOff : Stmt := top 26
abbrev sAlike : Stmt := top 27
abbrev sMixed : Stmt := top 28
abbrev sSets : Stmt := top 29
abbrev sTextL : Stmt := top 30
abbrev sGoneL : Stmt := top 31
abbrev sLosses : Stmt := top 32
abbrev sShortest : Stmt := top 33
abbrev sIsTape : Stmt := top 34
abbrev sRuns : Stmt := top 35
abbrev sLaw : Stmt := top 36
/-! ### the built-ins that the text names -/
structure Bt (mg : Str → Option Value) : Prop where
  len : mg "len" = none
  set : mg "set" = none
  enumerate : mg "enumerate" = none
  range : mg "range" = none
  abs : mg "abs" = none
  isinstance : mg "isinstance" = none
  bool : mg "bool" = none
  int : mg "int" = none
  str : mg "str" = none
  tuple : mg "tuple" = none
  list : mg "list" = none
  all : mg "all" = none
  max : mg "max" = none
  min : mg "min" = none
/-! ### what the sets are -/
structure SOk (S : Sets) : Prop where
  ev : Even S
  n1 : S.one.Nodup
  n2 : S.two.Nodup
  lo : 1 ≤ S.one.length
  hi : S.one.length ≤ 10
  a1 : ∀ c ∈ S.one, c < 128
  a2 : ∀ c ∈ S.two, c < 128
def SetsAt (H : Hp) (a : Addr) (S : Sets) : Prop := H a = some (.tup [.str (tx S.one), .str (tx S.two)])
theorem keepS {H H' : Hp} (s : Same H H') {a : Addr} {S : Sets} (h : SetsAt H a S) : SetsAt H' a S := s _ _ h
/-! ### short words -/
theorem ifD {c A B : Prop} [Decidable c] (hc : c) (h : A) : if decide c = true then A else B := by rw [decide_eq_true hc]; exact iteT h
theorem ifDN {c A B : Prop} [Decidable c] (hc : ¬ c) (h : B) : if decide c = true then A else B := by rw [decide_eq_false hc]; exact iteF h
theorem ifN {c A B : Prop} [Decidable c] (hc : c) (h : B) : if (!decide c) = true then A else B := by rw [decide_eq_true hc]; exact iteF h
theorem ifNN {c A B : Prop} [Decidable c] (hc : ¬ c) (h : A) : if (!decide c) = true then A else B := by rw [decide_eq_false hc]; exact iteT h
theorem sm {n : Nat} (h : n ≤ 16000000) : n ≤ sizeLine := by rw [sizeLine_eq]; omega
theorem sm' {n : Nat} (h : n ≤ 16000000) : n < sizeLine := by rw [sizeLine_eq]; omega
theorem tx_le {l : List Nat} (h : l.length ≤ 16000000) : (tx l).length ≤ sizeLine := by rw [tx_len]; exact sm h
theorem same_upd {H : Hp} {p : Addr} {o : HO} (h : H p = none) : Same H (upd H p o) := fun b x e => by
  rw [upd_ne (ne_of_none e h)]
  exact e
theorem room_hu64 {k : Nat} {A : Around} (r : Room k A) : A.units + 64 < cLine := r.units
end SR

namespace SR
open PySem PySem.Spec PyProof.Rows L2
section
variable {P : Program} {w : World} {K : PySem.W.Frag} {mg : Str → Option Value} {base : Heap}
/-! ### need_sets -/
theorem scNS : FnScope ["sets", "one", "other"] ["sets"] (defScope sNeedSets) := ⟨rfl, rfl, rfl, by decide +kernel, rfl, by decide +kernel, by decide +kernel⟩
def spNeedSets : Sp := fun vs H Q _ => ∃ (a : Addr) (S : Sets), vs = [.ref a] ∧ SetsAt H a S ∧ SOk S ∧ ∀ H', Same H H' → Q .non H'
theorem ok_need_sets {f : Addr} {fd : FuncData} (F : Fun K "need_sets" "need_sets" sNeedSets f fd) (B : Bt mg) {t : Tok} (mM : mg "MOST_SIGNS" = some (.int 10 t)) : FnOk P w K mg base CX0 1 f fd ["sets"] spNeedSets := by
  refine F.ok scNS (fun vs H Q E h => ?_) (fun cdv A outer s H vs Q E hr h => ?_)
  · obtain ⟨a, S, rfl, _⟩ := h
    rfl
  obtain ⟨a, S, rfl, hS, ok, k⟩ := h
  refine ⟨_, pss_cons (ps_asg (pv 0) (pg_tup (by rfl) (pgs_cons (pg_name (i := 1) scNS.nd rfl (.inl rfl)) (pgs_cons (pg_name (i := 2) scNS.nd rfl (.inl rfl)) pgs_nil))))
    (pss_cons (ps_if (pt_not (pt_chain op_le op_le pe_int (pe_callB call_len_str (by rfl) B.len PySem.boot_len (pa_cons (pv 1) pa_nil)) (pe_glob (v := .int 10) (by rfl) mM ⟨_, rfl⟩))) (pss_one ps_never) pss_nil)
    (pss_cons (ps_if (pt_cmpR op_ne (pe_lenSetS (by rfl) B.len (by rfl) B.set (pv 1)) (pe_callB call_len_str (by rfl) B.len PySem.boot_len (pa_cons (pv 1) pa_nil)) (nomark _)) (pss_one ps_never) pss_nil)
    (pss_one (ps_if (PW.pt (pw_or (pt_cmpR op_ne (pe_callB call_len_str (by rfl) B.len PySem.boot_len (pa_cons (pv 2) pa_nil)) (pe_callB call_len_str (by rfl) B.len PySem.boot_len (pa_cons (pv 1) pa_nil)) (nomark _))
      (pw_or1 (pt_cmpR op_ne (pe_lenSetS (by rfl) B.len (by rfl) B.set (pv 2)) (pe_callB call_len_str (by rfl) B.len PySem.boot_len (pa_cons (pv 2) pa_nil)) (nomark _))))) (pss_one ps_never) pss_nil)))), ?_⟩
  have l1 := ok.lo
  have l2 := ok.hi
  have l3 := ok.ev.len
  have z1 : (tx S.one).length ≤ sizeLine := tx_le (by omega)
  have z2 : (tx S.two).length ≤ sizeLine := tx_le (by omega)
  -- one, other = sets
  refine ⟨_, rfl, a, _, rfl, SqT.of hS, rfl, _, _, rfl, _, _, rfl, rfl, ?_⟩
  -- not 1 <= len(one) <= MOST_SIGNS
  refine ⟨_, rfl, _, rfl, z1, _, _, rfl, rfl, _, rfl, ifD (by rw [tx_len]; omega) ⟨_, _, rfl, rfl, _, rfl, ?_⟩⟩
  refine ifN (by rw [tx_len]; omega) ?_
  -- len(set(one)) != len(one)
  refine ⟨_, rfl, S.one, rfl, ok.a1, ok.n1, by omega, _, rfl, _, rfl, z1, rfl, _, rfl, ?_⟩
  refine ifN (by rw [tx_len]) ?_
  -- len(other) != len(one) or ..
  refine ⟨_, rfl, _, rfl, z2, _, rfl, _, rfl, z1, rfl, _, rfl, ifN (by rw [tx_len, tx_len, l3]) ?_⟩
  refine ⟨_, rfl, S.two, rfl, ok.a2, ok.n2, by omega, _, rfl, _, rfl, z2, rfl, _, rfl, ?_⟩
  refine ifN (by rw [tx_len]) ?_
  exact k H (Same.refl H)
end
end SR

namespace SR
open PySem PySem.Spec PyProof.Rows L2
/-! ### small facts -/
theorem at_row {S : Sets} (st : Bool) : atI ([.str (tx S.one), .str (tx S.two)] : List V) (bi st) = some (.str (tx (S.row st))) := by
  cases st
  · exact atI_nat (j := 0) rfl
  · exact atI_nat (j := 1) rfl
theorem at_tx {l : List Nat} {k : Int} {c : Nat} (h0 : 0 ≤ k) (h : l[k.toNat]? = some c) : atI (tx l).cps.toList k = some c := by
  rw [tx_cps]
  have := atI_nat (xs := l) (j := k.toNat) h
  rw [Int.toNat_of_nonneg h0] at this
  exact this
theorem ints_at {w : List Int} {i : Nat} {x : V} (h : (w.map V.int)[i]? = some x) : ∃ k, x = .int k ∧ w[i]? = some k := by
  rw [List.getElem?_map] at h
  cases e : w[i]? with
  | none => rw [e] at h; cases h
  | some k => rw [e] at h; exact ⟨k, (Option.some.inj h).symm, rfl⟩
theorem get_row {S : Sets} (ok : SOk S) (st : Bool) {k : Int} (h0 : 0 ≤ k) (h : k < S.n) : (S.row st)[k.toNat]? = some ((S.row st).getD k.toNat 0) := by
  have := ok.ev.row st
  have hl : k.toNat < (S.row st).length := by omega
  rw [List.getD_eq_getElem?_getD, List.getElem?_eq_getElem hl]
  rfl
theorem gone_take {S : Sets} {w : List Int} {i : Nat} {k : Int} (h : w[i]? = some k) (st : Bool) :
    gone S (w.take (i + 1)) st = if k < S.n then ((gone S (w.take i) st).1 ++ [(S.row (gone S (w.take i) st).2).getD k.toNat 0], (gone S (w.take i) st).2) else ((gone S (w.take i) st).1, decide (k - S.n = 1)) := by
  have e : w.take (i + 1) = w.take i ++ [k] := by rw [List.take_add_one, h]; rfl
  have g := gone_append (S := S) (w.take i) [k] st
  rw [e]
  by_cases q : k < S.n
  · rw [if_pos q]
    rw [gone_sign q] at g
    exact Prod.ext g.1 g.2
  · rw [if_neg q]
    have e2 : gone S [k] (gone S (w.take i) st).2 = ([], decide (k - S.n = 1)) := by simp only [gone]; rw [if_neg q]
    rw [e2] at g
    exact Prod.ext (by rw [g.1]; simp) g.2
theorem gone_len (S : Sets) : ∀ (w : List Int) (st : Bool), (gone S w st).1.length ≤ w.length
  | [], _ => Nat.le_refl _
  | k :: w, st => by
    simp only [gone]
    split
    · simpa using gone_len S w st
    · exact Nat.le_succ_of_le (gone_len S w _)
theorem bi_shift {k n : Int} (h0 : ¬ k < n) (h : k < n + 2) : bi (decide (k - n = 1)) = k - n := by
  unfold bi
  by_cases e : k - n = 1
  · rw [if_pos (decide_eq_true e), e]
  · rw [if_neg (by simpa using e)]; omega
theorem idx_first : ∀ {l : List Nat} {c k : Nat}, idx l c = some k → ∀ j, j < k → l[j]? ≠ some c
  | x :: r, c, k, h, j, hj => by
    simp only [idx] at h
    by_cases e : x = c
    · rw [if_pos e] at h; cases h; omega
    · rw [if_neg e] at h
      cases q : idx r c with
      | none => rw [q] at h; cases h
      | some i =>
        rw [q] at h
        have h' : i + 1 = k := Option.some.inj h
        cases j with
        | zero => intro z; exact e (Option.some.inj z)
        | succ j => intro z; exact idx_first q j (by omega) (by simpa using z)
theorem occ_at {l : List Nat} {c i : Nat} : PySem.StrLaws.At (tx l) (sg c) (tx l).length i ↔ l[i]? = some c := by
  rw [TL.at_iff (x := tx l) (y := sg c) (by show ([c] : List Nat) ≠ []; simp)]
  show ((tx l).cps.toList.drop i).take 1 == [c] ↔ _
  rw [tx_cps]
  constructor
  · intro h
    have h' : (l.drop i).take 1 = [c] := eq_of_beq h
    have : ((l.drop i).take 1)[0]? = some c := by rw [h']; rfl
    rw [List.getElem?_take_of_lt (by omega), List.getElem?_drop] at this
    simpa using this
  · intro h
    have hl : i < l.length := (List.getElem?_eq_some_iff.mp h).1
    rw [List.drop_eq_getElem_cons hl]
    have : l[i] = c := by rw [List.getElem?_eq_getElem hl] at h; exact Option.some.inj h
    simp [this]
theorem occ_idx {l : List Nat} {c k : Nat} (h : idx l c = some k) : ∃ rest, Builtin.Str.occurrences (tx l) (sg c) 0 (tx l).length 1 = k :: rest := by
  rcases PySem.StrLaws.occ_head (tx l) (sg c) 1 (Nat.le_refl _) with ⟨_, hn⟩ | ⟨i, r, e, hi, hn⟩
  · exact absurd (occ_at.mpr (idx_get h)) (hn k)
  · have h1 := occ_at.mp hi
    have : i = k := by
      rcases Nat.lt_trichotomy i k with z | z | z
      · exact absurd h1 (idx_first h i z)
      · exact z
      · exact absurd (occ_at.mpr (idx_get h)) (hn k z)
    rw [← this]
    exact ⟨r, e⟩
theorem mem_idx {l : List Nat} {c : Nat} : c ∈ l ↔ (idx l c).isSome = true := by
  constructor
  · intro h
    obtain ⟨k, e⟩ := idx_mem h
    rw [e]; rfl
  · intro h
    obtain ⟨k, e⟩ := Option.isSome_iff_exists.mp h
    exact idx_mem_of e

section
variable {P : Program} {w : World} {K : PySem.W.Frag} {mg : Str → Option Value} {base : Heap}
/-! ### need_tape -/
theorem scNT : FnScope ["sets", "tape", "at", "code"] ["sets", "tape"] (defScope sNeedTape) := ⟨rfl, rfl, rfl, by decide +kernel, rfl, by decide +kernel, by decide +kernel⟩
def spNeedTape : Sp := fun vs H Q _ => ∃ (a p : Addr) (S : Sets) (wd : List Int), vs = [.ref a, .ref p] ∧ SetsAt H a S ∧ H p = some (.lst (wd.map V.int)) ∧ SOk S ∧ Codes S wd ∧ wd.length ≤ 200 ∧ ∀ H', Same H H' → Q .non H'
theorem ok_need_tape {f : Addr} {fd : FuncData} (F : Fun K "need_tape" "need_tape" sNeedTape f fd) (B : Bt mg) {t : Tok} (mM : mg "MOST_CODES" = some (.int 200 t)) : FnOk P w K mg base CX0 1 f fd ["sets", "tape"] spNeedTape := by
  refine F.ok scNT (fun vs H Q E h => ?_) (fun cdv A outer s H vs Q E hr h => ?_)
  · obtain ⟨a, p, S, wd, rfl, _⟩ := h
    rfl
  obtain ⟨a, p, S, wd, rfl, hS, hp, ok, hc, hl, k⟩ := h
  refine ⟨_, pss_one (ps_for PassesOwn.never rfl (pi_enum (by rfl) B.enumerate (pa_cons (pv 1) pa_nil)) (pg_tup (by rfl) (pgs_cons (pg_name (i := 2) scNT.nd rfl (.inl rfl)) (pgs_cons (pg_name (i := 3) scNT.nd rfl (.inl rfl)) pgs_nil)))
    (pss_one (ps_if (PW.pt (pw_or (pt_cmpR op_ge (pv 2) (pe_glob (v := .int 200) (by rfl) mM ⟨_, rfl⟩) (nomark _))
      (pw_or1 (pt_not (pt_chain op_le op_lt pe_int (pv 3) (pe_op op_add (pe_callB call_len_str (by rfl) B.len PySem.boot_len (pa_cons (pe_ix ix_tup (pv 0) pe_int (fun _ _ => rfl)) pa_nil)) pe_int)))))) (pss_one ps_never) pss_nil))), ?_⟩
  refine ⟨_, rfl, p, _, rfl, SqL.of hp, for_it walk_enum (fun i σ H' => ∃ v2 v3, σ = [some (.ref a), some (.ref p), v2, v3] ∧ Same H H') ⟨none, none, rfl, Same.refl H⟩ (fun i σ H' _ ⟨_, _, _, s⟩ => SqL.of (s _ _ hp)) ?_ ?_⟩
  · rintro i x σ H1 H2 hi ⟨v2, v3, rfl, s1⟩ ⟨T, x1, x2, rfl, nT, rfl, e1, e2⟩
    obtain rfl : V.int (i : Nat) = x1 := Option.some.inj e1
    obtain ⟨c, rfl, e3⟩ := ints_at e2
    have s2 : Same H (upd H1 T (.tup [.int (i : Nat), .int c])) := s1.trans (same_upd nT)
    obtain ⟨c0, c1⟩ := hc c (List.mem_of_getElem? e3)
    have hi' : i < wd.length := (List.getElem?_eq_some_iff.mp e3).1
    have z1 : (tx S.one).length ≤ sizeLine := tx_le (by have := ok.hi; omega)
    refine ⟨T, _, rfl, SqT.of upd_same, rfl, _, _, rfl, _, _, rfl, rfl, ?_⟩
    refine ⟨_, rfl, _, _, rfl, rfl, _, rfl, ifDN (by omega) ?_⟩
    refine ⟨_, rfl, _, _, rfl, rfl, _, rfl, ifD c0 ⟨_, rfl, a, _, _, _, rfl, rfl, SqT.of (keepS s2 hS), atI_nat (j := 0) rfl, _, rfl, z1, _, _, rfl, rfl, _, _, rfl, rfl, _, rfl, ?_⟩⟩
    refine ifN (by rw [tx_len]; exact c1) ?_
    exact ⟨_, _, rfl, s2⟩
  · rintro σ H1 ⟨v2, v3, rfl, s1⟩
    exact k H1 s1
/-! ### need_state -/
theorem scNst : FnScope ["state"] ["state"] (defScope sNeedState) := ⟨rfl, rfl, rfl, by decide +kernel, rfl, by decide +kernel, by decide +kernel⟩
def spNeedState : Sp := fun vs H Q _ => ∃ (st : Bool), vs = [.int (bi st)] ∧ ∀ H', Same H H' → Q .non H'
theorem ok_need_state {f : Addr} {fd : FuncData} (F : Fun K "need_state" "need_state" sNeedState f fd) : FnOk P w K mg base CX0 1 f fd ["state"] spNeedState := by
  refine F.ok scNst (fun vs H Q E h => ?_) (fun cdv A outer s H vs Q E hr h => ?_)
  · obtain ⟨st, rfl, _⟩ := h
    rfl
  obtain ⟨st, rfl, k⟩ := h
  refine ⟨_, pss_one (ps_if (pt_cmpR op_notIn_seq (pv 0) (pe_tup (pa_cons pe_int (pa_cons pe_int pa_nil))) (by rfl)) (pss_one ps_never) pss_nil), ?_⟩
  refine ⟨_, rfl, (by show 2 ≤ sizeLine; decide), fun T nT => ?_⟩
  refine ⟨T, _, rfl, .inr (SqT.of upd_same), rfl, rfl, _, rfl, ?_⟩
  have e : inV (.int (bi st)) [.int 0, .int 1] = true := by cases st <;> rfl
  rw [e]
  refine iteF ?_
  exact k _ (same_upd nT)
/-! ### need_all -/
theorem scNA : FnScope ["sets", "tape", "state"] ["sets", "tape", "state"] (defScope sNeedAll) := ⟨rfl, rfl, rfl, by decide +kernel, rfl, by decide +kernel, by decide +kernel⟩
def spNeedAll : Sp := fun vs H Q _ => ∃ (a p : Addr) (S : Sets) (wd : List Int) (st : Bool), vs = [.ref a, .ref p, .int (bi st)] ∧ SetsAt H a S ∧ H p = some (.lst (wd.map V.int)) ∧ SOk S ∧ Codes S wd ∧ wd.length ≤ 200 ∧ ∀ H', Same H H' → Q .non H'
theorem ok_need_all {f f1 f2 f3 : Addr} {fd d1 d2 d3 : FuncData} (F : Fun K "need_all" "need_all" sNeedAll f fd)
    (G1 : FnOk P w K mg base CX0 1 f1 d1 ["sets"] spNeedSets) (m1 : mg "need_sets" = some (.ref f1)) (k1 : PySem.W.keepIn K (.ref f1) = true) (b1 : Binds K d1 ["sets"] [])
    (G2 : FnOk P w K mg base CX0 1 f2 d2 ["sets", "tape"] spNeedTape) (m2 : mg "need_tape" = some (.ref f2)) (k2 : PySem.W.keepIn K (.ref f2) = true) (b2 : Binds K d2 ["sets", "tape"] [])
    (G3 : FnOk P w K mg base CX0 1 f3 d3 ["state"] spNeedState) (m3 : mg "need_state" = some (.ref f3)) (k3 : PySem.W.keepIn K (.ref f3) = true) (b3 : Binds K d3 ["state"] []) :
    FnOk P w K mg base CX0 2 f fd ["sets", "tape", "state"] spNeedAll := by
  refine F.ok scNA (fun vs H Q E h => ?_) (fun cdv A outer s H vs Q E hr h => ?_)
  · obtain ⟨a, p, S, wd, st, rfl, _⟩ := h
    rfl
  obtain ⟨a, p, S, wd, st, rfl, hS, hp, ok, hc, hl, k⟩ := h
  refine ⟨_, pss_cons (ps_expr (pe_call G1 hr (by rfl) m1 k1 b1 .nil pass0 (pa_cons (pv 0) pa_nil)))
    (pss_cons (ps_expr (pe_call G2 hr (by rfl) m2 k2 b2 .nil pass0 (pa_cons (pv 0) (pa_cons (pv 1) pa_nil))))
    (pss_one (ps_expr (pe_call G3 hr (by rfl) m3 k3 b3 .nil pass0 (pa_cons (pv 2) pa_nil))))), ?_⟩
  refine ⟨_, rfl, a, S, rfl, hS, ok, fun H1 s1 => ?_⟩
  refine ⟨_, rfl, _, rfl, a, p, S, wd, rfl, keepS s1 hS, s1 _ _ hp, ok, hc, hl, fun H2 s2 => ?_⟩
  exact ⟨_, rfl, st, rfl, fun H3 s3 => k H3 (s1.trans (s2.trans s3))⟩
/-! ### is_common -/
theorem scIC : FnScope ["sets", "code"] ["sets", "code"] (defScope sIsCommon) := ⟨rfl, rfl, rfl, by decide +kernel, rfl, by decide +kernel, by decide +kernel⟩
def spIsCommon : Sp := fun vs H Q _ => ∃ (a : Addr) (S : Sets) (k : Nat), vs = [.ref a, .int k] ∧ SetsAt H a S ∧ SOk S ∧ (k : Int) < S.n ∧ Q (.bl (common S k)) H
theorem ok_is_common {f : Addr} {fd : FuncData} (F : Fun K "is_common" "is_common" sIsCommon f fd) : FnOk P w K mg base CX0 1 f fd ["sets", "code"] spIsCommon := by
  refine F.ok scIC (fun vs H Q E h => ?_) (fun cdv A outer s H vs Q E hr h => ?_)
  · obtain ⟨a, S, k, rfl, _⟩ := h
    rfl
  obtain ⟨a, S, k, rfl, hS, ok, hk, q⟩ := h
  refine ⟨_, pss_one (ps_ret (pe_cmpR op_eq (pe_ix ix_str (pe_ix ix_tup (pv 0) pe_int (fun _ _ => rfl)) (pv 1) (fun _ _ => rfl)) (pe_ix ix_str (pe_ix ix_tup (pv 0) pe_int (fun _ _ => rfl)) (pv 1) (fun _ _ => rfl)) (nomark _))), ?_⟩
  have l2 := ok.hi
  have l3 := ok.ev.len
  have z1 : (tx S.one).length ≤ sizeLine := tx_le (by omega)
  have z2 : (tx S.two).length ≤ sizeLine := tx_le (by omega)
  have g1 := at_tx (Int.natCast_nonneg k) (get_row ok false (Int.natCast_nonneg k) hk)
  have g2 := at_tx (Int.natCast_nonneg k) (get_row ok true (Int.natCast_nonneg k) hk)
  refine ⟨_, rfl, a, _, _, _, rfl, rfl, SqT.of hS, atI_nat (j := 0) rfl, _, rfl, _, _, _, rfl, rfl, z1, g1, ?_⟩
  refine ⟨_, rfl, a, _, _, _, rfl, rfl, SqT.of hS, atI_nat (j := 1) rfl, _, rfl, _, _, _, rfl, rfl, z2, g2, rfl, ?_⟩
  have e : decide (V.str ⟨#[(S.row false).getD (k : Int).toNat 0]⟩ = V.str ⟨#[(S.row true).getD (k : Int).toNat 0]⟩) = common S k := by
    unfold common
    refine decide_eq_decide.mpr ⟨fun h => ?_, fun h => ?_⟩
    · have h1 := V.str.inj h
      have h2 := congrArg (fun z : Str => z.cps.toList) h1
      exact (List.cons.inj h2).1
    · show V.str ⟨#[S.one.getD k 0]⟩ = V.str ⟨#[S.two.getD k 0]⟩
      rw [h]
  rw [e]
  exact q
end
end SR

namespace SR
open PySem PySem.Spec PyProof.Rows L2
def cv : Option Nat → V
  | none => .non
  | some k => .int k
section
variable {P : Program} {w : World} {K : PySem.W.Frag} {mg : Str → Option Value} {base : Heap}
/-! ### gone -/
theorem scG : FnScope ["sets", "tape", "state", "many", "found", "code"] ["sets", "tape", "state"] (defScope sGone) := ⟨rfl, rfl, rfl, by decide +kernel, rfl, by decide +kernel, by decide +kernel⟩
def spGone : Sp := fun vs H Q _ => ∃ (a p : Addr) (S : Sets) (wd : List Int) (st : Bool), vs = [.ref a, .ref p, .int (bi st)] ∧ SetsAt H a S ∧ H p = some (.lst (wd.map V.int)) ∧ SOk S ∧ Codes S wd ∧ wd.length ≤ 1000 ∧
  ∀ H' r, Same H H' → H' r = some (.tup [.str (tx (gone S wd st).1), .int (bi (gone S wd st).2)]) → Q (.ref r) H'
theorem ok_gone {f : Addr} {fd : FuncData} (F : Fun K "gone" "gone" sGone f fd) (B : Bt mg) : FnOk P w K mg base CX0 1 f fd ["sets", "tape", "state"] spGone := by
  refine F.ok scG (fun vs H Q E h => ?_) (fun cdv A outer s H vs Q E hr h => ?_)
  · obtain ⟨a, p, S, wd, st, rfl, _⟩ := h
    rfl
  obtain ⟨a, p, S, wd, st, rfl, hS, hp, ok, hc, hl, k⟩ := h
  refine ⟨_, pss_cons (ps_set (i := 3) scG.nd rfl (.inl rfl) (pe_callB call_len_str (by rfl) B.len PySem.boot_len (pa_cons (pe_ix ix_tup (pv 0) pe_int (fun _ _ => rfl)) pa_nil)))
    (pss_cons (ps_set (i := 4) scG.nd rfl (.inl rfl) pe_str)
    (pss_cons (ps_for PassesOwn.never rfl (pi_list (pv 1)) (pg_name (i := 5) scG.nd rfl (.inl rfl))
      (pss_one (ps_if (pt_cmpR op_lt (pv 5) (pv 3) (nomark _))
        (pss_one (ps_set (i := 4) scG.nd rfl (.inl rfl) (pe_op op_add_str (pv 4) (pe_ix ix_str (pe_ix ix_tup (pv 0) (pv 2) (fun _ _ => rfl)) (pv 5) (fun _ _ => rfl)))))
        (pss_one (ps_set (i := 2) scG.nd rfl (.inl rfl) (pe_op op_sub (pv 5) (pv 3)))))))
    (pss_one (ps_ret (pe_tup (pa_cons (pv 4) (pa_cons (pv 2) pa_nil))))))), ?_⟩
  have l2 := ok.hi
  have l3 := ok.ev.len
  have zr : ∀ x, (tx (S.row x)).length ≤ sizeLine := fun x => tx_le (by have := ok.ev.row x; unfold Sets.n at this; omega)
  have en : V.int ((tx S.one).length : Int) = .int S.n := by rw [tx_len]; rfl
  refine ⟨_, rfl, a, _, _, _, rfl, rfl, SqT.of hS, atI_nat (j := 0) rfl, _, rfl, zr false, ?_⟩
  rw [en]
  refine ⟨_, rfl, p, rfl, ⟨_, SqL.of hp⟩, for_list (K := K) (a := p) (xs := wd.map V.int) (fun i σ H' => H' = H ∧ ∃ v5, σ = [some (.ref a), some (.ref p), some (.int (bi (gone S (wd.take i) st).2)), some (.int S.n), some (.str (tx (gone S (wd.take i) st).1)), v5])
    ⟨rfl, none, rfl⟩ (fun i σ H' _ ⟨e, _⟩ => by rw [e]; exact SqL.of hp) ?_ ?_⟩
  · rintro i x σ H1 hx ⟨rfl, v5, rfl⟩
    obtain ⟨c, rfl, e3⟩ := ints_at hx
    obtain ⟨c0, c1⟩ := hc c (List.mem_of_getElem? e3)
    have hg := gone_take (S := S) e3 st
    have hlen := gone_len S (wd.take i) st
    have hlen2 : (wd.take i).length ≤ 1000 := by rw [List.length_take]; omega
    refine ⟨_, rfl, _, rfl, _, _, rfl, rfl, _, rfl, ite2 (fun e => ?_) (fun e => ?_)⟩
    · have e' := of_decide_eq_true e
      rw [if_pos e'] at hg
      refine ⟨_, rfl, _, rfl, _, rfl, a, _, _, _, rfl, rfl, SqT.of hS, at_row _, _, rfl, _, _, _, rfl, rfl, zr _, at_tx c0 (get_row ok _ c0 e'), _, _, rfl, rfl, ?_, rfl, some (.int c), ?_⟩
      · rw [tx_len]
        exact sm (by show _ + 1 ≤ _; omega)
      · rw [hg]
        show [some (V.ref a), some (V.ref p), some (V.int _), some (V.int S.n), some (V.str (tx (gone S (wd.take i) st).1 ++ tx [(S.row (gone S (wd.take i) st).2).getD c.toNat 0])), some (V.int c)] = _
        rw [tx_app]
    · have e' := of_decide_eq_false (Bool.eq_false_iff.mpr e)
      rw [if_neg e'] at hg
      refine ⟨_, rfl, _, rfl, _, _, rfl, rfl, rfl, some (.int c), ?_⟩
      rw [hg]
      show [some (V.ref a), some (V.ref p), some (V.int (c - S.n)), some (V.int S.n), some (V.str (tx (gone S (wd.take i) st).1)), some (V.int c)] = _
      rw [bi_shift e' c1]
  · rintro σ H1 ⟨rfl, v5, rfl⟩
    refine ⟨_, rfl, _, rfl, (by show 2 ≤ sizeLine; decide), fun r nr => ?_⟩
    have et : (wd.take (wd.map V.int).length) = wd := by rw [List.length_map]; exact List.take_length
    rw [et]
    exact k _ r (same_upd nr) upd_same
/-! ### read -/
theorem scR : FnScope ["sets", "tape", "state"] ["sets", "tape", "state"] (defScope sRead) := ⟨rfl, rfl, rfl, by decide +kernel, rfl, by decide +kernel, by decide +kernel⟩
def spRead : Sp := fun vs H Q _ => ∃ (a p : Addr) (S : Sets) (wd : List Int) (st : Bool), vs = [.ref a, .ref p, .int (bi st)] ∧ SetsAt H a S ∧ H p = some (.lst (wd.map V.int)) ∧ SOk S ∧ Codes S wd ∧ wd.length ≤ 200 ∧
  ∀ H' r, Same H H' → H' r = some (.tup [.str (tx (gone S wd st).1), .int (bi (gone S wd st).2)]) → Q (.ref r) H'
theorem ok_read {f f1 f2 : Addr} {fd d1 d2 : FuncData} (F : Fun K "read" "read" sRead f fd)
    (G1 : FnOk P w K mg base CX0 2 f1 d1 ["sets", "tape", "state"] spNeedAll) (m1 : mg "need_all" = some (.ref f1)) (k1 : PySem.W.keepIn K (.ref f1) = true) (b1 : Binds K d1 ["sets", "tape", "state"] [])
    (G2 : FnOk P w K mg base CX0 1 f2 d2 ["sets", "tape", "state"] spGone) (m2 : mg "gone" = some (.ref f2)) (k2 : PySem.W.keepIn K (.ref f2) = true) (b2 : Binds K d2 ["sets", "tape", "state"] []) :
    FnOk P w K mg base CX0 3 f fd ["sets", "tape", "state"] spRead := by
  refine F.ok scR (fun vs H Q E h => ?_) (fun cdv A outer s H vs Q E hr h => ?_)
  · obtain ⟨a, p, S, wd, st, rfl, _⟩ := h
    rfl
  obtain ⟨a, p, S, wd, st, rfl, hS, hp, ok, hc, hl, k⟩ := h
  refine ⟨_, pss_cons (ps_expr (pe_call G1 hr (by rfl) m1 k1 b1 .nil pass0 (pa_cons (pv 0) (pa_cons (pv 1) (pa_cons (pv 2) pa_nil)))))
    (pss_one (ps_ret (pe_call G2 (hr.mono (by decide)) (by rfl) m2 k2 b2 .nil pass0 (pa_cons (pv 0) (pa_cons (pv 1) (pa_cons (pv 2) pa_nil)))))), ?_⟩
  refine ⟨_, rfl, _, rfl, _, rfl, a, p, S, wd, st, rfl, hS, hp, ok, hc, hl, fun H1 s1 => ?_⟩
  exact ⟨_, rfl, _, rfl, _, rfl, a, p, S, wd, st, rfl, keepS s1 hS, s1 _ _ hp, ok, hc, by omega, fun H' r s2 hr2 => k H' r (s1.trans s2) hr2⟩
/-! ### codes_of -/
theorem scCO : FnScope ["sets", "sign", "row"] ["sets", "sign"] (defScope sCodesOf) := ⟨rfl, rfl, rfl, by decide +kernel, rfl, by decide +kernel, by decide +kernel⟩
def spCodesOf : Sp := fun vs H Q _ => ∃ (a : Addr) (S : Sets) (c : Nat), vs = [.ref a, .str (sg c)] ∧ SetsAt H a S ∧ SOk S ∧
  ∀ H' r, Same H H' → H' r = some (.lst [cv (idx S.one c), cv (idx S.two c)]) → Q (.ref r) H'
theorem ok_codes_of {f : Addr} {fd : FuncData} (F : Fun K "codes_of" "codes_of" sCodesOf f fd) : FnOk P w K mg base CX0 1 f fd ["sets", "sign"] spCodesOf := by
  refine F.ok scCO (fun vs H Q E h => ?_) (fun cdv A outer s H vs Q E hr h => ?_)
  · obtain ⟨a, S, c, rfl, _⟩ := h
    rfl
  obtain ⟨a, S, c, rfl, hS, ok, k⟩ := h
  refine ⟨_, pss_one (ps_ret (pe_lc (own := [("row", 2)]) (g := gName 2) (tt := tYes) rfl scCO.nd (pi_tup (pv 0)) (blkOk_by (own := [("row", 2)]) (N := ["sets", "sign", "row"]) (sc := defScope sCodesOf) (by decide +kernel)) (fun _ _ _ _ _ => pg_name (i := 2) scCO.nd rfl (Or.inl rfl)) (fun _ _ _ _ _ => pts_nil)
    (fun _ _ _ _ _ => pe_ifExp (pt_cmpR op_in_sign (pv 1) (pv 2) (by rfl)) (pe_m1 PySem.F.slot_str_index PySem.F.type_str_index mt_index1 (pv 2) (pv 1)) pe_non))), ?_⟩
  refine ⟨_, rfl, a, rfl, ⟨_, SqT.of hS⟩, fun D nD => lc_tup (K := K) (a := a) (xs := [.str (tx S.one), .str (tx S.two)]) (fun i H' => Same H H' ∧ H' D = some (.lst ([cv (idx S.one c), cv (idx S.two c)].take i)))
    ⟨same_upd nD, upd_same⟩ (fun i H' _ ⟨s, _⟩ => SqT.of (keepS s hS)) ?_ ?_⟩
  · rintro i x H1 hx ⟨s1, hD⟩
    have hb : i < 2 := (List.getElem?_eq_some_iff.mp hx).1
    obtain ⟨l, rfl, el⟩ : ∃ l : List Nat, x = .str (tx l) ∧ ([cv (idx S.one c), cv (idx S.two c)].take i) ++ [cv (idx l c)] = [cv (idx S.one c), cv (idx S.two c)].take (i + 1) := by
      rcases (show i = 0 ∨ i = 1 by omega) with rfl | rfl
      · exact ⟨S.one, (Option.some.inj hx).symm, rfl⟩
      · exact ⟨S.two, (Option.some.inj hx).symm, rfl⟩
    have fin : ∀ v, v = cv (idx l c) → ∃ acc, H1 D = some (.lst acc) ∧ acc.length < sizeLine ∧ Same H (upd H1 D (.lst (acc ++ [v]))) ∧ (upd H1 D (.lst (acc ++ [v]))) D = some (.lst ([cv (idx S.one c), cv (idx S.two c)].take (i + 1))) := fun v e => by
      refine ⟨_, hD, sm' (by rw [List.length_take]; exact Nat.le_trans (Nat.min_le_right _ _) (show 2 ≤ 16000000 by decide)), fun b o q => ?_, ?_⟩
      · rw [upd_ne (ne_of_none q nD)]; exact s1 b o q
      · rw [upd_same, e, el]
    refine ⟨rfl, _, rfl, _, rfl, _, _, rfl, rfl, _, rfl, ite2 (fun e => ?_) (fun e => ?_)⟩
    · have e' : c ∈ l := by have := of_decide_eq_true e; rwa [tx_cps] at this
      obtain ⟨k, hk⟩ := idx_mem e'
      obtain ⟨rest, ho⟩ := occ_idx hk
      exact ⟨_, rfl, ⟨_, rfl⟩, _, rfl, _, _, k, rest, rfl, rfl, ho, fin _ (by rw [hk]; rfl)⟩
    · have e' : c ∉ l := by
        have := of_decide_eq_false (Bool.eq_false_iff.mpr e)
        rwa [tx_cps] at this
      exact fin _ (by rw [idx_none e']; rfl)
  · rintro H1 ⟨s1, hD⟩
    exact k H1 D s1 hD
end
end SR

namespace SR
open PySem PySem.Spec PyProof.Rows L2
def cD : Option Nat → PyData
  | none => .none
  | some k => .int k
theorem dp_cv {K : PySem.W.Frag} {H : Hp} (o : Option Nat) : Dp K H (cv o) (cD o) := by
  cases o with
  | none => exact .non
  | some k => exact .int k
/-- a tape, or None -/
def OptAt (H : Hp) (x : V) : Option (List Int) → Prop
  | none => x = .non
  | some w => ∃ p, x = .ref p ∧ H p = some (.lst (w.map V.int))
theorem keepO {H H' : Hp} (s : Same H H') {x : V} {o : Option (List Int)} (h : OptAt H x o) : OptAt H' x o := by
  cases o with
  | none => exact h
  | some w => obtain ⟨p, e, hp⟩ := h; exact ⟨p, e, s _ _ hp⟩
section
variable {P : Program} {w : World} {K : PySem.W.Frag} {mg : Str → Option Value} {base : Heap}
/-! ### need_text -/
theorem scNX : FnScope ["sets", "text", "at", "sign"] ["sets", "text"] (defScope sNeedText) := ⟨rfl, rfl, rfl, by decide +kernel, rfl, by decide +kernel, by decide +kernel⟩
def spNeedText : Sp := fun vs H Q _ => ∃ (a : Addr) (S : Sets) (t : List Nat), vs = [.ref a, .str (tx t)] ∧ SetsAt H a S ∧ SOk S ∧ Stands S t ∧ ∀ H', Same H H' → Q .non H'
theorem ok_need_text {f f1 : Addr} {fd d1 : FuncData} (F : Fun K "need_text" "need_text" sNeedText f fd) (B : Bt mg)
    (G1 : FnOk P w K mg base CX0 1 f1 d1 ["sets", "sign"] spCodesOf) (m1 : mg "codes_of" = some (.ref f1)) (k1 : PySem.W.keepIn K (.ref f1) = true) (b1 : Binds K d1 ["sets", "sign"] []) :
    FnOk P w K mg base CX0 2 f fd ["sets", "text"] spNeedText := by
  refine F.ok scNX (fun vs H Q E h => ?_) (fun cdv A outer s H vs Q E hr h => ?_)
  · obtain ⟨a, S, t, rfl, _⟩ := h
    rfl
  obtain ⟨a, S, t, rfl, hS, ok, hst, k⟩ := h
  refine ⟨_, pss_one (ps_for PassesOwn.never rfl (pi_enumS (by rfl) B.enumerate (pa_cons (pv 1) pa_nil)) (pg_tup (by rfl) (pgs_cons (pg_name (i := 2) scNX.nd rfl (.inl rfl)) (pgs_cons (pg_name (i := 3) scNX.nd rfl (.inl rfl)) pgs_nil)))
    (pss_one (ps_if (pt_cmpR (op_eqD hr.units) (pe_call G1 hr (by rfl) m1 k1 b1 .nil pass0 (pa_cons (pv 0) (pa_cons (pv 3) pa_nil))) (pe_lst (pa_cons pe_non (pa_cons pe_non pa_nil))) (nomark _)) (pss_one ps_never) pss_nil))), ?_⟩
  refine ⟨_, rfl, _, rfl, for_it walk_enumS (fun i σ H' => ∃ v2 v3, σ = [some (.ref a), some (.str (tx t)), v2, v3] ∧ Same H H') ⟨none, none, rfl, Same.refl H⟩ (fun _ _ _ _ _ => trivial) ?_ ?_⟩
  · rintro i x σ H1 H2 hi ⟨v2, v3, rfl, s1⟩ ⟨T, c, rfl, nT, rfl, ec⟩
    have s2 : Same H (upd H1 T (.tup [.int (i : Nat), .str ⟨#[c]⟩])) := s1.trans (same_upd nT)
    have hc : c ∈ t := by
      rw [← Array.getElem?_toList, tx_cps] at ec
      exact List.mem_of_getElem? ec
    obtain ⟨st, hr0⟩ := hst c hc
    refine ⟨T, _, rfl, SqT.of upd_same, rfl, _, _, rfl, _, _, rfl, rfl, ?_⟩
    refine ⟨_, rfl, _, rfl, a, S, c, rfl, keepS s2 hS, ok, fun H3 r s3 hr3 => ⟨(by show 2 ≤ sizeLine; decide), fun T2 n2 => ?_⟩⟩
    have s4 := same_upd (o := .lst [.non, .non]) n2
    refine ⟨.list [cD (idx S.one c), cD (idx S.two c)], .list [.none, .none], .lst (SqL.of (s4 _ _ hr3)) (.cons (dp_cv _) (.cons (dp_cv _) .nil)), .lst (SqL.of upd_same) (.cons .non (.cons .non .nil)), ?_, rfl, _, rfl, ?_⟩
    · cases idx S.one c <;> cases idx S.two c <;> rfl
    · have e : PyData.eqv (.list [cD (idx S.one c), cD (idx S.two c)]) (.list [.none, .none]) = false := by
        obtain ⟨j, hj⟩ := idx_mem hr0
        cases st
        · rw [show idx S.one c = some j from hj]
          simp [PyData.eqv, PyData.eqvAll, cD]
        · rw [show idx S.two c = some j from hj]
          cases idx S.one c <;> simp [PyData.eqv, PyData.eqvAll, cD]
      rw [e]
      refine iteF ?_
      exact ⟨_, _, rfl, s2.trans (s3.trans s4)⟩
  · rintro σ H1 ⟨v2, v3, rfl, s1⟩
    exact k H1 s1
/-! ### shorter -/
theorem scSh : FnScope ["one", "other"] ["one", "other"] (defScope sShorter) := ⟨rfl, rfl, rfl, by decide +kernel, rfl, by decide +kernel, by decide +kernel⟩
def spShorter : Sp := fun vs H Q _ => ∃ (x y : V) (o o' : Option (List Int)), vs = [x, y] ∧ OptAt H x o ∧ OptAt H y o' ∧ ∀ H' r, Same H H' → OptAt H' r (shorter o o') → r = x ∨ r = y → Q r H'
theorem ok_shorter {f : Addr} {fd : FuncData} (F : Fun K "shorter" "shorter" sShorter f fd) (B : Bt mg) : FnOk P w K mg base CX0 1 f fd ["one", "other"] spShorter := by
  refine F.ok scSh (fun vs H Q E h => ?_) (fun cdv A outer s H vs Q E hr h => ?_)
  · obtain ⟨x, y, o, o', rfl, _⟩ := h
    rfl
  obtain ⟨x, y, o, o', rfl, hx, hy, k⟩ := h
  refine ⟨_, pss_cons (ps_if (PW.pt (pw_or (pt_cmp (pc_isN (pv 0))) (pw_or1 (pt_cmp (pc_isN (pv 1)))))) (pss_one (ps_ret (pe_ifExp (pt_cmp (pc_isN (pv 1))) (pv 0) (pv 1)))) pss_nil)
    (pss_one (ps_ret (pe_ifExp (pt_cmpR (op_leP hr.units) (pe_tup (pa_cons (pe_callB call_len_seq (by rfl) B.len PySem.boot_len (pa_cons (pv 0) pa_nil)) (pa_cons (pv 0) pa_nil)))
      (pe_tup (pa_cons (pe_callB call_len_seq (by rfl) B.len PySem.boot_len (pa_cons (pv 1) pa_nil)) (pa_cons (pv 1) pa_nil))) (nomark _)) (pv 0) (pv 1)))), ?_⟩
  cases o with
  | none =>
    have ex : x = .non := hx
    subst ex
    refine ⟨_, rfl, _, rfl, ifD rfl ?_⟩
    refine iteT ?_
    cases o' with
    | none =>
      have ey : y = .non := hy
      subst ey
      exact ⟨_, rfl, _, rfl, ifD rfl ⟨_, rfl, k H _ (Same.refl H) hx (.inl rfl)⟩⟩
    | some v =>
      obtain ⟨p, rfl, hp⟩ := id hy
      exact ⟨_, rfl, _, rfl, ifDN (fun e => nomatch e) ⟨_, rfl, k H _ (Same.refl H) hy (.inr rfl)⟩⟩
  | some u =>
    obtain ⟨p, rfl, hp⟩ := id hx
    refine ⟨_, rfl, _, rfl, ifDN (fun e => nomatch e) ?_⟩
    cases o' with
    | none =>
      have ey : y = .non := hy
      subst ey
      refine ⟨_, rfl, _, rfl, ifD rfl ?_⟩
      exact ⟨_, rfl, _, rfl, ifD rfl ⟨_, rfl, k H _ (Same.refl H) hx (.inl rfl)⟩⟩
    | some v =>
      obtain ⟨q, rfl, hq⟩ := id hy
      refine ⟨_, rfl, _, rfl, ifDN (fun e => nomatch e) ?_⟩
      refine ⟨_, rfl, p, _, rfl, .inl (SqL.of hp), _, rfl, (by show 2 ≤ sizeLine; decide), fun T1 n1 => ?_⟩
      have s1 := same_upd (o := .tup [.int ((u.map V.int).length : Nat), .ref p]) n1
      refine ⟨_, rfl, q, _, rfl, .inl (SqL.of (s1 _ _ hq)), _, rfl, (by show 2 ≤ sizeLine; decide), fun T2 n2 => ?_⟩
      have s2 := same_upd (o := .tup [.int ((v.map V.int).length : Nat), .ref q]) n2
      have t1 : (upd (upd H T1 (.tup [.int ((u.map V.int).length : Nat), .ref p])) T2 (.tup [.int ((v.map V.int).length : Nat), .ref q])) T1 = some (.tup [.int (u.length : Nat), .ref p]) := by
        rw [s2 _ _ upd_same, List.length_map]
      have t2 : (upd (upd H T1 (.tup [.int ((u.map V.int).length : Nat), .ref p])) T2 (.tup [.int ((v.map V.int).length : Nat), .ref q])) T2 = some (.tup [.int (v.length : Nat), .ref q]) := by
        rw [upd_same, List.length_map]
      have s3 := s1.trans s2
      refine ⟨T1, T2, p, q, u, v, rfl, rfl, SqT.of t1, SqT.of t2, SqL.of (s3 _ _ hp), SqL.of (s3 _ _ hq), _, rfl, ?_⟩
      cases e : tlt v u with
      | false =>
        refine ⟨_, rfl, k _ _ s3 ?_ (.inl rfl)⟩
        show OptAt _ _ (if tlt v u = false then some u else some v)
        rw [e, if_pos rfl]
        exact keepO s3 hx
      | true =>
        refine ⟨_, rfl, k _ _ s3 ?_ (.inr rfl)⟩
        show OptAt _ _ (if tlt v u = false then some u else some v)
        rw [e, if_neg (by decide)]
        exact keepO s3 hy
end
end SR

namespace SR
open PySem PySem.Spec PyProof.Rows L2
/-! ### the Writer: its attributes -/
theorem n_ts : ¬ (("sets" : Str) = "text") := by decide +kernel
theorem n_ms : ¬ (("sets" : Str) = "most") := by decide +kernel
theorem n_ks : ¬ (("sets" : Str) = "known") := by decide +kernel
theorem n_mt : ¬ (("text" : Str) = "most") := by decide +kernel
theorem n_kt : ¬ (("text" : Str) = "known") := by decide +kernel
theorem n_km : ¬ (("most" : Str) = "known") := by decide +kernel
def fl1 (a : Addr) : List (Str × V) := putF "sets" (.ref a) []
def fl2 (a : Addr) (t : List Nat) : List (Str × V) := putF "text" (.str (tx t)) (fl1 a)
def fl3 (a : Addr) (t : List Nat) (m : Nat) : List (Str × V) := putF "most" (.int m) (fl2 a t)
def flds (a : Addr) (t : List Nat) (m : Nat) (d : Addr) : List (Str × V) := putF "known" (.ref d) (fl3 a t m)
theorem flds_sets (a : Addr) (t : List Nat) (m : Nat) (d : Addr) : (flds a t m d).lookup ("sets" : Str) = some (.ref a) := by
  unfold flds fl3 fl2 fl1
  rw [lookup_putF, if_neg n_ks, lookup_putF, if_neg n_ms, lookup_putF, if_neg n_ts, lookup_putF, if_pos rfl]
theorem flds_text (a : Addr) (t : List Nat) (m : Nat) (d : Addr) : (flds a t m d).lookup ("text" : Str) = some (.str (tx t)) := by
  unfold flds fl3 fl2 fl1
  rw [lookup_putF, if_neg n_kt, lookup_putF, if_neg n_mt, lookup_putF, if_pos rfl]
theorem flds_most (a : Addr) (t : List Nat) (m : Nat) (d : Addr) : (flds a t m d).lookup ("most" : Str) = some (.int m) := by
  unfold flds fl3 fl2 fl1
  rw [lookup_putF, if_neg n_km, lookup_putF, if_pos rfl]
theorem flds_known (a : Addr) (t : List Nat) (m : Nat) (d : Addr) : (flds a t m d).lookup ("known" : Str) = some (.ref d) := by
  unfold flds
  rw [lookup_putF, if_pos rfl]
theorem flds_no (a : Addr) (t : List Nat) (m : Nat) (d : Addr) {x : Str} (h1 : ¬ x = "known") (h2 : ¬ x = "most") (h3 : ¬ x = "text") (h4 : ¬ x = "sets") : (flds a t m d).lookup x = none := by
  unfold flds fl3 fl2 fl1
  rw [lookup_putF, if_neg h1, lookup_putF, if_neg h2, lookup_putF, if_neg h3, lookup_putF, if_neg h4]
  all_goals rfl
theorem putF_len (f : Str) (v : V) : ∀ l : List (Str × V), (putF f v l).length ≤ l.length + 1
  | [] => Nat.le_refl _
  | (g, u) :: l => by
    show (if g = f then (g, v) :: l else (g, u) :: putF f v l).length ≤ _
    split
    · simp
    · have := putF_len f v l
      simpa using this
theorem fl_len (a : Addr) (t : List Nat) (m : Nat) : (fl1 a).length ≤ 1 ∧ (fl2 a t).length ≤ 2 ∧ (fl3 a t m).length ≤ 3 := by
  have h1 := putF_len "sets" (.ref a) []
  have h2 := putF_len "text" (.str (tx t)) (fl1 a)
  have h3 := putF_len "most" (.int m) (fl2 a t)
  have e1 : (fl1 a).length ≤ 1 := h1
  have e2 : (fl2 a t).length ≤ 2 := by unfold fl2; omega
  exact ⟨e1, e2, by unfold fl3; omega⟩
/-! ### the memo -/
def oL : Option Nat → Leaf
  | none => .none
  | some j => .num j
theorem oL_v (o : Option Nat) : leafV (oL o) = cv o := by cases o <;> rfl
def memoK (q : K3) : List Leaf := [.num q.1, .num (bi q.2.1), oL q.2.2]
theorem memoK_v (q : K3) : (memoK q).map leafV = [.int q.1, .int (bi q.2.1), cv q.2.2] := by
  show [V.int _, V.int _, leafV (oL q.2.2)] = _
  rw [oL_v]
def unK : List Leaf → K3
  | [.num a, .num b, l] => (a.toNat, decide (b = 1), match l with | .num j => some j.toNat | _ => none)
  | _ => (0, false, none)
theorem unK_memoK (q : K3) : unK (memoK q) = q := by
  obtain ⟨a, b, o⟩ := q
  show ((a : Int).toNat, decide (bi b = 1), (match oL o with | .num j => some j.toNat | _ => none)) = (a, b, o)
  have h2 : decide (bi b = 1) = b := by cases b <;> rfl
  have h3 : (match oL o with | .num j => some j.toNat | _ => none) = o := by cases o <;> rfl
  rw [h2, h3, Int.toNat_natCast]
theorem memoK_inj {q p : K3} (e : memoK q = memoK p) : q = p := by rw [← unK_memoK q, ← unK_memoK p, e]
/-- where the Writer stands, and what it knows; H0 the heap ahead of its making -/
structure WrAt (P : Program) (w : World) (C : Addr) (H0 : Hp) (S : Sets) (t : List Nat) (most : Nat) (a p d : Addr) (H : Hp) (xs : MTab) : Prop where
  s0 : Same H0 H
  f0 : H0 d = none
  ob : ∃ dx, H p = some (.ins C dx (flds a t most d))
  dc : H d = some (memoO P w d xs)
  sets : SetsAt H a S
  keys : KeysAt H xs
  nd : (xs.map (·.1)).Nodup
  ent : ∀ x ∈ xs, ∃ q wd, x.1 = memoK q ∧ KOk most t q ∧ best S most (t.drop q.1) q.2.1 q.2.2 = some wd ∧ H x.2.2 = some (.lst (wd.map V.int)) ∧ H0 x.2.2 = none
/-- all kept but what the Writer knows -/
def Kp (d : Addr) (H H' : Hp) : Prop := ∀ b o, H b = some o → b ≠ d → H' b = some o
theorem Kp.refl (d : Addr) (H : Hp) : Kp d H H := fun _ _ e _ => e
theorem Kp.trans {d : Addr} {H H' H'' : Hp} (a : Kp d H H') (b : Kp d H' H'') : Kp d H H'' := fun c o e h => b c o (a c o e h) h
theorem Kp.of {d : Addr} {H H' : Hp} (s : Same H H') : Kp d H H' := fun b o e _ => s b o e
section
variable {P : Program} {w : World} {C : Addr} {H0 : Hp} {S : Sets} {t : List Nat} {most : Nat} {a p d : Addr} {H H' : Hp} {xs : MTab}
theorem WrAt.same (W : WrAt P w C H0 S t most a p d H xs) (s : Same H H') : WrAt P w C H0 S t most a p d H' xs where
  s0 := W.s0.trans s
  f0 := W.f0
  ob := let ⟨dx, h⟩ := W.ob; ⟨dx, s _ _ h⟩
  dc := s _ _ W.dc
  sets := keepS s W.sets
  keys := fun x hx => s _ _ (W.keys x hx)
  nd := W.nd
  ent := fun x hx => let ⟨q, wd, h1, h2, h3, h4, h5⟩ := W.ent x hx; ⟨q, wd, h1, h2, h3, s _ _ h4, h5⟩
theorem WrAt.few (W : WrAt P w C H0 S t most a p d H xs) : xs.length ≤ bigK most t := by
  have h1 : ((xs.map (·.1)).map unK).Nodup := nodup_map W.nd fun x hx y hy e => by
    obtain ⟨x', hx', rfl⟩ := List.mem_map.mp hx
    obtain ⟨y', hy', rfl⟩ := List.mem_map.mp hy
    obtain ⟨q, _, ex, _⟩ := W.ent x' hx'
    obtain ⟨q', _, ey, _⟩ := W.ent y' hy'
    rw [ex, ey] at e ⊢
    rw [unK_memoK, unK_memoK] at e
    rw [e]
  have h2 := keys_few (most := most) (t := t) h1 fun q hq => by
    obtain ⟨x, hx, rfl⟩ := List.mem_map.mp hq
    obtain ⟨x', hx', rfl⟩ := List.mem_map.mp hx
    obtain ⟨q, _, ex, hk, _⟩ := W.ent x' hx'
    rw [ex, unK_memoK]
    exact hk
  simpa using h2
theorem getM_mem {k : List Leaf} {v : Addr} : ∀ {xs : MTab}, getM xs k = some v → ∃ x ∈ xs, x.1 = k ∧ x.2.2 = v
  | [], e => by cases e
  | x :: xs, e => by
    by_cases q : x.1 = k
    · have : some x.2.2 = some v := by rw [← e]; simp [getM, List.find?_cons, q]
      exact ⟨x, List.mem_cons_self, q, Option.some.inj this⟩
    · have : getM xs k = some v := by rw [← e]; simp [getM, List.find?_cons, q]
      obtain ⟨y, hy, h⟩ := getM_mem this
      exact ⟨y, List.mem_cons_of_mem _ hy, h⟩
theorem getM_none {k : List Leaf} : ∀ {xs : MTab}, getM xs k = none → k ∉ xs.map (·.1)
  | [], _ => by simp
  | x :: xs, e => by
    by_cases q : x.1 = k
    · exfalso
      have : some x.2.2 = (none : Option Addr) := by rw [← e]; simp [getM, List.find?_cons, q]
      cases this
    · have : getM xs k = none := by rw [← e]; simp [getM, List.find?_cons, q]
      have ih := getM_none this
      intro h
      rcases List.mem_cons.mp (show k ∈ x.1 :: xs.map (·.1) from h) with z | z
      · exact q z.symm
      · exact ih z
theorem getM_app {k : List Leaf} {b v : Addr} : ∀ {xs : MTab}, getM xs k = none → getM (xs ++ [(k, b, v)]) k = some v
  | [], _ => by simp [getM]
  | x :: xs, e => by
    by_cases q : x.1 = k
    · exfalso
      have : some x.2.2 = (none : Option Addr) := by rw [← e]; simp [getM, List.find?_cons, q]
      cases this
    · have e2 : getM xs k = none := by rw [← e]; simp [getM, List.find?_cons, q]
      have ih := getM_app (b := b) (v := v) e2
      rw [← ih]
      simp [getM, List.find?_cons, q]
theorem getM_map {k : List Leaf} {v : Addr} : ∀ {xs : MTab}, (getM xs k).isSome = true → getM (xs.map fun x => if x.1 = k then (x.1, x.2.1, v) else x) k = some v
  | [], e => by cases e
  | x :: xs, e => by
    by_cases q : x.1 = k
    · simp [getM, List.find?_cons, q]
    · have e2 : (getM xs k).isSome = true := by
        have z : getM (x :: xs) k = getM xs k := by simp [getM, List.find?_cons, q]
        rw [← z]; exact e
      have ih := getM_map (v := v) e2
      rw [← ih]
      simp [getM, List.find?_cons, q]
theorem getM_put (xs : MTab) (k : List Leaf) (b v : Addr) : getM (putM xs k b v) k = some v := by
  unfold putM
  by_cases e : (getM xs k).isSome = true
  · rw [if_pos e]; exact getM_map e
  · rw [if_neg e]; exact getM_app (by simpa using e)
theorem mem_putM {xs : MTab} {k : List Leaf} {b v : Addr} {x : List Leaf × Addr × Addr} (h : x ∈ putM xs k b v) : x ∈ xs ∨ (x.1 = k ∧ x.2.2 = v ∧ (x.2.1 = b ∨ ∃ y ∈ xs, y.1 = k ∧ y.2.1 = x.2.1)) := by
  unfold putM at h
  by_cases e : (getM xs k).isSome = true
  · rw [if_pos e] at h
    obtain ⟨y, hy, rfl⟩ := List.mem_map.mp h
    by_cases q : y.1 = k
    · rw [if_pos q]
      exact .inr ⟨q, rfl, .inr ⟨y, hy, q, rfl⟩⟩
    · rw [if_neg q]
      exact .inl hy
  · rw [if_neg e] at h
    rcases List.mem_append.mp h with h | h
    · exact .inl h
    · obtain rfl := List.mem_singleton.mp h
      exact .inr ⟨rfl, rfl, .inl rfl⟩
theorem putM_nd {xs : MTab} (k : List Leaf) (b v : Addr) (h : (xs.map (·.1)).Nodup) : ((putM xs k b v).map (·.1)).Nodup := by
  unfold putM
  by_cases e : (getM xs k).isSome = true
  · rw [if_pos e, List.map_map]
    have : (xs.map ((·.1) ∘ fun x => if x.1 = k then (x.1, x.2.1, v) else x)) = xs.map (·.1) := List.map_congr_left fun x _ => by
      show (if x.1 = k then (x.1, x.2.1, v) else x).1 = x.1
      split <;> rfl
    rw [this]
    exact h
  · rw [if_neg e, List.map_append]
    refine List.nodup_append.mpr ⟨h, by simp, fun x hx y hy z => ?_⟩
    subst z
    obtain rfl := List.mem_singleton.mp (show x ∈ [k] from hy)
    exact getM_none (by simpa using e) hx
/-- one more is known -/
theorem WrAt.put (W : WrAt P w C H0 S t most a p d H xs) {q : K3} {b v : Addr} {wd : List Int} (hk : KOk most t q) (hb : best S most (t.drop q.1) q.2.1 q.2.2 = some wd)
    (eb : H b = some (.tup ((memoK q).map leafV))) (ev : H v = some (.lst (wd.map V.int))) (fv : H0 v = none) :
    WrAt P w C H0 S t most a p d (upd H d (memoO P w d (putM xs (memoK q) b v))) (putM xs (memoK q) b v) := by
  have kp : ∀ c o, H c = some o → (∀ f, o ≠ .ext f) → upd H d (memoO P w d (putM xs (memoK q) b v)) c = some o := fun c o e ho => by
    rw [upd_ne]
    · exact e
    · intro z
      subst z
      rw [W.dc] at e
      exact ho _ (Option.some.inj e).symm
  refine ⟨fun c o e => ?_, W.f0, ?_, upd_same, kp _ _ W.sets (fun f z => nomatch z), ?_, putM_nd _ _ _ W.nd, ?_⟩
  · rw [upd_ne (ne_of_none e W.f0)]
    exact W.s0 _ _ e
  · obtain ⟨dx, h⟩ := W.ob
    exact ⟨dx, kp _ _ h (fun f z => nomatch z)⟩
  · intro x hx
    rcases mem_putM hx with h | ⟨h1, h2, h3⟩
    · exact kp _ _ (W.keys x h) (fun f z => nomatch z)
    · refine kp _ _ ?_ (fun f z => nomatch z)
      rw [h1]
      rcases h3 with h | ⟨y, hy, e1, e2⟩
      · rw [h]; exact eb
      · rw [← e2, ← e1]; exact W.keys y hy
  · intro x hx
    rcases mem_putM hx with h | ⟨h1, h2, h3⟩
    · obtain ⟨q', wd', h1, h2, h3, h4, h5⟩ := W.ent x h
      exact ⟨q', wd', h1, h2, h3, kp _ _ h4 (fun f z => nomatch z), h5⟩
    · rw [h2]
      exact ⟨q, wd, h1, hk, hb, kp _ _ ev (fun f z => nomatch z), fv⟩
end
/-- a value that H0 has not yet -/
def Fr (H0 : Hp) (x : V) : Prop := ∀ q, x = .ref q → H0 q = none
section
variable {P : Program} {w : World} {K : PySem.W.Frag} {mg : Str → Option Value} {base : Heap}
/-- the class as the top made it -/
structure WTxt (K : PySem.W.Frag) (C : Addr) : Prop where
  cl : Cls K C
  nS : NoAttr K C "sets"
  nT : NoAttr K C "text"
  nM : NoAttr K C "most"
  nK : NoAttr K C "known"
/-! ### __init__ -/
theorem scWI : FnScope ["self", "sets", "text", "most"] ["self", "sets", "text", "most"] (defScope sWInit) := ⟨rfl, rfl, rfl, by decide +kernel, rfl, by decide +kernel, by decide +kernel⟩
def spWInit (P : Program) (w : World) (C : Addr) : Sp := fun vs H Q _ => ∃ (p dx a : Addr) (S : Sets) (t : List Nat) (most : Nat), vs = [.ref p, .ref a, .str (tx t), .int most] ∧ H p = some (.ins C dx []) ∧ SetsAt H a S ∧
  ∀ (d : Addr) (H' : Hp), H d = none → (∀ b o, H b = some o → b ≠ p → H' b = some o) → H' p = some (.ins C dx (flds a t most d)) → H' d = some (memoO P w d []) → Q .non H'
theorem ok_winit {f C : Addr} {fd : FuncData} (F : Fun K "__init__" "Writer.__init__" sWInit f fd) (T : WTxt K C) : FnOk P w K mg base CX0 1 f fd ["self", "sets", "text", "most"] (spWInit P w C) := by
  refine F.ok scWI (fun vs H Q E h => ?_) (fun cdv A outer s H vs Q E hr h => ?_)
  · obtain ⟨p, dx, a, S, t, most, rfl, _⟩ := h
    rfl
  obtain ⟨p, dx, a, S, t, most, rfl, hp, hS, k⟩ := h
  obtain ⟨l1, l2, l3⟩ := fl_len a t most
  refine ⟨_, pss_cons (ps_fld (pv 0) (pv 1) rfl) (pss_cons (ps_fld (pv 0) (pv 2) rfl) (pss_cons (ps_fld (pv 0) (pv 3) rfl) (pss_one (ps_fld (pv 0) pe_mnew rfl)))), ?_⟩
  refine ⟨_, rfl, _, rfl, p, C, dx, _, rfl, hp, T.cl, T.nS, (by show 0 < 1000; decide), ?_⟩
  refine ⟨_, rfl, _, rfl, p, C, dx, fl1 a, rfl, upd_same, T.cl, T.nT, (by omega), ?_⟩
  refine ⟨_, rfl, _, rfl, p, C, dx, fl2 a t, rfl, upd_same, T.cl, T.nM, (by omega), ?_⟩
  intro d hd
  have npd : p ≠ d := fun z => by
    subst z
    rw [upd_same] at hd
    cases hd
  refine ⟨_, rfl, p, C, dx, fl3 a t most, rfl, (by rw [upd_ne npd]; exact upd_same), T.cl, T.nK, (by omega), ?_⟩
  have hd0 : H d = none := by
    rw [upd_ne npd.symm, upd_ne npd.symm, upd_ne npd.symm] at hd
    exact hd
  refine k d _ hd0 (fun b o e hb => ?_) upd_same (by rw [upd_ne npd.symm]; exact upd_same)
  rw [upd_ne hb, upd_ne (ne_of_none e hd0), upd_ne hb, upd_ne hb, upd_ne hb]
  exact e
/-! ### ahead -/
theorem scWA : FnScope ["self", "codes", "rest"] ["self", "codes", "rest"] (defScope sAhead) := ⟨rfl, rfl, rfl, by decide +kernel, rfl, by decide +kernel, by decide +kernel⟩
def spAhead : Sp := fun vs H Q _ => ∃ (p c : Addr) (x : V) (cs : List Int) (o : Option (List Int)), vs = [.ref p, .ref c, x] ∧ H c = some (.lst (cs.map V.int)) ∧ OptAt H x o ∧ cs.length ≤ 2 ∧ (∀ wd, o = some wd → wd.length ≤ 1000) ∧
  ∀ H' r, Same H H' → OptAt H' r (ahead cs o) → (∀ q, r = .ref q → H q = none) → Q r H'
theorem ok_ahead {f : Addr} {fd : FuncData} (F : Fun K "ahead" "Writer.ahead" sAhead f fd) : FnOk P w K mg base CX0 1 f fd ["self", "codes", "rest"] spAhead := by
  refine F.ok scWA (fun vs H Q E h => ?_) (fun cdv A outer s H vs Q E hr h => ?_)
  · obtain ⟨p, c, x, cs, o, rfl, _⟩ := h
    rfl
  obtain ⟨p, c, x, cs, o, rfl, hc, hx, l1, l2, k⟩ := h
  refine ⟨_, pss_one (ps_ret (pe_ifExp (pt_cmp (pc_isN (pv 2))) pe_non (pe_op op_cat (pv 1) (pv 2)))), ?_⟩
  cases o with
  | none =>
    obtain rfl : x = .non := hx
    exact ⟨_, rfl, _, rfl, ifD rfl (k H .non (Same.refl H) rfl (fun q z => nomatch z))⟩
  | some wd =>
    obtain ⟨q, rfl, hq⟩ := hx
    have l3 := l2 wd rfl
    refine ⟨_, rfl, _, rfl, ifDN (fun e => nomatch e) ?_⟩
    refine ⟨_, rfl, _, rfl, c, q, _, _, rfl, rfl, hc, hq, ?_, fun r hr => k _ _ (same_upd hr) ⟨r, rfl, ?_⟩ (fun q z => by cases z; exact hr)⟩
    · rw [List.length_map, List.length_map]
      exact sm (by omega)
    · rw [upd_same, ← List.map_append]
end
end SR

namespace SR
open PySem PySem.Spec PyProof.Rows L2
theorem Kp.opt {d : Addr} {H H' : Hp} {f : Heap → Prop} (k : Kp d H H') (hd : H d = some (.ext f)) {x : V} {o : Option (List Int)} (h : OptAt H x o) : OptAt H' x o := by
  cases o with
  | none => exact h
  | some w =>
    obtain ⟨p, e, hp⟩ := h
    refine ⟨p, e, k _ _ hp fun z => ?_⟩
    subst z
    rw [hd] at hp
    cases hp
theorem drop_cons {t : List Nat} {i : Nat} (h : i < t.length) : t[i]? = some t[i] ∧ t.drop i = t[i] :: t.drop (i + 1) := ⟨List.getElem?_eq_getElem h, List.drop_eq_getElem_cons h⟩
theorem row_list {S : Sets} {c : Nat} (st : Bool) : atI ([cv (idx S.one c), cv (idx S.two c)] : List V) (bi st) = some (cv (idx (S.row st) c)) := by
  cases st
  · exact atI_nat (j := 0) rfl
  · exact atI_nat (j := 1) rfl
theorem Stands.drop {S : Sets} {t : List Nat} (h : Stands S t) (i : Nat) : Stands S (t.drop i) := fun c hc => h c (List.mem_of_mem_drop hc)
section
variable {P : Program} {w : World} {K : PySem.W.Frag} {mg : Str → Option Value} {base : Heap}
def spRest (P : Program) (w : World) (C : Addr) (n : Nat) : Sp := fun vs H Q _ => ∃ (H0 : Hp) (S : Sets) (t : List Nat) (most : Nat) (a p d : Addr) (xs : MTab) (i : Nat) (st : Bool) (o : Option Nat),
  vs = [.ref p, .int i, .int (bi st), cv o] ∧ SOk S ∧ Stands S t ∧ t.length ≤ 40 ∧ most ≤ 20 ∧ WrAt P w C H0 S t most a p d H xs ∧ i ≤ t.length ∧ t.length + 1 ≤ i + n ∧ okO most o = true ∧
  ∀ H' r wd xs', Kp d H H' → WrAt P w C H0 S t most a p d H' xs' → best S most (t.drop i) st o = some wd → H' r = some (.lst (wd.map V.int)) → H0 r = none → Q (.ref r) H'
def spFound (P : Program) (w : World) (C : Addr) (n : Nat) : Sp := spRest P w C (n + 1)
def spSigned (P : Program) (w : World) (C : Addr) (n : Nat) : Sp := fun vs H Q _ => ∃ (H0 : Hp) (S : Sets) (t : List Nat) (most : Nat) (a p d : Addr) (xs : MTab) (i : Nat) (st : Bool) (o : Option Nat) (c : Nat),
  vs = [.ref p, .int i, .int (bi st), cv o] ∧ SOk S ∧ Stands S t ∧ t.length ≤ 40 ∧ most ≤ 20 ∧ WrAt P w C H0 S t most a p d H xs ∧ t[i]? = some c ∧ t.length ≤ i + n ∧ okO most o = true ∧
  ∀ H' r xs', Kp d H H' → WrAt P w C H0 S t most a p d H' xs' → OptAt H' r (signed S most (best S most (t.drop (i + 1))) c st o) → Fr H0 r → Q r H'
/-! ### signed -/
theorem scWS : FnScope ["self", "at", "state", "open_for", "code"] ["self", "at", "state", "open_for"] (defScope sSigned) := ⟨rfl, rfl, rfl, by decide +kernel, rfl, by decide +kernel, by decide +kernel⟩
theorem ok_signed {C f f1 f2 f3 f4 : Addr} {fd d1 d2 d3 d4 : FuncData} {n : Nat} (F : Fun K "signed" "Writer.signed" sSigned f fd) (T : WTxt K C)
    (G1 : FnOk P w K mg base CX0 1 f1 d1 ["sets", "sign"] spCodesOf) (m1 : mg "codes_of" = some (.ref f1)) (k1 : PySem.W.keepIn K (.ref f1) = true) (b1 : Binds K d1 ["sets", "sign"] [])
    (G2 : FnOk P w K mg base CX0 1 f2 d2 ["sets", "code"] spIsCommon) (m2 : mg "is_common" = some (.ref f2)) (k2 : PySem.W.keepIn K (.ref f2) = true) (b2 : Binds K d2 ["sets", "code"] [])
    (G3 : FnOk P w K mg base CX0 1 f3 d3 ["self", "codes", "rest"] spAhead) (m3 : Meth K C "ahead" f3) (b3 : Binds K d3 ["self", "codes", "rest"] [])
    (G4 : FnOk P w K mg base CX0 (3 * n) f4 d4 ["self", "at", "state", "open_for"] (spRest P w C n)) (m4 : Meth K C "rest" f4) (b4 : Binds K d4 ["self", "at", "state", "open_for"] []) :
    FnOk P w K mg base CX0 (3 * n + 1) f fd ["self", "at", "state", "open_for"] (spSigned P w C n) := by
  refine F.ok scWS (fun vs H Q E h => ?_) (fun cdv A outer s H vs Q E hr h => ?_)
  · obtain ⟨H0, S, t, most, a, p, d, xs, i, st, o, c, rfl, _⟩ := h
    rfl
  obtain ⟨H0, S, t, most, a, p, d, xs, i, st, o, c, rfl, ok, hst, h40, h20, W, ht, hn, ho, k⟩ := h
  have hi : i < t.length := (List.getElem?_eq_some_iff.mp ht).1
  have hr1 : Room 1 _ := hr.mono (by omega)
  refine ⟨_, pss_cons (ps_set (i := 4) scWS.nd rfl (.inl rfl) (pe_ix ix_list (pe_call G1 hr1 (by rfl) m1 k1 b1 .nil pass0 (pa_cons (pe_fld (pv 0) rfl) (pa_cons (pe_ix ix_str (pe_fld (pv 0) rfl) (pv 1) (fun _ _ => rfl)) pa_nil))) (pv 2) (fun _ _ => rfl)))
    (pss_cons (ps_if (pt_cmp (pc_isN (pv 4))) (pss_one (ps_ret pe_non)) pss_nil)
    (pss_cons (ps_if (PW.pt (pw_and (pt_cmp (pc_notN (pv 3))) (pw_and1 (pt_not (pt_val (pe_call G2 hr1 (by rfl) m2 k2 b2 .nil pass0 (pa_cons (pe_fld (pv 0) rfl) (pa_cons (pv 4) pa_nil))))))))
      (pss_cons (ps_set (i := 3) scWS.nd rfl (.inl rfl) (pe_op op_add (pv 3) pe_int)) (pss_one (ps_if (pt_cmpR op_gt (pv 3) (pe_fld (pv 0) rfl) (nomark _)) (pss_one (ps_ret pe_non)) pss_nil))) pss_nil)
    (pss_one (ps_ret (pe_meth (pv 0) T.cl m3 G3 hr1 b3 .nil pass0 (pa_cons (pe_lst (pa_cons (pv 4) pa_nil)) (pa_cons (pe_meth (pv 0) T.cl m4 G4 hr b4 .nil pass0 (pa_cons (pe_op op_add (pv 1) pe_int) (pa_cons (pv 2) (pa_cons (pv 3) pa_nil)))) pa_nil))))))), ?_⟩
  obtain ⟨dx, ob⟩ := W.ob
  have zt : (tx t).length ≤ sizeLine := tx_le (by omega)
  refine ⟨_, rfl, p, C, dx, _, _, rfl, ob, T.cl, T.nS, flds_sets _ _ _ _, _, rfl, p, C, dx, _, _, rfl, ob, T.cl, T.nT, flds_text _ _ _ _, _, rfl, _, i, c, rfl, rfl, zt, at_tx (Int.natCast_nonneg i) (by rw [Int.toNat_natCast]; exact ht), ?_⟩
  refine ⟨a, S, c, rfl, W.sets, ok, fun H1 r s1 hr1' => ?_⟩
  have W1 := W.same s1
  have ob1 := s1 _ _ ob
  refine ⟨_, rfl, r, _, _, _, rfl, rfl, SqL.of hr1', row_list st, ?_⟩
  refine ⟨_, rfl, _, rfl, ?_⟩
  cases hk : idx (S.row st) c with
  | none =>
    refine ifD rfl ?_
    refine k H1 .non xs (.of s1) W1 ?_ (fun q z => nomatch z)
    unfold signed
    rw [hk]
    exact rfl
  | some j =>
    refine ifDN (fun z => nomatch z) ?_
    have hjn : (j : Int) < S.n := idx_row ok.ev hk
    have sg0 : okO most (bump S o j) = true → signed S most (best S most (t.drop (i + 1))) c st o = SR.ahead [(j : Int)] (best S most (t.drop (i + 1)) st (bump S o j)) := fun e => by
      unfold signed
      rw [hk]
      exact if_pos e
    have sg1 : ¬ okO most (bump S o j) = true → signed S most (best S most (t.drop (i + 1))) c st o = none := fun e => by
      unfold signed
      rw [hk]
      exact if_neg e
    have nm : ∀ (x : Str), ¬ x = "known" → ¬ x = "most" → ¬ x = "text" → ¬ x = "sets" → (flds a t most d).lookup x = none := fun x h1 h2 h3 h4 => flds_no a t most d h1 h2 h3 h4
    have nmA := nm "ahead" (by decide +kernel) (by decide +kernel) (by decide +kernel) (by decide +kernel)
    have nmR := nm "rest" (by decide +kernel) (by decide +kernel) (by decide +kernel) (by decide +kernel)
    have done : ∀ (T : Addr) (H3 : Hp) (r3 : Addr) (wd : List Int) (xs3 : MTab), H1 T = none → okO most (bump S o j) = true → Kp d (upd H1 T (.lst [.int j])) H3 → WrAt P w C H0 S t most a p d H3 xs3 →
        best S most (t.drop (i + 1)) st (bump S o j) = some wd → H3 r3 = some (.lst (wd.map V.int)) → spAhead [.ref p, .ref T, .ref r3] H3 Q E0 := fun T H3 r3 wd xs3 nT hok kp W3 hb hr3 => by
      have w1 : wd.length ≤ 120 := Nat.le_trans (best_len _ _ _ _ hb) (by rw [List.length_drop]; omega)
      refine ⟨p, T, .ref r3, [(j : Int)], some wd, rfl, kp _ _ upd_same (ne_of_none W1.dc nT).symm, ⟨r3, rfl, hr3⟩, by simp, fun wd' e => ?_, fun H4 r4 s4 h4 f4 => ?_⟩
      · obtain rfl := Option.some.inj e
        omega
      · refine k H4 r4 xs3 (((Kp.of s1).trans (Kp.of (same_upd nT))).trans (kp.trans (.of s4))) (W3.same s4) ?_ (fun q z => W3.s0.free (f4 q z))
        rw [sg0 hok, hb]
        exact h4
    cases o with
    | none =>
      have hbp : bump S none j = none := rfl
      have hok : okO most (bump S none j) = true := rfl
      refine ⟨_, rfl, _, rfl, ifN rfl (iteF ?_)⟩
      refine ⟨_, rfl, p, dx, _, rfl, ob1, nmA, _, rfl, (by show 1 ≤ sizeLine; decide), fun T nT => ?_⟩
      have s2 := same_upd (o := .lst [.int j]) nT
      refine ⟨_, rfl, p, dx, _, rfl, s2 _ _ ob1, nmR, _, rfl, _, _, rfl, rfl, _, rfl, _, rfl, H0, S, t, most, a, p, d, xs, i + 1, st, bump S none j, rfl, ok, hst, h40, h20, W1.same s2, hi, by omega, hok, fun H3 r3 wd xs3 kp W3 hb hr3 _ => done T H3 r3 wd xs3 nT hok kp W3 hb hr3⟩
    | some m =>
      have hm : m ≤ most := of_decide_eq_true ho
      refine ⟨_, rfl, _, rfl, ifNN (fun z => nomatch z) ?_⟩
      refine ⟨_, rfl, p, C, dx, _, _, rfl, ob1, T.cl, T.nS, flds_sets _ _ _ _, _, rfl, a, S, j, rfl, W1.sets, ok, hjn, _, rfl, ?_⟩
      cases hc : common S j with
      | true =>
        have hbp : bump S (some m) j = some m := by simp only [bump]; rw [if_pos hc]
        have hok : okO most (bump S (some m) j) = true := by rw [hbp]; exact ho
        refine iteF ?_
        refine ⟨_, rfl, p, dx, _, rfl, ob1, nmA, _, rfl, (by show 1 ≤ sizeLine; decide), fun T nT => ?_⟩
        have s2 := same_upd (o := .lst [.int j]) nT
        refine ⟨_, rfl, p, dx, _, rfl, s2 _ _ ob1, nmR, _, rfl, _, _, rfl, rfl, _, rfl, _, rfl, H0, S, t, most, a, p, d, xs, i + 1, st, bump S (some m) j, by rw [hbp]; rfl, ok, hst, h40, h20, W1.same s2, hi, by omega, hok, fun H3 r3 wd xs3 kp W3 hb hr3 _ => done T H3 r3 wd xs3 nT hok kp W3 hb hr3⟩
      | false =>
        have hbp : bump S (some m) j = some (m + 1) := by simp only [bump]; rw [if_neg (by rw [hc]; decide)]
        refine iteT ?_
        refine ⟨_, rfl, _, _, rfl, rfl, _, rfl, _, rfl, p, C, dx, _, _, rfl, ob1, T.cl, T.nM, flds_most _ _ _ _, _, _, rfl, rfl, _, rfl, ite2 (fun e => ?_) (fun e => ?_)⟩
        · have e' := of_decide_eq_true e
          refine k H1 .non xs (.of s1) W1 ?_ (fun q z => nomatch z)
          rw [sg1 (by rw [hbp]; simp only [okO, decide_eq_true_eq]; omega)]
          exact rfl
        · have e' := of_decide_eq_false (Bool.eq_false_iff.mpr e)
          have hok : okO most (bump S (some m) j) = true := by rw [hbp]; simp only [okO, decide_eq_true_eq]; omega
          refine ⟨_, rfl, p, dx, _, rfl, ob1, nmA, _, rfl, (by show 1 ≤ sizeLine; decide), fun T nT => ?_⟩
          have s2 := same_upd (o := .lst [.int j]) nT
          refine ⟨_, rfl, p, dx, _, rfl, s2 _ _ ob1, nmR, _, rfl, _, _, rfl, rfl, _, rfl, _, rfl, H0, S, t, most, a, p, d, xs, i + 1, st, bump S (some m) j, by rw [hbp]; rfl, ok, hst, h40, h20, W1.same s2, hi, by omega, hok, fun H3 r3 wd xs3 kp W3 hb hr3 _ => done T H3 r3 wd xs3 nT hok kp W3 hb hr3⟩
end
end SR

namespace SR
open PySem PySem.Spec PyProof.Rows L2
theorem optLen {S : Sets} {most : Nat} {r : List Nat} {c : Nat} {st : Bool} {o : Option Nat} {wd : List Int} (h : signed S most (best S most r) c st o = some wd) : wd.length ≤ 3 * r.length + 1 := by
  unfold signed at h
  cases hj : idx (S.row st) c with
  | none => rw [hj] at h; cases h
  | some j =>
    rw [hj] at h
    simp only at h
    by_cases ok : okO most (bump S o j) = true
    · rw [if_pos ok] at h
      obtain ⟨v, e1, rfl⟩ := ahead_inv h
      have := best_len _ _ _ _ e1
      simp; omega
    · rw [if_neg ok] at h; cases h
section
variable {P : Program} {w : World} {K : PySem.W.Frag} {mg : Str → Option Value} {base : Heap}
/-- signed, ahead, shorter: one of the ways -/
theorem red {C : Addr} {n : Nat} {H0 H1 : Hp} {S : Sets} {t : List Nat} {most : Nat} {a p d T1 : Addr} {xs1 : MTab} {i c : Nat} {r1 : V} {x1 : Option (List Int)} {vs : List V} {st : Bool} {o : Option Nat} {cs : List Int} {Q : VK}
    (ok : SOk S) (hst : Stands S t) (h40 : t.length ≤ 40) (h20 : most ≤ 20) (ht : t[i]? = some c) (hn : t.length ≤ i + n) (W1 : WrAt P w C H0 S t most a p d H1 xs1) (o1 : OptAt H1 r1 x1) (f1 : Fr H0 r1) (nT : H1 T1 = none)
    (ho : okO most o = true) (hv : vs = [.ref p, .int i, .int (bi st), cv o]) (hc : cs.length ≤ 2)
    (k : ∀ H4 r4 xs4, Kp d H1 H4 → WrAt P w C H0 S t most a p d H4 xs4 → OptAt H4 r4 (shorter x1 (SR.ahead cs (signed S most (best S most (t.drop (i + 1))) c st o))) → Fr H0 r4 → Q r4 H4) :
    spSigned P w C n vs (upd H1 T1 (.lst (cs.map V.int))) (fun v2 H2 => spAhead [.ref p, .ref T1, v2] H2 (fun v3 H3 => spShorter [r1, v3] H3 Q E0) E0) E0 := by
  have s1 := same_upd (o := .lst (cs.map V.int)) nT
  have Wb := W1.same s1
  refine ⟨H0, S, t, most, a, p, d, xs1, i, st, o, c, hv, ok, hst, h40, h20, Wb, ht, hn, ho, fun H2 r2 xs2 kp2 W2 o2 f2 => ?_⟩
  have hT : H2 T1 = some (.lst (cs.map V.int)) := kp2 _ _ upd_same (ne_of_none W1.dc nT).symm
  have ob2 : OptAt H2 r1 x1 := kp2.opt Wb.dc (keepO s1 o1)
  refine ⟨p, T1, r2, cs, _, rfl, hT, o2, hc, fun wd e => ?_, fun H3 r3 s3 o3 f3 => ?_⟩
  · have := optLen e
    rw [List.length_drop] at this
    omega
  · refine ⟨r1, r3, _, _, rfl, keepO s3 ob2, o3, fun H4 r4 s4 o4 e4 => ?_⟩
    refine k H4 r4 xs2 ((Kp.of s1).trans (kp2.trans ((Kp.of s3).trans (.of s4)))) ((W2.same s3).same s4) o4 ?_
    rcases e4 with e | e
    · rw [e]; exact f1
    · rw [e]; exact fun q z => W2.s0.free (f3 q z)
/-! ### found -/
theorem scWF : FnScope ["self", "at", "state", "open_for", "many", "same", "turn", "best"] ["self", "at", "state", "open_for"] (defScope sFound) := ⟨rfl, rfl, rfl, by decide +kernel, rfl, by decide +kernel, by decide +kernel⟩
theorem ok_found {C f f1 f3 f4 : Addr} {fd d1 d3 d4 : FuncData} {n : Nat} (F : Fun K "found" "Writer.found" sFound f fd) (T : WTxt K C) (B : Bt mg)
    (G1 : FnOk P w K mg base CX0 1 f1 d1 ["one", "other"] spShorter) (m1 : mg "shorter" = some (.ref f1)) (k1 : PySem.W.keepIn K (.ref f1) = true) (b1 : Binds K d1 ["one", "other"] [])
    (G3 : FnOk P w K mg base CX0 1 f3 d3 ["self", "codes", "rest"] spAhead) (m3 : Meth K C "ahead" f3) (b3 : Binds K d3 ["self", "codes", "rest"] [])
    (G4 : FnOk P w K mg base CX0 (3 * n + 1) f4 d4 ["self", "at", "state", "open_for"] (spSigned P w C n)) (m4 : Meth K C "signed" f4) (b4 : Binds K d4 ["self", "at", "state", "open_for"] []) :
    FnOk P w K mg base CX0 (3 * n + 2) f fd ["self", "at", "state", "open_for"] (spFound P w C n) := by
  refine F.ok scWF (fun vs H Q E h => ?_) (fun cdv A outer s H vs Q E hr h => ?_)
  · obtain ⟨H0, S, t, most, a, p, d, xs, i, st, o, rfl, _⟩ := h
    rfl
  obtain ⟨H0, S, t, most, a, p, d, xs, i, st, o, rfl, ok, hst, h40, h20, W, hi, hn, ho, k⟩ := h
  have hr1 : Room 1 _ := hr.mono (by omega)
  refine ⟨_, (pss_cons (ps_if (pt_cmpR op_eq (pv 1) (pe_callB call_len_str (by rfl) B.len PySem.boot_len (pa_cons (pe_fld (pv 0) rfl) pa_nil)) (nomark _)) (pss_one (ps_ret (pe_lst pa_nil))) pss_nil) (pss_cons (ps_set (i := 4) scWF.nd rfl (.inl rfl) (pe_callB call_len_str (by rfl) B.len PySem.boot_len (pa_cons (pe_ix ix_tup (pe_fld (pv 0) rfl) pe_int (fun _ _ => rfl)) pa_nil))) (pss_cons (ps_set (i := 5) scWF.nd rfl (.inl rfl) (pe_op op_add (pv 4) (pv 2))) (pss_cons (ps_set (i := 6) scWF.nd rfl (.inl rfl) (pe_op op_sub (pe_op op_add (pv 4) pe_int) (pv 2))) (pss_cons (ps_set (i := 7) scWF.nd rfl (.inl rfl) (pe_meth (pv 0) T.cl m4 G4 hr b4 .nil pass0 (pa_cons (pv 1) (pa_cons (pv 2) (pa_cons (pv 3) pa_nil))))) (pss_cons (ps_set (i := 7) scWF.nd rfl (.inl rfl) (pe_call G1 hr1 (by rfl) m1 k1 b1 .nil pass0 (pa_cons (pv 7) (pa_cons (pe_meth (pv 0) T.cl m3 G3 hr1 b3 .nil pass0 (pa_cons (pe_lst (pa_cons (pv 6) pa_nil)) (pa_cons (pe_meth (pv 0) T.cl m4 G4 hr b4 .nil pass0 (pa_cons (pv 1) (pa_cons (pe_op op_sub pe_int (pv 2)) (pa_cons (pe_int) pa_nil)))) pa_nil))) pa_nil)))) (pss_cons (ps_if (pt_cmp (pc_notN (pv 3)))
      (pss_one (ps_set (i := 7) scWF.nd rfl (.inl rfl) (pe_call G1 hr1 (by rfl) m1 k1 b1 .nil pass0 (pa_cons (pv 7) (pa_cons (pe_meth (pv 0) T.cl m3 G3 hr1 b3 .nil pass0 (pa_cons (pe_lst (pa_cons (pv 5) pa_nil)) (pa_cons (pe_meth (pv 0) T.cl m4 G4 hr b4 .nil pass0 (pa_cons (pv 1) (pa_cons (pv 2) (pa_cons (pe_non) pa_nil)))) pa_nil))) pa_nil))))) pss_nil) (pss_one (ps_ret (pe_call G1 hr1 (by rfl) m1 k1 b1 .nil pass0 (pa_cons (pv 7) (pa_cons (pe_meth (pv 0) T.cl m3 G3 hr1 b3 .nil pass0 (pa_cons (pe_lst (pa_cons (pv 6) (pa_cons (pv 6) pa_nil))) (pa_cons (pe_meth (pv 0) T.cl m4 G4 hr b4 .nil pass0 (pa_cons (pv 1) (pa_cons (pe_op op_sub pe_int (pv 2)) (pa_cons (pe_non) pa_nil)))) pa_nil))) pa_nil)))))))))))), ?_⟩
  obtain ⟨dx, ob⟩ := W.ob
  have zt : (tx t).length ≤ sizeLine := tx_le (by omega)
  have z1 : (tx S.one).length ≤ sizeLine := tx_le (by have := ok.hi; omega)
  have nm : ∀ (x : Str), ¬ x = "known" → ¬ x = "most" → ¬ x = "text" → ¬ x = "sets" → (flds a t most d).lookup x = none := fun x h1 h2 h3 h4 => flds_no a t most d h1 h2 h3 h4
  have nmA := nm "ahead" (by decide +kernel) (by decide +kernel) (by decide +kernel) (by decide +kernel)
  have nmS := nm "signed" (by decide +kernel) (by decide +kernel) (by decide +kernel) (by decide +kernel)
  refine ⟨_, rfl, _, rfl, p, C, dx, _, _, rfl, ob, T.cl, T.nT, flds_text _ _ _ _, _, rfl, zt, rfl, _, rfl, ?_⟩
  by_cases hend : i = t.length
  · refine ifD (by rw [tx_len, hend]) ?_
    refine ⟨(by show 0 ≤ sizeLine; decide), fun r nr => ?_⟩
    have s1 := same_upd (o := .lst []) nr
    refine k _ r [] xs (.of s1) (W.same s1) ?_ upd_same (W.s0.free nr)
    rw [hend, List.drop_eq_nil_of_le (Nat.le_refl _)]
    rfl
  refine ifDN (by rw [tx_len]; intro z; have := V.int.inj z; omega) ?_
  have hi' : i < t.length := by omega
  obtain ⟨ht, hd⟩ := drop_cons hi'
  generalize t[i] = c at ht hd
  refine ⟨_, rfl, p, C, dx, _, _, rfl, ob, T.cl, T.nS, flds_sets _ _ _ _, a, _, _, _, rfl, rfl, SqT.of W.sets, atI_nat (j := 0) rfl, _, rfl, z1, ?_⟩
  have en : V.int ((tx S.one).length : Int) = .int S.n := by rw [tx_len]; rfl
  rw [en]
  refine ⟨_, rfl, _, rfl, _, _, rfl, rfl, _, rfl, _, _, rfl, rfl, _, rfl, _, _, rfl, rfl, ?_⟩
  have e6 : some (some (V.int (S.n + 1 - bi st))) = some (some (V.int (turn S st))) := by unfold turn; rw [bi_not, Int.add_sub_assoc]
  -- best = self.signed(at, state, open_for)
  refine ⟨_, rfl, p, dx, _, rfl, ob, nmS, _, rfl, _, rfl, _, rfl, H0, S, t, most, a, p, d, xs, i, st, o, c, rfl, ok, hst, h40, h20, W, ht, by omega, ho, fun H1 r1 xs1 kp1 W1 o1 f1 => ?_⟩
  obtain ⟨dx1, ob1⟩ := W1.ob
  refine ⟨_, rfl, _, rfl, p, dx1, _, rfl, ob1, nmA, _, e6, (by show 1 ≤ sizeLine; decide), fun T1 n1 => ?_⟩
  refine ⟨_, rfl, p, dx1, _, rfl, same_upd n1 _ _ ob1, nmS, _, rfl, _, rfl, _, _, rfl, rfl, ?_⟩
  refine red (cs := [turn S st]) (st := !st) (o := some 0) ok hst h40 h20 ht (by omega) W1 o1 f1 n1 rfl (by rw [bi_not]; rfl) (by simp) fun H2 r2 xs2 kp2 W2 o2 f2 => ?_
  obtain ⟨dx2, ob2⟩ := W2.ob
  have fin : ∀ (H3 : Hp) (r3 : V) (xs3 : MTab) (v5 : V), Kp d H H3 → WrAt P w C H0 S t most a p d H3 xs3 → OptAt H3 r3 (if o.isSome = true then shorter (shorter (signed S most (best S most (t.drop (i + 1))) c st o) (SR.ahead [turn S st] (signed S most (best S most (t.drop (i + 1))) c (!st) (some 0)))) (SR.ahead [same S st] (signed S most (best S most (t.drop (i + 1))) c st none))
      else shorter (signed S most (best S most (t.drop (i + 1))) c st o) (SR.ahead [turn S st] (signed S most (best S most (t.drop (i + 1))) c (!st) (some 0)))) → Fr H0 r3 → ∀ T1, H3 T1 = none →
      spSigned P w C n [.ref p, .int i, .int (1 - bi st), .non] (upd H3 T1 (.lst [.int (turn S st), .int (turn S st)])) (fun v2 H2 => spAhead [.ref p, .ref T1, v2] H2 (fun v3 H3 => spShorter [r3, v3] H3 Q E0) E0) E0 := fun H3 r3 xs3 v5 kp3 W3 o3 f3 T1 n1 => by
    refine red (cs := [turn S st, turn S st]) (st := !st) (o := none) ok hst h40 h20 ht (by omega) W3 o3 f3 n1 rfl (by rw [bi_not]; rfl) (by simp) fun H4 r4 xs4 kp4 W4 o4 f4 => ?_
    have ebest := best_cons (S := S) (most := most) c (t.drop (i + 1)) st o
    rw [← hd] at ebest
    rw [← ebest] at o4
    have hsome := best_some (most := most) (t.drop i) st o (hst.drop i) ho
    obtain ⟨wd, hwd⟩ := Option.isSome_iff_exists.mp hsome
    rw [hwd] at o4
    obtain ⟨q, rfl, hq⟩ := o4
    exact k H4 q wd xs4 (kp3.trans kp4) W4 hwd hq (f4 q rfl)
  cases o with
  | none =>
    refine ⟨_, rfl, _, rfl, ifN rfl ?_⟩
    refine ⟨_, rfl, _, rfl, p, dx2, _, rfl, ob2, nmA, _, e6, _, e6, (by show 2 ≤ sizeLine; decide), fun T1 n1 => ?_⟩
    refine ⟨_, rfl, p, dx2, _, rfl, same_upd n1 _ _ ob2, nmS, _, rfl, _, rfl, _, _, rfl, rfl, ?_⟩
    exact fin H2 r2 xs2 .non (kp1.trans kp2) W2 o2 f2 T1 n1
  | some m =>
    refine ⟨_, rfl, _, rfl, ifNN (fun z => nomatch z) ?_⟩
    refine ⟨_, rfl, _, rfl, p, dx2, _, rfl, ob2, nmA, .int (same S st), rfl, (by show 1 ≤ sizeLine; decide), fun T1 n1 => ?_⟩
    refine ⟨_, rfl, p, dx2, _, rfl, same_upd n1 _ _ ob2, nmS, _, rfl, _, rfl, ?_⟩
    refine red (cs := [same S st]) (st := st) (o := none) ok hst h40 h20 ht (by omega) W2 o2 f2 n1 rfl rfl (by simp) fun H3 r3 xs3 kp3 W3 o3 f3 => ?_
    obtain ⟨dx3, ob3⟩ := W3.ob
    refine ⟨_, rfl, _, rfl, p, dx3, _, rfl, ob3, nmA, _, e6, _, e6, (by show 2 ≤ sizeLine; decide), fun T2 n2 => ?_⟩
    refine ⟨_, rfl, p, dx3, _, rfl, same_upd n2 _ _ ob3, nmS, _, rfl, _, rfl, _, _, rfl, rfl, ?_⟩
    exact fin H3 r3 xs3 .non (kp1.trans (kp2.trans kp3)) W3 o3 f3 T2 n2
end
end SR

namespace SR
open PySem PySem.Spec PyProof.Rows L2
section
variable {P : Program} {w : World} {K : PySem.W.Frag} {mg : Str → Option Value} {base : Heap}
theorem bigK_le {most : Nat} {t : List Nat} (h40 : t.length ≤ 40) (h20 : most ≤ 20) : bigK most t ≤ 2000 := by
  unfold bigK
  have h1 : (t.length + 1) * 2 ≤ 82 := by omega
  have h2 : most + 2 ≤ 22 := by omega
  exact Nat.le_trans (Nat.mul_le_mul h1 h2) (by decide)
/-! ### rest -/
theorem scWR : FnScope ["self", "at", "state", "open_for", "key"] ["self", "at", "state", "open_for"] (defScope sRest) := ⟨rfl, rfl, rfl, by decide +kernel, rfl, by decide +kernel, by decide +kernel⟩
theorem ok_rest {C f f4 : Addr} {fd d4 : FuncData} {n : Nat} (F : Fun K "rest" "Writer.rest" sRest f fd) (T : WTxt K C)
    (G4 : FnOk P w K mg base CX0 (3 * n + 2) f4 d4 ["self", "at", "state", "open_for"] (spFound P w C n)) (m4 : Meth K C "found" f4) (b4 : Binds K d4 ["self", "at", "state", "open_for"] []) :
    FnOk P w K mg base CX0 (3 * n + 3) f fd ["self", "at", "state", "open_for"] (spRest P w C (n + 1)) := by
  refine F.ok scWR (fun vs H Q E h => ?_) (fun cdv A outer s H vs Q E hr h => ?_)
  · obtain ⟨H0, S, t, most, a, p, d, xs, i, st, o, rfl, _⟩ := h
    rfl
  obtain ⟨H0, S, t, most, a, p, d, xs, i, st, o, rfl, ok, hst, h40, h20, W, hi, hn, ho, k⟩ := h
  have hu := hu_of hr
  refine ⟨_, (pss_cons (ps_set (i := 4) scWR.nd rfl (.inl rfl) (pe_tup (pa_cons (pv 1) (pa_cons (pv 2) (pa_cons (pv 3) pa_nil))))) (pss_cons (ps_if (pt_cmp (pc_mnotin hu (pv 4) (pe_fld (pv 0) rfl))) (pss_one (ps_mput hu (pe_fld (pv 0) rfl) (pv 4) (pe_meth (pv 0) T.cl m4 G4 hr b4 .nil pass0 (pa_cons (pv 1) (pa_cons (pv 2) (pa_cons (pv 3) pa_nil)))) rfl)) pss_nil) (pss_one (ps_ret (pe_mget hu (pe_fld (pv 0) rfl) (pv 4) (fun _ _ => rfl)))))), ?_⟩
  obtain ⟨dx, ob⟩ := W.ob
  have nmF : (flds a t most d).lookup ("found" : Str) = none := flds_no a t most d (by decide +kernel) (by decide +kernel) (by decide +kernel) (by decide +kernel)
  refine ⟨_, rfl, _, rfl, _, rfl, (by show 3 ≤ sizeLine; decide), fun T1 n1 => ?_⟩
  have s1 := same_upd (o := .tup [.int i, .int (bi st), cv o]) n1
  have W1 := W.same s1
  have hT : (upd H T1 (.tup [.int i, .int (bi st), cv o])) T1 = some (.tup ((memoK (i, st, o)).map leafV)) := by rw [upd_same, memoK_v]
  refine ⟨_, rfl, _, rfl, p, C, dx, _, _, rfl, s1 _ _ ob, T.cl, T.nK, flds_known _ _ _ _, d, T1, xs, memoK (i, st, o), rfl, rfl, W1.dc, W1.keys, hT, _, rfl, ?_⟩
  cases hg : getM xs (memoK (i, st, o)) with
  | some v =>
    refine iteF ?_
    refine ⟨_, rfl, p, C, dx, _, _, rfl, s1 _ _ ob, T.cl, T.nK, flds_known _ _ _ _, _, rfl, d, T1, v, xs, memoK (i, st, o), rfl, rfl, W1.dc, W1.keys, hT, hg, ?_⟩
    obtain ⟨x, hx, e1, e2⟩ := getM_mem hg
    obtain ⟨q, wd, h1, h2, h3, h4, h5⟩ := W1.ent x hx
    rw [e1] at h1
    have eq := memoK_inj h1
    subst eq
    rw [e2] at h4 h5
    exact k _ v wd xs (.of s1) W1 h3 h4 h5
  | none =>
    refine iteT ?_
    refine ⟨_, rfl, p, dx, _, rfl, s1 _ _ ob, nmF, _, rfl, _, rfl, _, rfl, H0, S, t, most, a, p, d, xs, i, st, o, rfl, ok, hst, h40, h20, W1, hi, hn, ho, fun H2 r2 wd xs2 kp2 W2 hb hr2 f2 => ?_⟩
    obtain ⟨dx2, ob2⟩ := W2.ob
    have hT2 : H2 T1 = some (.tup ((memoK (i, st, o)).map leafV)) := kp2 _ _ hT (ne_of_none W.dc n1).symm
    have few := W2.few
    have big := bigK_le (most := most) (t := t) h40 h20
    refine ⟨_, rfl, p, C, dx2, _, _, rfl, ob2, T.cl, T.nK, flds_known _ _ _ _, _, rfl, d, T1, r2, xs2, memoK (i, st, o), rfl, rfl, rfl, W2.dc, W2.keys, hT2, sm' (by omega), ?_⟩
    have W3 := W2.put (q := (i, st, o)) (b := T1) (v := r2) ⟨hi, ho⟩ hb hT2 hr2 f2
    obtain ⟨dx3, ob3⟩ := W3.ob
    have hT3 := W3.keys
    have nT1 : T1 ≠ d := (ne_of_none W.dc n1).symm
    have nr2 : r2 ≠ d := fun z => by
      subst z
      have := W2.dc
      rw [hr2] at this
      cases this
    refine ⟨_, rfl, p, C, dx3, _, _, rfl, ob3, T.cl, T.nK, flds_known _ _ _ _, _, rfl, d, T1, r2, _, memoK (i, st, o), rfl, rfl, W3.dc, W3.keys, (by rw [upd_ne nT1]; exact hT2), getM_put _ _ _ _, ?_⟩
    refine k _ r2 wd _ ?_ W3 hb (by rw [upd_ne nr2]; exact hr2) f2
    exact (Kp.of s1).trans (kp2.trans fun b o e hb => by rw [upd_ne hb]; exact e)
/-! ### the three together -/
theorem none_rest {C f : Addr} {fd : FuncData} : FnOk P w K mg base CX0 0 f fd ["self", "at", "state", "open_for"] (spRest P w C 0) := by
  have no : ∀ vs H Q E, ¬ spRest P w C 0 vs H Q E := fun vs H Q E h => by
    obtain ⟨H0, S, t, most, a, p, d, xs, i, st, o, _, _, _, _, _, _, h1, h2, _⟩ := h
    omega
  exact ⟨fun vs H Q E h => absurd h (no vs H Q E), fun A outer s H args us vs Q E _ _ _ _ h => absurd h (no vs H Q E)⟩
theorem all_rest {C f1 f2 f3 fs fa fF fR : Addr} {d1 d2 d3 ds da dF dR : FuncData} (T : WTxt K C) (B : Bt mg)
    (G1 : FnOk P w K mg base CX0 1 f1 d1 ["sets", "sign"] spCodesOf) (m1 : mg "codes_of" = some (.ref f1)) (k1 : PySem.W.keepIn K (.ref f1) = true) (b1 : Binds K d1 ["sets", "sign"] [])
    (G2 : FnOk P w K mg base CX0 1 f2 d2 ["sets", "code"] spIsCommon) (m2 : mg "is_common" = some (.ref f2)) (k2 : PySem.W.keepIn K (.ref f2) = true) (b2 : Binds K d2 ["sets", "code"] [])
    (G3 : FnOk P w K mg base CX0 1 f3 d3 ["one", "other"] spShorter) (m3 : mg "shorter" = some (.ref f3)) (k3 : PySem.W.keepIn K (.ref f3) = true) (b3 : Binds K d3 ["one", "other"] [])
    (FA : Fun K "ahead" "Writer.ahead" sAhead fa da) (mA : Meth K C "ahead" fa) (bA : Binds K da ["self", "codes", "rest"] [])
    (FS : Fun K "signed" "Writer.signed" sSigned fs ds) (mS : Meth K C "signed" fs) (bS : Binds K ds ["self", "at", "state", "open_for"] [])
    (FF : Fun K "found" "Writer.found" sFound fF dF) (mF : Meth K C "found" fF) (bF : Binds K dF ["self", "at", "state", "open_for"] [])
    (FR : Fun K "rest" "Writer.rest" sRest fR dR) (mR : Meth K C "rest" fR) (bR : Binds K dR ["self", "at", "state", "open_for"] []) :
    ∀ n, FnOk P w K mg base CX0 (3 * n) fR dR ["self", "at", "state", "open_for"] (spRest P w C n)
  | 0 => none_rest
  | n + 1 => by
    have ih := all_rest T B G1 m1 k1 b1 G2 m2 k2 b2 G3 m3 k3 b3 FA mA bA FS mS bS FF mF bF FR mR bR n
    have gA := ok_ahead (P := P) (w := w) (mg := mg) (base := base) FA
    have gS := ok_signed FS T G1 m1 k1 b1 G2 m2 k2 b2 gA mA bA ih mR bR
    have gF := ok_found FF T B G3 m3 k3 b3 gA mA bA gS mS bS
    exact ok_rest FR T gF mF bF
/-! ### guarded_of -/
theorem scGO : FnScope ["sets", "text", "state", "most"] ["sets", "text", "state", "most"] (defScope sGuardedOf) := ⟨rfl, rfl, rfl, by decide +kernel, rfl, by decide +kernel, by decide +kernel⟩
def spGuarded : Sp := fun vs H Q _ => ∃ (S : Sets) (t : List Nat) (most : Nat) (a : Addr) (st : Bool), vs = [.ref a, .str (tx t), .int (bi st), .int most] ∧ SetsAt H a S ∧ SOk S ∧ Stands S t ∧ t.length ≤ 40 ∧ most ≤ 20 ∧
  ∀ H' r wd, Same H H' → best S most t st none = some wd → H' r = some (.lst (wd.map V.int)) → H r = none → Q (.ref r) H'
theorem ok_guarded_of {C f fI fR : Addr} {fd dI dR : FuncData} (F : Fun K "guarded_of" "guarded_of" sGuardedOf f fd) (T : WTxt K C) (M : Mk K C fI) (mC : mg "Writer" = some (.ref C))
    (GI : FnOk P w K mg base CX0 1 fI dI ["self", "sets", "text", "most"] (spWInit P w C)) (bI : Binds K dI ["self", "sets", "text", "most"] [])
    (GR : FnOk P w K mg base CX0 123 fR dR ["self", "at", "state", "open_for"] (spRest P w C 41)) (mR : Meth K C "rest" fR) (bR : Binds K dR ["self", "at", "state", "open_for"] []) :
    FnOk P w K mg base CX0 124 f fd ["sets", "text", "state", "most"] spGuarded := by
  refine F.ok scGO (fun vs H Q E h => ?_) (fun cdv A outer s H vs Q E hr h => ?_)
  · obtain ⟨S, t, most, a, st, rfl, _⟩ := h
    rfl
  obtain ⟨S, t, most, a, st, rfl, hS, ok, hst, h40, h20, k⟩ := h
  refine ⟨_, (pss_one (ps_ret (pe_meth (pe_make M GI (hr.mono (by decide)) (by rfl) mC bI .nil pass0 (pa_cons (pv 0) (pa_cons (pv 1) (pa_cons (pv 3) pa_nil)))) T.cl mR GR hr bR .nil pass0 (pa_cons (pe_int) (pa_cons (pv 2) (pa_cons (pe_non) pa_nil)))))), ?_⟩
  refine ⟨_, rfl, _, rfl, _, rfl, fun x dx nx ndx nex => ?_⟩
  have sN : Same H (upd (upd H dx (.own x)) x (.ins C dx [])) := fun b o e => by
    rw [upd_ne (ne_of_none e nx), upd_ne (ne_of_none e ndx)]
    exact e
  refine ⟨x, dx, a, S, t, most, rfl, upd_same, keepS sN hS, fun d H1 hd k1 e1 e2 => ⟨rfl, ?_⟩⟩
  have s1 : Same H H1 := fun b o e => k1 _ _ (sN _ _ e) (ne_of_none e nx)
  have W : WrAt P w C H S t most a x d H1 [] := ⟨s1, sN.free hd, ⟨dx, e1⟩, e2, keepS s1 hS, fun y hy => (nomatch hy), List.nodup_nil, fun y hy => (nomatch hy)⟩
  have nmR : (flds a t most d).lookup ("rest" : Str) = none := flds_no a t most d (by decide +kernel) (by decide +kernel) (by decide +kernel) (by decide +kernel)
  refine ⟨x, dx, _, rfl, e1, nmR, _, rfl, H, S, t, most, a, x, d, [], 0, st, none, rfl, ok, hst, h40, h20, W, Nat.zero_le _, by omega, rfl, fun H2 r wd xs2 kp2 W2 hb hr2 f2 => ?_⟩
  exact k H2 r wd W2.s0 (by simpa using hb) hr2 f2
/-! ### guarded -/
theorem scGd : FnScope ["sets", "text", "state", "most"] ["sets", "text", "state", "most"] (defScope sGuarded) := ⟨rfl, rfl, rfl, by decide +kernel, rfl, by decide +kernel, by decide +kernel⟩
theorem ok_guarded {f f1 f2 f3 f4 : Addr} {fd d1 d2 d3 d4 : FuncData} (F : Fun K "guarded" "guarded" sGuarded f fd) {tk : Tok} (mM : mg "MOST_SPOILT" = some (.int 20 tk))
    (G1 : FnOk P w K mg base CX0 1 f1 d1 ["sets"] spNeedSets) (m1 : mg "need_sets" = some (.ref f1)) (k1 : PySem.W.keepIn K (.ref f1) = true) (b1 : Binds K d1 ["sets"] [])
    (G2 : FnOk P w K mg base CX0 2 f2 d2 ["sets", "text"] spNeedText) (m2 : mg "need_text" = some (.ref f2)) (k2 : PySem.W.keepIn K (.ref f2) = true) (b2 : Binds K d2 ["sets", "text"] [])
    (G3 : FnOk P w K mg base CX0 1 f3 d3 ["state"] spNeedState) (m3 : mg "need_state" = some (.ref f3)) (k3 : PySem.W.keepIn K (.ref f3) = true) (b3 : Binds K d3 ["state"] [])
    (G4 : FnOk P w K mg base CX0 124 f4 d4 ["sets", "text", "state", "most"] spGuarded) (m4 : mg "guarded_of" = some (.ref f4)) (k4 : PySem.W.keepIn K (.ref f4) = true) (b4 : Binds K d4 ["sets", "text", "state", "most"] []) :
    FnOk P w K mg base CX0 125 f fd ["sets", "text", "state", "most"] spGuarded := by
  refine F.ok scGd (fun vs H Q E h => ?_) (fun cdv A outer s H vs Q E hr h => ?_)
  · obtain ⟨S, t, most, a, st, rfl, _⟩ := h
    rfl
  obtain ⟨S, t, most, a, st, rfl, hS, ok, hst, h40, h20, k⟩ := h
  refine ⟨_, (pss_cons (ps_expr (pe_call G1 (hr.mono (by decide)) (by rfl) m1 k1 b1 .nil pass0 (pa_cons (pv 0) pa_nil))) (pss_cons (ps_expr (pe_call G2 (hr.mono (by decide)) (by rfl) m2 k2 b2 .nil pass0 (pa_cons (pv 0) (pa_cons (pv 1) pa_nil)))) (pss_cons (ps_expr (pe_call G3 (hr.mono (by decide)) (by rfl) m3 k3 b3 .nil pass0 (pa_cons (pv 2) pa_nil))) (pss_cons (ps_if (pt_not (pt_chain op_le op_le pe_int (pv 3) (pe_glob (v := .int 20) (by rfl) mM ⟨_, rfl⟩))) (pss_one (ps_never)) pss_nil) (pss_one (ps_ret (pe_call G4 hr (by rfl) m4 k4 b4 .nil pass0 (pa_cons (pv 0) (pa_cons (pv 1) (pa_cons (pv 2) (pa_cons (pv 3) pa_nil))))))))))), ?_⟩
  refine ⟨_, rfl, a, S, rfl, hS, ok, fun H1 s1 => ?_⟩
  refine ⟨_, rfl, _, rfl, a, S, t, rfl, keepS s1 hS, ok, hst, fun H2 s2 => ?_⟩
  refine ⟨_, rfl, st, rfl, fun H3 s3 => ?_⟩
  refine ⟨_, rfl, _, _, rfl, rfl, _, rfl, ifD (by omega) ⟨_, _, rfl, rfl, _, rfl, ?_⟩⟩
  refine ifN (by omega) ?_
  have s4 := s1.trans (s2.trans s3)
  exact ⟨_, rfl, _, rfl, _, rfl, _, rfl, S, t, most, a, st, rfl, keepS s4 hS, ok, hst, h40, h20, fun H' r wd s5 hb hr5 f5 => k H' r wd (s4.trans s5) hb hr5 (s4.free f5)⟩
end
end SR

namespace SR
open PySem PySem.Spec PyProof.Rows L2
theorem ixN_nat {n k : Nat} (h : k < n) : ixN n (k : Int) = some k := by
  unfold ixN
  rw [if_pos (Int.natCast_nonneg k), if_pos (by omega), Int.toNat_natCast]
theorem seq_nat {n k : Nat} (h : k < n) : seqIndex? (k : Int) n = some k := (ixN_seq (ixN_nat h)).1
theorem ix0 (n : Nat) : ixN (n + 2) 0 = some 0 := ixN_nat (k := 0) (by omega)
theorem ix1 (n : Nat) : ixN (n + 2) 1 = some 1 := ixN_nat (k := 1) (by omega)
theorem sx2 (n : Nat) : seqIndex? 2 (n + 3) = some 2 := seq_nat (k := 2) (by omega)
def sgV (c : Nat) : V := .str (sg c)
/-! ### == and != with the empty list -/
theorem shaped_all {xs : List PyData} (h : ∀ d ∈ xs, d.canLay0 = true ∧ d.depth ≤ 60) : SeqAt.shaped (.list xs) = true := by
  have h1 : ∀ xs : List PyData, (∀ d ∈ xs, d.canLay0 = true ∧ d.depth ≤ 60) → PyData.canLayAll0 xs = true ∧ PyData.depthAll xs ≤ 60 := by
    intro xs
    induction xs with
    | nil => intro _; simp [PyData.canLayAll0, PyData.depthAll]
    | cons x xs ih =>
      intro h
      obtain ⟨a, b⟩ := h x List.mem_cons_self
      obtain ⟨c, d⟩ := ih fun y hy => h y (List.mem_cons_of_mem _ hy)
      simp only [PyData.canLayAll0, PyData.depthAll]
      rw [a, c]
      exact ⟨rfl, Nat.max_le.mpr ⟨b, d⟩⟩
  obtain ⟨a, b⟩ := h1 xs h
  have h2 : PyData.depth (.list xs) ≤ 64 := by
    simp only [PyData.depth]
    omega
  show (PyData.canLay0 (.list xs) && decide (PyData.depth (.list xs) ≤ 64)) = true
  rw [Bool.and_eq_true]
  exact ⟨by simp only [PyData.canLay0]; exact a, decide_eq_true h2⟩
theorem eqv_nil (xs : List PyData) : PyData.eqv (.list xs) (.list []) = xs.isEmpty := by
  cases xs <;> simp [PyData.eqv, PyData.eqvAll]
theorem dp_ints {K : PySem.W.Frag} {H : Hp} : ∀ ns : List Int, DpAll K H (ns.map V.int) (ns.map PyData.int)
  | [] => .nil
  | n :: ns => .cons (.int n) (dp_ints ns)
theorem dp_sgs {K : PySem.W.Frag} {H : Hp} : ∀ ns : List Nat, DpAll K H (ns.map sgV) (ns.map fun c => PyData.str (sg c))
  | [] => .nil
  | n :: ns => .cons (.str _) (dp_sgs ns)
theorem shaped_sgs {l : List Nat} (h : ∀ c ∈ l, c < 128) : SeqAt.shaped (.list (l.map fun c => PyData.str (sg c))) = true := shaped_all fun d hd => by
  obtain ⟨c, hc, rfl⟩ := List.mem_map.mp hd
  have := h c hc
  refine ⟨?_, by simp [PyData.depth]⟩
  show (sg c).cps.all (· < 0x110000) = true
  simp [sg]
  omega
theorem shaped_nil : SeqAt.shaped (.list []) = true := shaped_all fun d hd => nomatch hd
/-! ### the dice -/
def DAt (H : Hp) (d : Addr) : Prop := ∃ (x y : Int) (zs : List Int), H d = some (.lst (.int x :: .int y :: zs.map V.int)) ∧ zs.length ≤ 100
theorem keepD {H H' : Hp} (s : Same H H') {d : Addr} (h : DAt H d) : DAt H' d := let ⟨x, y, zs, e, l⟩ := h; ⟨x, y, zs, s _ _ e, l⟩
section
variable {P : Program} {w : World} {K : PySem.W.Frag} {mg : Str → Option Value} {base : Heap}
/-! ### _law_dice -/
theorem scDice : FnScope ["_law_script", "_law_k", "_law_found", "_law_cell"] ["_law_script", "_law_k"] (defScope sDice) := ⟨rfl, rfl, rfl, by decide +kernel, rfl, by decide +kernel, by decide +kernel⟩
def spDice (K : PySem.W.Frag) : Sp := fun vs H Q _ => ∃ (a : Addr) (ns : List Int) (k0 : Int), vs = [.ref a, .int k0] ∧ SqL K H a (ns.map V.int) ∧ ns.length ≤ 63 ∧ ∀ H' r, Same H H' → H r = none → DAt H' r → Q (.ref r) H'
theorem ok_dice {f : Addr} {fd : FuncData} (F : Fun K "_law_dice" "_law_dice" sDice f fd) (B : Bt mg) : FnOk P w K mg base CX0 1 f fd ["_law_script", "_law_k"] (spDice K) := by
  refine F.ok scDice (fun vs H Q E h => ?_) (fun cdv A outer s H vs Q E hr h => ?_)
  · obtain ⟨a, ns, k0, rfl, _⟩ := h
    rfl
  obtain ⟨a, ns, k0, rfl, hS, hl, k⟩ := h
  refine ⟨_, (pss_cons (ps_set (i := 2) scDice.nd rfl (.inl rfl) (pv 1)) (pss_cons (ps_for PassesOwn.never rfl (pi_list (pv 0)) (pg_name (i := 3) scDice.nd rfl (.inl rfl)) (pss_one (ps_set (i := 2) scDice.nd rfl (.inl rfl) (pe_op op_mod (pe_op op_add (pe_op op_mul (pv 2) pe_int) (pe_callB call_abs (by rfl) B.abs (by decide +kernel) (pa_cons (pv 3) pa_nil))) pe_int)))) (pss_one (ps_ret (pe_op op_cat (pe_lst (pa_cons (pv 2) (pa_cons (pe_int) pa_nil))) (pe_lc (own := [("_law_cell", 3)]) (g := gName 3) (tt := tTest (tOp (rI0 fun i j => .bl (decide (j ≤ i))) (tVar 3) (tOp (rI CPow fun i j => .int (i ^ j.toNat)) (tC (.int 10)) (tC (.int 18))))) (te := tVar 3) rfl scDice.nd (pi_list (pv 0)) (blkOk_by (own := [("_law_cell", 3)]) (N := ["_law_script", "_law_k", "_law_found", "_law_cell"]) (sc := defScope sDice) (by decide +kernel)) (fun _ _ _ _ _ => pg_name (i := 3) scDice.nd rfl (Or.inl rfl)) (fun _ _ _ _ _ => pts_one (pt_cmpR op_ge (pv 3) (pe_op op_pow pe_int pe_int) (nomark _)))
    (fun _ _ _ _ _ => pv 3))))))), ?_⟩
  refine ⟨_, rfl, _, rfl, a, rfl, ⟨_, hS⟩, for_list (K := K) (a := a) (xs := ns.map V.int) (fun i σ H' => H' = H ∧ ∃ c v3, σ = [some (.ref a), some (.int k0), some (.int c), v3])
    ⟨rfl, _, none, rfl⟩ (fun i σ H' _ ⟨e, _⟩ => by rw [e]; exact hS) ?_ ?_⟩
  · rintro i x σ H1 hx ⟨rfl, c, v3, rfl⟩
    obtain ⟨z, rfl, _⟩ := ints_at hx
    exact ⟨_, rfl, _, _, rfl, rfl, .inr ⟨by decide, by decide⟩, _, rfl, _, rfl, _, _, rfl, rfl, _, _, rfl, rfl, (by show (0 : Int) < 2147483647; decide), rfl, _, some (.int z), rfl⟩
  · rintro σ H1 ⟨rfl, c, v3, rfl⟩
    refine ⟨_, rfl, (by show 2 ≤ sizeLine; decide), fun T nT => ?_⟩
    have s1 := same_upd (o := .lst [.int c, .int 0]) nT
    refine ⟨_, rfl, a, rfl, ⟨_, s1.seq hS⟩, fun D nD => lc_list (K := K) (a := a) (xs := ns.map V.int) (fun i H' => Same (upd H1 T (.lst [.int c, .int 0])) H' ∧ ∃ zs : List Int, H' D = some (.lst (zs.map V.int)) ∧ zs.length ≤ i)
      ⟨same_upd nD, [], upd_same, Nat.le_refl _⟩ (fun i H' _ ⟨s, _⟩ => (s1.trans s).seq hS) ?_ ?_⟩
    · rintro i x H2 hx ⟨s2, zs, hD, hz⟩
      obtain ⟨z, rfl, e⟩ := ints_at hx
      have hi : i < ns.length := (List.getElem?_eq_some_iff.mp e).1
      refine ⟨rfl, _, rfl, _, _, rfl, rfl, ⟨by decide, by decide, by decide⟩, _, _, rfl, rfl, _, rfl, ite2 (fun _ => ?_) (fun _ => ?_)⟩
      · refine ⟨_, rfl, _, hD, sm' (by rw [List.length_map]; omega), fun b o q => ?_, zs ++ [z], ?_, by simp; omega⟩
        · rw [upd_ne (ne_of_none q nD)]; exact s2 b o q
        · rw [upd_same, List.map_append]; rfl
      · exact ⟨s2, zs, hD, by omega⟩
    · rintro H2 ⟨s2, zs, hD, hz⟩
      rw [List.length_map] at hz
      refine ⟨T, D, _, _, rfl, rfl, s2 _ _ upd_same, hD, sm (by rw [List.length_map]; show 2 + _ ≤ _; omega), fun r nr => ?_⟩
      have s3 := s1.trans (s2.trans (same_upd (o := .lst ([.int c, .int 0] ++ zs.map V.int)) nr))
      exact k _ r s3 ((s1.trans s2).free nr) ⟨c, 0, zs, upd_same, by omega⟩
/-! ### _law_off -/
theorem scOff : FnScope ["_law_d", "_law_most", "_law_found"] ["_law_d", "_law_most"] (defScope sOff) := ⟨rfl, rfl, rfl, by decide +kernel, rfl, by decide +kernel, by decide +kernel⟩
def spOff : Sp := fun vs H Q _ => ∃ (d : Addr) (m : Int), vs = [.ref d, .int m] ∧ DAt H d ∧ 0 < m ∧ m < 1000 ∧ ∀ H' r, Kp d H H' → DAt H' d → 0 ≤ r → r < m → Q (.int r) H'
theorem ok_off {f : Addr} {fd : FuncData} (F : Fun K "_law_off" "_law_off" sOff f fd) (B : Bt mg) : FnOk P w K mg base CX0 1 f fd ["_law_d", "_law_most"] spOff := by
  refine F.ok scOff (fun vs H Q E h => ?_) (fun cdv A outer s H vs Q E hr h => ?_)
  · obtain ⟨d, m, rfl, _⟩ := h
    rfl
  obtain ⟨d, m, rfl, ⟨x, y, zs, hd, hz⟩, m0, m1, k⟩ := h
  refine ⟨_, (pss_cons (ps_if (PW.pt (pw_and (pt_cmpR op_eq (pe_ix ix_list (pv 0) pe_int (fun _ _ => rfl)) pe_int (nomark _)) (pw_and1 (pt_cmpR op_gt (pe_callB call_len_seq (by rfl) B.len PySem.boot_len (pa_cons (pv 0) pa_nil)) pe_int (nomark _)))))
      (pss_one (ps_asg (pe_bm PySem.F.plainAttrs_list PySem.F.slot_list_pop PySem.F.type_list_pop mt_popAt (pv 0) (pa_cons (pe_int) pa_nil)) (pg_sub (pv 0) pe_int set_list))) pss_nil) (pss_cons (ps_if (pt_cmpR op_gt (pe_ix ix_list (pv 0) pe_int (fun _ _ => rfl)) pe_int (nomark _))
      (pss_cons (ps_set (i := 2) scOff.nd rfl (.inl rfl) (pe_op op_mod (pe_ix ix_list (pv 0) pe_int (fun _ _ => rfl)) (pv 1))) (pss_cons (ps_asg (pe_op op_fdiv (pe_ix ix_list (pv 0) pe_int (fun _ _ => rfl)) (pv 1)) (pg_sub (pv 0) pe_int set_list)) (pss_one (ps_ret (pv 2))))) pss_nil) (pss_cons (ps_asg (pe_op op_mod (pe_op op_add (pe_op op_mul (pe_ix ix_list (pv 0) pe_int (fun _ _ => rfl)) pe_int) pe_int) pe_int) (pg_sub (pv 0) pe_int set_list)) (pss_one (ps_ret (pe_op op_mod (pe_op op_fdiv (pe_ix ix_list (pv 0) pe_int (fun _ _ => rfl)) pe_int) (pv 1))))))), ?_⟩
  have zl : ∀ (x y : Int) (zs : List Int), (V.int x :: V.int y :: zs.map V.int).length = zs.length + 2 := fun x y zs => by simp
  refine ⟨_, rfl, d, _, 1, _, rfl, rfl, SqL.of hd, atI_nat (j := 1) rfl, rfl, _, rfl, ?_⟩
  have kpu : ∀ (H : Hp) (o : HO), Kp d H (upd H d o) := fun H o b u e hb => by rw [upd_ne hb]; exact e
  by_cases h0 : y = 0
  · refine ifD (by rw [h0]) ?_
    refine ⟨_, rfl, d, _, rfl, .inl (SqL.of hd), _, _, rfl, rfl, _, rfl, ?_⟩
    cases zs with
    | nil =>
      refine ifDN (by rw [zl]; simp) ?_
      have kp1 : Kp d H H := Kp.refl d H
      have hd1 : H d = some (.lst (.int x :: .int y :: ([] : List Int).map V.int)) := hd
      have hz1 : ([] : List Int).length ≤ 100 := Nat.zero_le _
      refine ⟨_, rfl, d, _, 1, _, rfl, rfl, SqL.of hd1, atI_nat (j := 1) rfl, _, _, rfl, rfl, _, rfl, ite2 (fun e => ?_) (fun e => ?_)⟩
      · refine ⟨_, rfl, d, _, 1, _, rfl, rfl, SqL.of hd1, atI_nat (j := 1) rfl, _, rfl, _, _, rfl, rfl, m0, ?_⟩
        refine ⟨_, rfl, d, _, 1, _, rfl, rfl, SqL.of hd1, atI_nat (j := 1) rfl, _, rfl, _, _, rfl, rfl, ⟨m0, by omega⟩, ?_⟩
        refine ⟨_, rfl, d, _, 1, 1, rfl, rfl, hd1, (by rw [zl]; first | exact ix1 _ | exact ix0 _), ?_⟩
        refine ⟨_, rfl, k _ _ (kp1.trans (kpu _ _)) ⟨x, _, _, upd_same, hz1⟩ (Int.emod_nonneg _ (by omega)) (Int.emod_lt_of_pos _ m0)⟩
      · refine ⟨_, rfl, d, _, 0, _, rfl, rfl, SqL.of hd1, atI_nat (j := 0) rfl, _, _, rfl, rfl, .inr ⟨by decide, by decide⟩, _, _, rfl, rfl, _, _, rfl, rfl, (by show (0 : Int) < 2147483647; decide), ?_⟩
        refine ⟨_, rfl, d, _, 0, 0, rfl, rfl, hd1, (by rw [zl]; first | exact ix1 _ | exact ix0 _), ?_⟩
        refine ⟨_, rfl, d, _, 0, _, rfl, rfl, SqL.of upd_same, atI_nat (j := 0) rfl, _, _, rfl, rfl, ⟨by decide, by decide⟩, _, rfl, _, _, rfl, rfl, m0, ?_⟩
        exact k _ _ (kp1.trans (kpu _ _)) ⟨_, _, _, upd_same, hz1⟩ (Int.emod_nonneg _ (by omega)) (Int.emod_lt_of_pos _ m0)
    | cons z zr =>
      refine ifD (by rw [zl, List.length_cons]; omega) ?_
      refine ⟨_, rfl, .inl ⟨rfl, _, SqL.of hd⟩, d, _, 2, 2, .int z, rfl, rfl, hd, by decide, by decide, (by rw [zl]; exact sx2 _), rfl, ?_⟩
      refine ⟨_, rfl, d, _, 1, 1, rfl, rfl, upd_same, (by show ixN (V.int x :: V.int y :: zr.map V.int).length 1 = _; rw [zl]; exact ix1 _), ?_⟩
      have kp1 : Kp d H (upd (upd H d (.lst ((V.int x :: V.int y :: (z :: zr).map V.int).eraseIdx 2))) d (.lst (((V.int x :: V.int y :: (z :: zr).map V.int).eraseIdx 2).set 1 (.int z)))) := (kpu _ _).trans (kpu _ _)
      have hd1 : (upd (upd H d (.lst ((V.int x :: V.int y :: (z :: zr).map V.int).eraseIdx 2))) d (.lst (((V.int x :: V.int y :: (z :: zr).map V.int).eraseIdx 2).set 1 (.int z)))) d = some (.lst (.int x :: .int z :: zr.map V.int)) := upd_same
      have hz1 : zr.length ≤ 100 := by simp at hz; omega
      refine ⟨_, rfl, d, _, 1, _, rfl, rfl, SqL.of hd1, atI_nat (j := 1) rfl, _, _, rfl, rfl, _, rfl, ite2 (fun e => ?_) (fun e => ?_)⟩
      · refine ⟨_, rfl, d, _, 1, _, rfl, rfl, SqL.of hd1, atI_nat (j := 1) rfl, _, rfl, _, _, rfl, rfl, m0, ?_⟩
        refine ⟨_, rfl, d, _, 1, _, rfl, rfl, SqL.of hd1, atI_nat (j := 1) rfl, _, rfl, _, _, rfl, rfl, ⟨m0, by omega⟩, ?_⟩
        refine ⟨_, rfl, d, _, 1, 1, rfl, rfl, hd1, (by rw [zl]; first | exact ix1 _ | exact ix0 _), ?_⟩
        refine ⟨_, rfl, k _ _ (kp1.trans (kpu _ _)) ⟨x, _, _, upd_same, hz1⟩ (Int.emod_nonneg _ (by omega)) (Int.emod_lt_of_pos _ m0)⟩
      · refine ⟨_, rfl, d, _, 0, _, rfl, rfl, SqL.of hd1, atI_nat (j := 0) rfl, _, _, rfl, rfl, .inr ⟨by decide, by decide⟩, _, _, rfl, rfl, _, _, rfl, rfl, (by show (0 : Int) < 2147483647; decide), ?_⟩
        refine ⟨_, rfl, d, _, 0, 0, rfl, rfl, hd1, (by rw [zl]; first | exact ix1 _ | exact ix0 _), ?_⟩
        refine ⟨_, rfl, d, _, 0, _, rfl, rfl, SqL.of upd_same, atI_nat (j := 0) rfl, _, _, rfl, rfl, ⟨by decide, by decide⟩, _, rfl, _, _, rfl, rfl, m0, ?_⟩
        exact k _ _ (kp1.trans (kpu _ _)) ⟨_, _, _, upd_same, hz1⟩ (Int.emod_nonneg _ (by omega)) (Int.emod_lt_of_pos _ m0)
  · refine ifDN (fun e => h0 (V.int.inj e)) ?_
    refine iteF ?_
    have kp1 : Kp d H H := Kp.refl d H
    have hd1 := hd
    have hz1 := hz
    refine ⟨_, rfl, d, _, 1, _, rfl, rfl, SqL.of hd1, atI_nat (j := 1) rfl, _, _, rfl, rfl, _, rfl, ite2 (fun e => ?_) (fun e => ?_)⟩
    · refine ⟨_, rfl, d, _, 1, _, rfl, rfl, SqL.of hd1, atI_nat (j := 1) rfl, _, rfl, _, _, rfl, rfl, m0, ?_⟩
      refine ⟨_, rfl, d, _, 1, _, rfl, rfl, SqL.of hd1, atI_nat (j := 1) rfl, _, rfl, _, _, rfl, rfl, ⟨m0, by omega⟩, ?_⟩
      refine ⟨_, rfl, d, _, 1, 1, rfl, rfl, hd1, (by rw [zl]; first | exact ix1 _ | exact ix0 _), ?_⟩
      refine ⟨_, rfl, k _ _ (kp1.trans (kpu _ _)) ⟨x, _, _, upd_same, hz1⟩ (Int.emod_nonneg _ (by omega)) (Int.emod_lt_of_pos _ m0)⟩
    · refine ⟨_, rfl, d, _, 0, _, rfl, rfl, SqL.of hd1, atI_nat (j := 0) rfl, _, _, rfl, rfl, .inr ⟨by decide, by decide⟩, _, _, rfl, rfl, _, _, rfl, rfl, (by show (0 : Int) < 2147483647; decide), ?_⟩
      refine ⟨_, rfl, d, _, 0, 0, rfl, rfl, hd1, (by rw [zl]; first | exact ix1 _ | exact ix0 _), ?_⟩
      refine ⟨_, rfl, d, _, 0, _, rfl, rfl, SqL.of upd_same, atI_nat (j := 0) rfl, _, _, rfl, rfl, ⟨by decide, by decide⟩, _, rfl, _, _, rfl, rfl, m0, ?_⟩
      exact k _ _ (kp1.trans (kpu _ _)) ⟨_, _, _, upd_same, hz1⟩ (Int.emod_nonneg _ (by omega)) (Int.emod_lt_of_pos _ m0)
end
end SR

namespace SR
open PySem PySem.Spec PyProof.Rows L2
theorem erase_map {α β : Type} (f : α → β) : ∀ (l : List α) (k : Nat), (l.map f).eraseIdx k = (l.eraseIdx k).map f
  | [], _ => rfl
  | _ :: _, 0 => rfl
  | x :: l, k + 1 => by show f x :: (l.map f).eraseIdx k = f x :: (l.eraseIdx k).map f; rw [erase_map f l k]
theorem erase_perm {α : Type} : ∀ {l : List α} {k : Nat} {c : α}, l[k]? = some c → (c :: l.eraseIdx k).Perm l
  | x :: l, 0, c, h => by
    obtain rfl := Option.some.inj h
    exact List.Perm.refl _
  | x :: l, k + 1, c, h => by
    have ih := erase_perm (l := l) (k := k) (c := c) (by simpa using h)
    exact (List.Perm.swap x c _).trans (ih.cons x)
section
variable {P : Program} {w : World} {K : PySem.W.Frag} {mg : Str → Option Value} {base : Heap}
/-! ### _law_mixed -/
theorem scMixed : FnScope ["_law_d", "_law_row", "_law_left", "_law_found"] ["_law_d", "_law_row"] (defScope sMixed) := ⟨rfl, rfl, rfl, by decide +kernel, rfl, by decide +kernel, by decide +kernel⟩
def spMixed : Sp := fun vs H Q _ => ∃ (d p : Addr) (l : List Nat), vs = [.ref d, .ref p] ∧ DAt H d ∧ H p = some (.lst (l.map sgV)) ∧ l.length ≤ 200 ∧ (∀ c ∈ l, c < 128) ∧
  ∀ H' r (m : List Nat), Kp d H H' → DAt H' d → H r = none → H' r = some (.lst (m.map sgV)) → m.Perm l → Q (.ref r) H'
theorem ok_mixed {f f1 : Addr} {fd d1 : FuncData} (F : Fun K "_law_mixed" "_law_mixed" sMixed f fd) (B : Bt mg)
    (G1 : FnOk P w K mg base CX0 1 f1 d1 ["_law_d", "_law_most"] spOff) (m1 : mg "_law_off" = some (.ref f1)) (k1 : PySem.W.keepIn K (.ref f1) = true) (b1 : Binds K d1 ["_law_d", "_law_most"] []) :
    FnOk P w K mg base CX0 2 f fd ["_law_d", "_law_row"] spMixed := by
  refine F.ok scMixed (fun vs H Q E h => ?_) (fun cdv A outer s H vs Q E hr h => ?_)
  · obtain ⟨d, p, l, rfl, _⟩ := h
    rfl
  obtain ⟨d, p, l, rfl, hd, hp, hl, hc, k⟩ := h
  refine ⟨_, (pss_cons (ps_set (i := 2) scMixed.nd rfl (.inl rfl) (pe_callTy call_list_of (by rfl) B.list (by decide +kernel) (pa_cons (pv 1) pa_nil))) (pss_cons (ps_set (i := 3) scMixed.nd rfl (.inl rfl) (pe_lst pa_nil)) (pss_cons (ps_while PassesOwn.never (pt_cmpR (op_neD hr.units) (pv 2) (pe_lst pa_nil) (nomark _)) (pss_one (ps_expr (pe_bm PySem.F.plainAttrs_list PySem.F.slot_list_append PySem.F.type_list_append mt_append (pv 3)
        (pa_cons (pe_bm PySem.F.plainAttrs_list PySem.F.slot_list_pop PySem.F.type_list_pop mt_popAt (pv 2) (pa_cons (pe_call G1 hr (by rfl) m1 k1 b1 .nil pass0 (pa_cons (pv 0) (pa_cons (pe_callB call_len_seq (by rfl) B.len PySem.boot_len (pa_cons (pv 2) pa_nil)) pa_nil))) pa_nil)) pa_nil))))) (pss_one (ps_ret (pv 3)))))), ?_⟩
  refine ⟨_, rfl, p, _, rfl, .inl (SqL.of hp), fun L nL => ?_⟩
  have s1 := same_upd (o := .lst (l.map sgV)) nL
  refine ⟨(by show 0 ≤ sizeLine; decide), fun D nD => ?_⟩
  have s2 := same_upd (o := .lst []) nD
  have nD0 : H D = none := s1.free nD
  have nLD : L ≠ D := ne_of_none upd_same nD
  refine ⟨fun m σ H' => ∃ lf fd : List Nat, m = lf.length ∧ (fd ++ lf).Perm l ∧ σ = [some (.ref d), some (.ref p), some (.ref L), some (.ref D)] ∧ Kp d H H' ∧ DAt H' d ∧ H' L = some (.lst (lf.map sgV)) ∧ H' D = some (.lst (fd.map sgV)),
    ⟨_, l, [], rfl, List.Perm.refl _, rfl, .of (s1.trans s2), keepD (s1.trans s2) hd, s2 _ _ upd_same, upd_same⟩, ?_⟩
  rintro m σ H1 ⟨lf, fd, rfl, pm, rfl, kp, hd1, hL, hD⟩
  have hlen : fd.length + lf.length = l.length := by rw [← List.length_append]; exact pm.length_eq
  have hcf : ∀ c ∈ lf, c < 128 := fun c h => hc c (pm.subset (List.mem_append_right _ h))
  refine ⟨_, rfl, (by show 0 ≤ sizeLine; decide), fun T nT => ?_⟩
  have s3 := same_upd (o := .lst []) nT
  refine ⟨_, _, .lst (SqL.of (s3 _ _ hL)) (dp_sgs lf), .lst (SqL.of upd_same) .nil, shaped_sgs hcf, shaped_nil, _, rfl, ?_⟩
  rw [eqv_nil]
  cases lf with
  | nil =>
    refine iteF ?_
    refine ⟨_, rfl, k _ D fd (kp.trans (.of s3)) (keepD s3 hd1) nD0 (s3 _ _ hD) ?_⟩
    rw [List.append_nil] at pm
    exact pm
  | cons c0 lr =>
    refine iteT ?_
    refine ⟨fun σ' H' => ∃ lf fd : List Nat, lf.length < (c0 :: lr).length ∧ (fd ++ lf).Perm l ∧ σ' = [some (.ref d), some (.ref p), some (.ref L), some (.ref D)] ∧ Kp d H H' ∧ DAt H' d ∧ H' L = some (.lst (lf.map sgV)) ∧ H' D = some (.lst (fd.map sgV)),
      fun σ' H' ⟨lf, fd, h1, h2⟩ => ⟨_, h1, lf, fd, rfl, h2⟩, ?_⟩
    refine ⟨_, rfl, .inl ⟨rfl, _, SqL.of (s3 _ _ hD)⟩, _, rfl, .inl ⟨rfl, _, SqL.of (s3 _ _ hL)⟩, _, rfl, _, rfl, L, _, rfl, .inl (SqL.of (s3 _ _ hL)), ?_⟩
    have el : ((c0 :: lr).map sgV).length = (c0 :: lr).length := List.length_map _
    refine ⟨d, _, rfl, keepD s3 hd1, by rw [el, List.length_cons]; omega, by rw [el]; omega, fun H2 r kp2 hd2 h0 h1 => ?_⟩
    rw [el] at h1
    obtain ⟨x, y, zs, hdd, _⟩ := id hd
    have dL : L ≠ d := fun z => by
      subst z
      rw [nL] at hdd
      cases hdd
    have dD : D ≠ d := fun z => by
      subst z
      rw [nD0] at hdd
      cases hdd
    have hL2 : H2 L = some (.lst ((c0 :: lr).map sgV)) := kp2 _ _ (s3 _ _ hL) dL
    have hD2 : H2 D = some (.lst (fd.map sgV)) := kp2 _ _ (s3 _ _ hD) dD
    obtain ⟨c, hcx⟩ : ∃ c, (c0 :: lr)[r.toNat]? = some c := ⟨_, List.getElem?_eq_getElem (by omega)⟩
    have er : r = ((r.toNat : Nat) : Int) := (Int.toNat_of_nonneg h0).symm
    refine ⟨L, _, r, r.toNat, sgV c, rfl, rfl, hL2, by omega, by omega, ?_, by rw [List.getElem?_map, hcx]; rfl, ?_⟩
    · have z : seqIndex? ((r.toNat : Nat) : Int) ((c0 :: lr).map sgV).length = some r.toNat := seq_nat (by rw [el]; omega)
      rw [← er] at z
      exact z
    refine ⟨D, _, sgV c, rfl, rfl, (by rw [upd_ne nLD.symm]; exact hD2), sm' (by rw [List.length_map]; omega), ?_⟩
    have pe := erase_perm hcx
    refine ⟨(c0 :: lr).eraseIdx r.toNat, fd ++ [c], ?_, ?_, rfl, ?_, ?_, ?_, ?_⟩
    · have := pe.length_eq
      simp only [List.length_cons] at this ⊢
      omega
    · refine List.Perm.trans ?_ pm
      rw [List.append_assoc]
      exact List.Perm.append_left _ pe
    · intro b o e hb
      have e2 := kp2 _ _ (s3 _ _ (kp b o e hb)) hb
      rw [upd_ne (ne_of_none e nD0), upd_ne (fun z => by subst z; rw [nL] at e; cases e)]
      exact e2
    · obtain ⟨x2, y2, z2, e2, l2⟩ := hd2
      exact ⟨x2, y2, z2, by rw [upd_ne dD.symm, upd_ne dL.symm]; exact e2, l2⟩
    · rw [upd_ne nLD, upd_same, erase_map]
    · rw [upd_same, List.map_append]
      rfl
end
end SR

namespace SR
open PySem PySem.Spec PyProof.Rows L2
section
variable {P : Program} {w : World} {K : PySem.W.Frag} {mg : Str → Option Value} {base : Heap}
/-! ### _law_alike -/
theorem scAlike : FnScope ["_law_found", "_law_due", "_law_k"] ["_law_found", "_law_due"] (defScope sAlike) := ⟨rfl, rfl, rfl, by decide +kernel, rfl, by decide +kernel, by decide +kernel⟩
def spAlike (R : Sp) : Sp := fun vs H Q _ => (∃ x : Int, vs = [.int x, .int x] ∧ Q (.bl true) H) ∨
  ∃ (p q : Addr) (ns : List Int), vs = [.ref p, .ref q] ∧ H p = some (.lst (ns.map V.int)) ∧ H q = some (.lst (ns.map V.int)) ∧ ns.length ≤ 1000 ∧ (∀ (x : Int) H' Q', Q' (.bl true) H' → R [.int x, .int x] H' Q' E0) ∧ ∀ H', Same H H' → Q (.bl true) H'
theorem ty_ii {x : Int} {H : Hp} : TyX K H (.int x) (.type "int") := .base (.int x)
theorem ok_alike {f f1 : Addr} {fd d1 : FuncData} {n : Nat} {R : Sp} (F : Fun K "_law_alike" "_law_alike" sAlike f fd) (B : Bt mg)
    (G1 : FnOk P w K mg base CX0 n f1 d1 ["_law_found", "_law_due"] R) (m1 : mg "_law_alike" = some (.ref f1)) (k1 : PySem.W.keepIn K (.ref f1) = true) (b1 : Binds K d1 ["_law_found", "_law_due"] []) :
    FnOk P w K mg base CX0 (n + 1) f fd ["_law_found", "_law_due"] (spAlike R) := by
  refine F.ok scAlike (fun vs H Q E h => ?_) (fun cdv A outer s H vs Q E hr h => ?_)
  · rcases h with ⟨x, rfl, _⟩ | ⟨p, q, ns, rfl, _⟩ <;> rfl
  refine ⟨_, (pss_cons (ps_if (pt_cmp (pc_isN (pv 1))) (pss_one (ps_ret (pe_cmp (pc_isN (pv 0))))) pss_nil) (pss_cons (ps_if (pt_val (pe_callB call_isi (by rfl) B.isinstance (by decide +kernel) (pa_cons (pv 1) (pa_cons (pe_bltn (v := .ty "bool") (by rfl) B.bool (by decide +kernel) rfl) pa_nil)))) (pss_one (ps_ret (pe_and (pe_callB call_isi (by rfl) B.isinstance (by decide +kernel) (pa_cons (pv 0) (pa_cons (pe_bltn (v := .ty "bool") (by rfl) B.bool (by decide +kernel) rfl) pa_nil))) (pe_one (pe_cmpR op_eq (pv 0) (pv 1) (nomark _)))))) pss_nil) (pss_cons (ps_if (pt_val (pe_callB call_isi (by rfl) B.isinstance (by decide +kernel) (pa_cons (pv 1) (pa_cons (pe_bltn (v := .ty "int") (by rfl) B.int (by decide +kernel) rfl) pa_nil)))) (pss_one (ps_ret (pe_and (pe_callB call_isi (by rfl) B.isinstance (by decide +kernel) (pa_cons (pv 0) (pa_cons (pe_bltn (v := .ty "int") (by rfl) B.int (by decide +kernel) rfl) pa_nil))) (pe_and (pe_not (pe_callB call_isi (by rfl) B.isinstance (by decide +kernel) (pa_cons (pv 0) (pa_cons (pe_bltn (v := .ty "bool") (by rfl) B.bool (by decide +kernel) rfl) pa_nil)))) (pe_one (pe_cmpR op_eq (pv 0) (pv 1) (nomark _))))))) pss_nil) (pss_cons (ps_if (pt_val (pe_callB call_isi (by rfl) B.isinstance (by decide +kernel) (pa_cons (pv 1) (pa_cons (pe_bltn (v := .ty "str") (by rfl) B.str (by decide +kernel) rfl) pa_nil)))) (pss_one (ps_ret (pe_and (pe_callB call_isi (by rfl) B.isinstance (by decide +kernel) (pa_cons (pv 0) (pa_cons (pe_bltn (v := .ty "str") (by rfl) B.str (by decide +kernel) rfl) pa_nil))) (pe_one (pe_cmpR op_eq (pv 0) (pv 1) (nomark _)))))) pss_nil) (pss_cons (ps_if (PW.pt (pw_or (pt_cmpR op_ne (pe_callB call_isi (by rfl) B.isinstance (by decide +kernel) (pa_cons (pv 1) (pa_cons (pe_bltn (v := .ty "tuple") (by rfl) B.tuple (by decide +kernel) rfl) pa_nil))) (pe_callB call_isi (by rfl) B.isinstance (by decide +kernel) (pa_cons (pv 0) (pa_cons (pe_bltn (v := .ty "tuple") (by rfl) B.tuple (by decide +kernel) rfl) pa_nil))) (nomark _))
        (pw_or1 (pt_cmpR op_ne (pe_callB call_isi (by rfl) B.isinstance (by decide +kernel) (pa_cons (pv 1) (pa_cons (pe_bltn (v := .ty "list") (by rfl) B.list (by decide +kernel) rfl) pa_nil))) (pe_callB call_isi (by rfl) B.isinstance (by decide +kernel) (pa_cons (pv 0) (pa_cons (pe_bltn (v := .ty "list") (by rfl) B.list (by decide +kernel) rfl) pa_nil))) (nomark _))))) (pss_one (ps_ret pe_bl)) pss_nil) (pss_cons (ps_if (pt_cmpR op_ne (pe_callB call_len_seq (by rfl) B.len PySem.boot_len (pa_cons (pv 0) pa_nil)) (pe_callB call_len_seq (by rfl) B.len PySem.boot_len (pa_cons (pv 1) pa_nil)) (nomark _)) (pss_one (ps_ret pe_bl)) pss_nil) (pss_one (ps_ret (pe_callB (cr_all rfl) (by rfl) B.all (by decide +kernel) (pa_cons (pe_lc (own := [("_law_k", 2)]) (g := gName 2) (tt := tYes) (te := tCall R [] E0 (tCons (tOp (rIxL K) (tVar 0) (tVar 2)) (tCons (tOp (rIxL K) (tVar 1) (tVar 2)) tNil))) rfl scAlike.nd (pi_range1 (by rfl) B.range (pa_cons (pe_callB call_len_seq (by rfl) B.len PySem.boot_len (pa_cons (pv 1) pa_nil)) pa_nil)) (blkOk_by (own := [("_law_k", 2)]) (N := ["_law_found", "_law_due", "_law_k"]) (sc := defScope sAlike) (by decide +kernel)) (fun _ _ _ _ _ => pg_name (i := 2) scAlike.nd rfl (Or.inl rfl)) (fun _ _ _ _ _ => pts_nil)
      (fun _ _ _ _ _ => pe_call G1 hr (by rfl) m1 k1 b1 .nil pass0 (pa_cons (pe_ix ix_list (pv 0) (pv 2) (fun _ _ => rfl)) (pa_cons (pe_ix ix_list (pv 1) (pv 2) (fun _ _ => rfl)) pa_nil)))) pa_nil)))))))))), ?_⟩
  rcases h with ⟨x, rfl, k⟩ | ⟨p, q, ns, rfl, hp, hq, hl, hR, k⟩
  · refine ⟨_, rfl, _, rfl, ifDN (fun e => nomatch e) ?_⟩
    refine ⟨_, rfl, _, _, _, _, false, rfl, .ty _, ty_ii, kit_ty (by decide +kernel), _, rfl, iteF ?_⟩
    refine ⟨_, rfl, _, _, _, _, true, rfl, .ty _, ty_ii, kit_ty (by decide +kernel), _, rfl, iteT ?_⟩
    refine ⟨_, rfl, _, _, _, _, true, rfl, .ty _, ty_ii, kit_ty (by decide +kernel), _, rfl, iteT ?_⟩
    refine ⟨_, rfl, _, _, _, _, false, rfl, .ty _, ty_ii, kit_ty (by decide +kernel), _, rfl, _, rfl, iteT ?_⟩
    refine ⟨_, rfl, _, rfl, rfl, ?_⟩
    rw [decide_eq_true rfl]
    exact k
  · have tp : TyX K H (.ref p) (.type "list") := .base (.lst hp)
    have tq : TyX K H (.ref q) (.type "list") := .base (.lst hq)
    have el : (ns.map V.int).length = ns.length := List.length_map _
    refine ⟨_, rfl, _, rfl, ifDN (fun e => nomatch e) ?_⟩
    refine ⟨_, rfl, _, _, _, _, false, rfl, .ty _, tq, kit_ty (by decide +kernel), _, rfl, iteF ?_⟩
    refine ⟨_, rfl, _, _, _, _, false, rfl, .ty _, tq, kit_ty (by decide +kernel), _, rfl, iteF ?_⟩
    refine ⟨_, rfl, _, _, _, _, false, rfl, .ty _, tq, kit_ty (by decide +kernel), _, rfl, iteF ?_⟩
    refine ⟨_, rfl, _, _, _, _, false, rfl, .ty _, tq, kit_ty (by decide +kernel), _, rfl, _, _, _, _, false, rfl, .ty _, tp, kit_ty (by decide +kernel), rfl, _, rfl, ifN rfl ?_⟩
    refine ⟨_, rfl, _, _, _, _, true, rfl, .ty _, tq, kit_ty (by decide +kernel), _, rfl, _, _, _, _, true, rfl, .ty _, tp, kit_ty (by decide +kernel), rfl, _, rfl, ifN rfl ?_⟩
    refine ⟨_, rfl, p, _, rfl, .inl (SqL.of hp), _, rfl, q, _, rfl, .inl (SqL.of hq), rfl, _, rfl, ifN rfl ?_⟩
    refine ⟨_, rfl, q, _, rfl, .inl (SqL.of hq), _, rfl, by rw [el]; omega, by rw [el]; omega, fun D nD => ?_⟩
    rw [el]
    refine lc_range (lo := 0) (n := (ns.length : Int).toNat) (fun i H' => Same H H' ∧ H' D = some (.lst ((List.replicate i true).map V.bl))) ⟨same_upd nD, upd_same⟩ ?_ ?_
    · rintro i H1 hi ⟨s1, hD⟩
      rw [Int.toNat_natCast] at hi
      have hx : atI (ns.map V.int) (0 + (i : Int)) = some (.int ns[i]) := by
        rw [Int.zero_add]
        exact atI_nat (by rw [List.getElem?_map, List.getElem?_eq_getElem hi]; rfl)
      refine ⟨rfl, _, rfl, _, rfl, p, _, _, _, rfl, rfl, SqL.of (s1 _ _ hp), hx, _, rfl, _, rfl, q, _, _, _, rfl, rfl, SqL.of (s1 _ _ hq), hx, hR _ _ _ ⟨_, hD, sm' (by rw [List.length_map, List.length_replicate]; omega), fun b o e => ?_, ?_⟩⟩
      · rw [upd_ne (ne_of_none e nD)]; exact s1 b o e
      · rw [upd_same, List.replicate_succ', List.map_append]; rfl
    · rintro H1 ⟨s1, hD⟩
      refine ⟨D, _, rfl, SqL.of hD, ?_⟩
      have e : (List.replicate ((ns.length : Int).toNat) true).all id = true := by simp
      rw [e]
      exact k H1 s1
/-- of ints first, then of lists of ints -/
theorem no_alike {f : Addr} {fd : FuncData} : FnOk P w K mg base CX0 0 f fd ["_law_found", "_law_due"] (fun _ _ _ _ => False) :=
  ⟨fun _ _ _ _ h => False.elim h, fun _ _ _ _ _ _ _ _ _ _ _ _ _ h => False.elim h⟩
def spAlikeL : Sp := spAlike (spAlike fun _ _ _ _ => False)
theorem ok_alike2 {f : Addr} {fd : FuncData} (F : Fun K "_law_alike" "_law_alike" sAlike f fd) (B : Bt mg) (m1 : mg "_law_alike" = some (.ref f)) (b1 : Binds K fd ["_law_found", "_law_due"] []) :
    FnOk P w K mg base CX0 2 f fd ["_law_found", "_law_due"] spAlikeL :=
  ok_alike F B (ok_alike F B no_alike m1 F.kp b1) m1 F.kp b1
/-! ### _law_is_tape -/
theorem scIT : FnScope ["_law_tape", "_law_sets_here", "_law_code"] ["_law_tape", "_law_sets_here"] (defScope sIsTape) := ⟨rfl, rfl, rfl, by decide +kernel, rfl, by decide +kernel, by decide +kernel⟩
def spIsTape : Sp := fun vs H Q _ => ∃ (p a : Addr) (S : Sets) (wd : List Int), vs = [.ref p, .ref a] ∧ SetsAt H a S ∧ H p = some (.lst (wd.map V.int)) ∧ SOk S ∧ Codes S wd ∧ ∀ H', Same H H' → Q (.bl true) H'
theorem ok_is_tape {f : Addr} {fd : FuncData} (F : Fun K "_law_is_tape" "_law_is_tape" sIsTape f fd) (B : Bt mg) : FnOk P w K mg base CX0 1 f fd ["_law_tape", "_law_sets_here"] spIsTape := by
  refine F.ok scIT (fun vs H Q E h => ?_) (fun cdv A outer s H vs Q E hr h => ?_)
  · obtain ⟨p, a, S, wd, rfl, _⟩ := h
    rfl
  obtain ⟨p, a, S, wd, rfl, hS, hp, ok, hc, k⟩ := h
  refine ⟨_, (pss_cons (ps_if (pt_not (pt_val (pe_callB call_isi (by rfl) B.isinstance (by decide +kernel) (pa_cons (pv 0) (pa_cons (pe_bltn (v := .ty "list") (by rfl) B.list (by decide +kernel) rfl) pa_nil))))) (pss_one (ps_ret pe_bl)) pss_nil) (pss_cons (ps_if (pt_cmpR (op_neD hr.units) (pe_lc (own := [("_law_code", 2)]) (g := gName 2) (tt := tOr (tNot (tB (tCB (rIsi K) (tCons (tVar 2) (tCons (tC (.ty "int")) tNil))))) (tB (tCB (rIsi K) (tCons (tVar 2) (tCons (tC (.ty "bool")) tNil))))) (te := tVar 2) rfl scIT.nd (pi_list (pv 0)) (blkOk_by (own := [("_law_code", 2)]) (N := ["_law_tape", "_law_sets_here", "_law_code"]) (sc := defScope sIsTape) (by decide +kernel)) (fun _ _ _ _ _ => pg_name (i := 2) scIT.nd rfl (Or.inl rfl))
        (fun _ _ _ _ _ => pts_one (PW.pt (pw_or (pt_not (pt_val (pe_callB call_isi (by rfl) B.isinstance (by decide +kernel) (pa_cons (pv 2) (pa_cons (pe_bltn (v := .ty "int") (by rfl) B.int (by decide +kernel) rfl) pa_nil))))) (pw_or1 (pt_val (pe_callB call_isi (by rfl) B.isinstance (by decide +kernel) (pa_cons (pv 2) (pa_cons (pe_bltn (v := .ty "bool") (by rfl) B.bool (by decide +kernel) rfl) pa_nil)))))))) (fun _ _ _ _ _ => pv 2))
      (pe_lst pa_nil) (nomark _)) (pss_one (ps_ret pe_bl)) pss_nil) (pss_one (ps_ret (pe_cmpR (op_eqD hr.units) (pe_lc (own := [("_law_code", 2)]) (g := gName 2) (tt := tNot (tTest (tChain (rI0 fun i j => .bl (decide (i ≤ j))) (rI0 fun i j => .bl (decide (i < j))) (tC (.int 0)) (tVar 2) (tOp (rI0 fun i j => .int (i + j)) (tCB (fun xs H Q => ∃ z, xs = [.str z] ∧ z.length ≤ sizeLine ∧ Q (.int (z.length : Nat)) H) (tCons (tOp (rIxT K) (tVar 1) (tC (.int 0))) tNil)) (tC (.int 2)))))) (te := tVar 2) rfl scIT.nd (pi_list (pv 0)) (blkOk_by (own := [("_law_code", 2)]) (N := ["_law_tape", "_law_sets_here", "_law_code"]) (sc := defScope sIsTape) (by decide +kernel)) (fun _ _ _ _ _ => pg_name (i := 2) scIT.nd rfl (Or.inl rfl))
        (fun _ _ _ _ _ => pts_one (pt_not (pt_chain op_le op_lt pe_int (pv 2) (pe_op op_add (pe_callB call_len_str (by rfl) B.len PySem.boot_len (pa_cons (pe_ix ix_tup (pv 1) pe_int (fun _ _ => rfl)) pa_nil)) pe_int)))) (fun _ _ _ _ _ => pv 2))
      (pe_lst pa_nil) (nomark _)))))), ?_⟩
  refine ⟨_, rfl, _, _, _, _, true, rfl, .ty _, .base (.lst hp), kit_ty (by decide +kernel), _, rfl, iteF ?_⟩
  refine ⟨_, rfl, p, rfl, ⟨_, SqL.of hp⟩, fun D nD => lc_list (K := K) (a := p) (xs := wd.map V.int) (fun i H' => Same H H' ∧ H' D = some (.lst [])) ⟨same_upd nD, upd_same⟩ (fun i H' _ ⟨s, _⟩ => SqL.of (s _ _ hp)) ?_ ?_⟩
  · rintro i x H1 hx ⟨s1, hD⟩
    obtain ⟨c, rfl, e⟩ := ints_at hx
    exact ⟨rfl, _, rfl, _, _, _, _, true, rfl, .ty _, .base (.int c), kit_ty (by decide +kernel), _, rfl, iteF ⟨_, rfl, _, _, _, _, false, rfl, .ty _, .base (.int c), kit_ty (by decide +kernel), _, rfl, iteF ⟨s1, hD⟩⟩⟩
  · rintro H1 ⟨s1, hD⟩
    refine ⟨(by show 0 ≤ sizeLine; decide), fun T nT => ?_⟩
    have s2 := same_upd (o := .lst []) nT
    refine ⟨_, _, .lst (SqL.of (s2 _ _ hD)) .nil, .lst (SqL.of upd_same) .nil, shaped_nil, shaped_nil, _, rfl, ?_⟩
    rw [eqv_nil]
    refine iteF ?_
    have s3 := s1.trans s2
    refine ⟨_, rfl, p, rfl, ⟨_, SqL.of (s3 _ _ hp)⟩, fun D2 nD2 => lc_list (K := K) (a := p) (xs := wd.map V.int) (fun i H' => Same H H' ∧ H' D2 = some (.lst [])) ⟨s3.trans (same_upd nD2), upd_same⟩ (fun i H' _ ⟨s, _⟩ => SqL.of (s _ _ hp)) ?_ ?_⟩
    · rintro i x H2 hx ⟨s4, hD2⟩
      obtain ⟨c, rfl, e⟩ := ints_at hx
      obtain ⟨c0, c1⟩ := hc c (List.mem_of_getElem? e)
      refine ⟨rfl, _, rfl, _, _, rfl, rfl, _, rfl, ifD c0 ⟨_, rfl, a, _, _, _, rfl, rfl, SqT.of (keepS s4 hS), atI_nat (j := 0) rfl, _, rfl, tx_le (by have := ok.hi; omega), _, _, rfl, rfl, _, _, rfl, rfl, _, rfl, ?_⟩⟩
      refine ifN (by rw [tx_len]; exact c1) ?_
      exact ⟨s4, hD2⟩
    · rintro H2 ⟨s4, hD2⟩
      refine ⟨(by show 0 ≤ sizeLine; decide), fun T2 nT2 => ?_⟩
      have s5 := same_upd (o := .lst []) nT2
      refine ⟨_, _, .lst (SqL.of (s5 _ _ hD2)) .nil, .lst (SqL.of upd_same) .nil, shaped_nil, shaped_nil, ?_⟩
      rw [eqv_nil]
      exact k _ (s4.trans s5)
end
end SR

namespace SR
open PySem PySem.Spec PyProof.Rows L2
theorem df_take : ∀ {x y : List Nat} {i a b : Nat}, x[i]? = some a → y[i]? = some b → df (x.take (i + 1)) (y.take (i + 1)) = df (x.take i) (y.take i) + (if a = b then 0 else 1)
  | p :: x, q :: y, 0, a, b, ha, hb => by
    obtain rfl := Option.some.inj ha
    obtain rfl := Option.some.inj hb
    simp [df]
  | p :: x, q :: y, i + 1, a, b, ha, hb => by
    have ih := df_take (x := x) (y := y) (i := i) (a := a) (b := b) (by simpa using ha) (by simpa using hb)
    simp only [List.take_succ_cons, df]
    rw [ih]
    omega
theorem df_le : ∀ (x y : List Nat), df x y ≤ x.length
  | [], _ => by simp [df]
  | _ :: _, [] => by simp [df]
  | p :: x, q :: y => by
    have := df_le x y
    simp only [df, List.length_cons]
    split <;> omega
theorem cut_head (w : List V) {i : Nat} (h : i ≤ w.length) : cutV w none (some (i : Int)) = w.take i := by
  unfold cutV
  rw [show HT.sIx w.length 0 none = 0 from rfl, HT.sIx_nat, Nat.min_eq_left h, Nat.sub_zero, List.drop_zero]
theorem cut_tail (w : List V) {i : Nat} (h : i ≤ w.length) : cutV w (some (i : Int)) none = w.drop i := by
  unfold cutV
  rw [HT.sIx_nat, Nat.min_eq_left h, show HT.sIx w.length w.length none = w.length from rfl]
  exact List.take_of_length_le (by rw [List.length_drop]; omega)
section
variable {P : Program} {w : World} {K : PySem.W.Frag} {mg : Str → Option Value} {base : Heap}
/-! ### _law_gone -/
theorem scGL : FnScope ["_law_sets_here", "_law_tape", "_law_state", "_law_text_here", "_law_code"] ["_law_sets_here", "_law_tape", "_law_state"] (defScope sGoneL) := ⟨rfl, rfl, rfl, by decide +kernel, rfl, by decide +kernel, by decide +kernel⟩
theorem ok_goneL {f : Addr} {fd : FuncData} (F : Fun K "_law_gone" "_law_gone" sGoneL f fd) (B : Bt mg) : FnOk P w K mg base CX0 1 f fd ["_law_sets_here", "_law_tape", "_law_state"] spGone := by
  refine F.ok scGL (fun vs H Q E h => ?_) (fun cdv A outer s H vs Q E hr h => ?_)
  · obtain ⟨a, p, S, wd, st, rfl, _⟩ := h
    rfl
  obtain ⟨a, p, S, wd, st, rfl, hS, hp, ok, hc, hl, k⟩ := h
  refine ⟨_, (pss_cons (ps_set (i := 3) scGL.nd rfl (.inl rfl) pe_str) (pss_cons (ps_for PassesOwn.never rfl (pi_list (pv 1)) (pg_name (i := 4) scGL.nd rfl (.inl rfl))
      (pss_one (ps_if (pt_cmpR op_ge (pv 4) (pe_callB call_len_str (by rfl) B.len PySem.boot_len (pa_cons (pe_ix ix_tup (pv 0) pe_int (fun _ _ => rfl)) pa_nil)) (nomark _))
        (pss_one (ps_set (i := 2) scGL.nd rfl (.inl rfl) (pe_op op_sub (pv 4) (pe_callB call_len_str (by rfl) B.len PySem.boot_len (pa_cons (pe_ix ix_tup (pv 0) pe_int (fun _ _ => rfl)) pa_nil)))))
        (pss_one (ps_set (i := 3) scGL.nd rfl (.inl rfl) (pe_op op_add_str (pv 3) (pe_ix ix_str (pe_ix ix_tup (pv 0) (pv 2) (fun _ _ => rfl)) (pv 4) (fun _ _ => rfl)))))))) (pss_one (ps_ret (pe_tup (pa_cons (pv 3) (pa_cons (pv 2) pa_nil))))))), ?_⟩
  have l2 := ok.hi
  have l3 := ok.ev.len
  have zr : ∀ x, (tx (S.row x)).length ≤ sizeLine := fun x => tx_le (by have := ok.ev.row x; unfold Sets.n at this; omega)
  have en : ((tx S.one).length : Int) = S.n := by rw [tx_len]; rfl
  refine ⟨_, rfl, p, rfl, ⟨_, SqL.of hp⟩, for_list (K := K) (a := p) (xs := wd.map V.int) (fun i σ H' => H' = H ∧ ∃ v5, σ = [some (.ref a), some (.ref p), some (.int (bi (gone S (wd.take i) st).2)), some (.str (tx (gone S (wd.take i) st).1)), v5])
    ⟨rfl, none, rfl⟩ (fun i σ H' _ ⟨e, _⟩ => by rw [e]; exact SqL.of hp) ?_ ?_⟩
  · rintro i x σ H1 hx ⟨rfl, v5, rfl⟩
    obtain ⟨c, rfl, e3⟩ := ints_at hx
    obtain ⟨c0, c1⟩ := hc c (List.mem_of_getElem? e3)
    have hg := gone_take (S := S) e3 st
    have hlen := gone_len S (wd.take i) st
    have hlen2 : (wd.take i).length ≤ 1000 := by rw [List.length_take]; omega
    refine ⟨_, rfl, _, rfl, a, _, _, _, rfl, rfl, SqT.of hS, atI_nat (j := 0) rfl, _, rfl, zr false, _, _, rfl, rfl, _, rfl, ite2 (fun e => ?_) (fun e => ?_)⟩
    · have e' := of_decide_eq_true e
      have e'' : ¬ c < S.n := by
        have : ((tx S.one).length : Int) ≤ c := e'
        rw [en] at this
        omega
      rw [if_neg e''] at hg
      refine ⟨_, rfl, _, rfl, a, _, _, _, rfl, rfl, SqT.of hS, atI_nat (j := 0) rfl, _, rfl, zr false, _, _, rfl, rfl, rfl, some (.int c), ?_⟩
      rw [hg]
      show [some (V.ref a), some (V.ref p), some (V.int (c - ((tx S.one).length : Int))), some (V.str (tx (gone S (wd.take i) st).1)), some (V.int c)] = _
      rw [bi_shift e'' c1, en]
    · have e' := of_decide_eq_false (Bool.eq_false_iff.mpr e)
      have e'' : c < S.n := by
        have : ¬ ((tx S.one).length : Int) ≤ c := e'
        rw [en] at this
        omega
      rw [if_pos e''] at hg
      refine ⟨_, rfl, _, rfl, _, rfl, a, _, _, _, rfl, rfl, SqT.of hS, at_row _, _, rfl, _, _, _, rfl, rfl, zr _, at_tx c0 (get_row ok _ c0 e''), _, _, rfl, rfl, ?_, rfl, some (.int c), ?_⟩
      · rw [tx_len]
        exact sm (by show _ + 1 ≤ _; omega)
      · rw [hg]
        show [some (V.ref a), some (V.ref p), some (V.int _), some (V.str (tx (gone S (wd.take i) st).1 ++ tx [(S.row (gone S (wd.take i) st).2).getD c.toNat 0])), some (V.int c)] = _
        rw [tx_app]
  · rintro σ H1 ⟨rfl, v5, rfl⟩
    refine ⟨_, rfl, _, rfl, (by show 2 ≤ sizeLine; decide), fun r nr => ?_⟩
    have et : (wd.take (wd.map V.int).length) = wd := by rw [List.length_map]; exact List.take_length
    rw [et]
    exact k _ r (same_upd nr) upd_same
/-! ### _law_losses -/
theorem scLs : FnScope ["_law_sets_here", "_law_tape", "_law_state", "_law_whole", "_law_found", "_law_at", "_law_left", "_law_many", "_law_k"] ["_law_sets_here", "_law_tape", "_law_state"] (defScope sLosses) := ⟨rfl, rfl, rfl, by decide +kernel, rfl, by decide +kernel, by decide +kernel⟩
def lossL (S : Sets) (st : Bool) (wd : List Int) : List Int := (List.range wd.length).map fun i => (loss S st wd i : Int)
def spLosses : Sp := fun vs H Q _ => ∃ (a p : Addr) (S : Sets) (wd : List Int) (st : Bool), vs = [.ref a, .ref p, .int (bi st)] ∧ SetsAt H a S ∧ H p = some (.lst (wd.map V.int)) ∧ SOk S ∧ Codes S wd ∧ wd.length ≤ 200 ∧
  ∀ H' r, Same H H' → H' r = some (.lst ((lossL S st wd).map V.int)) → Q (.ref r) H'
theorem ok_losses {f f1 : Addr} {fd d1 : FuncData} (F : Fun K "_law_losses" "_law_losses" sLosses f fd) (B : Bt mg)
    (G1 : FnOk P w K mg base CX0 1 f1 d1 ["_law_sets_here", "_law_tape", "_law_state"] spGone) (m1 : mg "_law_gone" = some (.ref f1)) (k1 : PySem.W.keepIn K (.ref f1) = true) (b1 : Binds K d1 ["_law_sets_here", "_law_tape", "_law_state"] []) :
    FnOk P w K mg base CX0 2 f fd ["_law_sets_here", "_law_tape", "_law_state"] spLosses := by
  refine F.ok scLs (fun vs H Q E h => ?_) (fun cdv A outer s H vs Q E hr h => ?_)
  · obtain ⟨a, p, S, wd, st, rfl, _⟩ := h
    rfl
  obtain ⟨a, p, S, wd, st, rfl, hS, hp, ok, hc, hl, k⟩ := h
  refine ⟨_, (pss_cons (ps_set (i := 3) scLs.nd rfl (.inr rfl) (pe_ix ix_tup (pe_call G1 hr (by rfl) m1 k1 b1 .nil pass0 (pa_cons (pv 0) (pa_cons (pv 1) (pa_cons (pv 2) pa_nil)))) pe_int (fun _ _ => rfl))) (pss_cons (ps_set (i := 4) scLs.nd rfl (.inl rfl) (pe_lst pa_nil)) (pss_cons (ps_for PassesOwn.never rfl (pi_range1 (by rfl) B.range (pa_cons (pe_callB call_len_seq (by rfl) B.len PySem.boot_len (pa_cons (pv 1) pa_nil)) pa_nil)) (pg_name (i := 5) scLs.nd rfl (.inl rfl))
      (pss_cons (ps_set (i := 6) scLs.nd rfl (.inr rfl) (pe_ix ix_tup (pe_call G1 hr (by rfl) m1 k1 b1 .nil pass0 (pa_cons (pv 0) (pa_cons (pe_op op_cat (pe_slice sl_list (pv 1) po_none (po_some (pv 5))) (pe_slice sl_list (pv 1) (po_some (pe_op op_add (pv 5) pe_int)) po_none)) (pa_cons (pv 2) pa_nil)))) pe_int (fun _ _ => rfl))) (pss_cons (ps_set (i := 7) scLs.nd rfl (.inl rfl) pe_int) (pss_cons (ps_if (pt_cmpR op_ge (pe_ix ix_list (pv 1) (pv 5) (fun _ _ => rfl)) (pe_callB call_len_str (by rfl) B.len PySem.boot_len (pa_cons (pe_ix ix_tup (pv 0) pe_int (fun _ _ => rfl)) pa_nil)) (nomark _))
        (pss_one (ps_set (i := 7) scLs.nd rfl (.inl rfl) (pe_callB call_len_seq (by rfl) B.len PySem.boot_len (pa_cons (pe_lc (own := [("_law_k", 8)]) (g := gName 8) (tt := tTest (tOp rNe (tOp rIxS (tVar 6) (tVar 8)) (tOp rIxS (tVar 3) (tVar 8)))) (te := tVar 8) rfl scLs.nd (pi_range1 (by rfl) B.range (pa_cons (pe_callB call_len_str (by rfl) B.len PySem.boot_len (pa_cons (pv 3) pa_nil)) pa_nil)) (blkOk_by (own := [("_law_k", 8)]) (N := ["_law_sets_here", "_law_tape", "_law_state", "_law_whole", "_law_found", "_law_at", "_law_left", "_law_many", "_law_k"]) (sc := defScope sLosses) (by decide +kernel)) (fun _ _ _ _ _ => pg_name (i := 8) scLs.nd rfl (Or.inl rfl))
          (fun _ _ _ _ _ => pts_one (pt_cmpR op_ne (pe_ix ix_str (pv 6) (pv 8) (fun _ _ => rfl)) (pe_ix ix_str (pv 3) (pv 8) (fun _ _ => rfl)) (nomark _))) (fun _ _ _ _ _ => pv 8)) pa_nil)))) pss_nil) (pss_one (ps_expr (pe_bm PySem.F.plainAttrs_list PySem.F.slot_list_append PySem.F.type_list_append mt_append (pv 4) (pa_cons (pv 7) pa_nil)))))))) (pss_one (ps_ret (pv 4)))))), ?_⟩
  have zr : (tx S.one).length ≤ sizeLine := tx_le (by have := ok.hi; omega)
  have en : ((tx S.one).length : Int) = S.n := by rw [tx_len]; rfl
  refine ⟨_, rfl, _, rfl, _, rfl, a, p, S, wd, st, rfl, hS, hp, ok, hc, by omega, fun H1 r1 s1 h1 => ?_⟩
  refine ⟨r1, _, _, _, rfl, rfl, SqT.of h1, atI_nat (j := 0) rfl, ?_⟩
  refine ⟨(by show 0 ≤ sizeLine; decide), fun D nD => ?_⟩
  have s2 := s1.trans (same_upd (o := .lst []) nD)
  have nD0 : H D = none := s1.free nD
  have el : (wd.map V.int).length = wd.length := List.length_map _
  refine ⟨_, rfl, p, _, rfl, .inl (SqL.of (s2 _ _ hp)), _, rfl, by rw [el]; omega, by rw [el]; omega, ?_⟩
  rw [el]
  have wl : (gone S wd st).1.length ≤ 200 := Nat.le_trans (gone_len S wd st) hl
  refine for_range (lo := 0) (n := (wd.length : Int).toNat) (fun i σ H' => Same H H' ∧ H' D = some (.lst (((lossL S st wd).take i).map V.int)) ∧ ∃ v5 v6 v7, σ = [some (.ref a), some (.ref p), some (.int (bi st)), some (.str (tx (gone S wd st).1)), some (.ref D), v5, v6, v7, none])
    ⟨s2, upd_same, none, none, none, rfl⟩ ?_ ?_
  · rintro i σ H2 hi ⟨s3, hD, v5, v6, v7, rfl⟩
    rw [Int.toNat_natCast] at hi
    rw [Int.zero_add]
    have hp3 := s3 _ _ hp
    have hi1 : i ≤ (wd.map V.int).length := by omega
    have hi2 : i + 1 ≤ (wd.map V.int).length := by omega
    refine ⟨_, rfl, _, rfl, _, rfl, _, rfl, p, _, rfl, SqL.of hp3, fun q1 n1 => ?_⟩
    rw [cut_head _ hi1]
    have t1 := same_upd (o := .lst ((wd.map V.int).take i)) n1
    refine ⟨_, rfl, _, rfl, _, _, rfl, rfl, _, rfl, p, _, rfl, SqL.of (t1 _ _ hp3), fun q2 n2 => ?_⟩
    have e1 : cutV (wd.map V.int) (some ((i : Int) + 1)) none = (wd.map V.int).drop (i + 1) := cut_tail _ hi2
    rw [e1]
    have t2 := same_upd (o := .lst ((wd.map V.int).drop (i + 1))) n2
    refine ⟨q1, q2, _, _, rfl, rfl, t2 _ _ upd_same, upd_same, sm (by rw [List.length_take, List.length_drop, el]; omega), fun q3 n3 => ?_⟩
    have t3 := same_upd (o := .lst ((wd.map V.int).take i ++ (wd.map V.int).drop (i + 1))) n3
    have t4 := t1.trans (t2.trans t3)
    have e2 : (wd.map V.int).take i ++ (wd.map V.int).drop (i + 1) = (wd.take i ++ wd.drop (i + 1)).map V.int := by rw [List.map_append, List.map_take, List.map_drop]
    refine ⟨_, rfl, a, q3, S, wd.take i ++ wd.drop (i + 1), st, rfl, keepS (s3.trans t4) hS, by rw [upd_same, e2], ok, fun x hx => ?_, ?_, fun H3 r3 s4 h3 => ?_⟩
    · rcases List.mem_append.mp hx with h | h
      · exact hc x (List.mem_of_mem_take h)
      · exact hc x (List.mem_of_mem_drop h)
    · rw [List.length_append, List.length_take, List.length_drop]; omega
    have s5 := s3.trans (t4.trans s4)
    refine ⟨r3, _, _, _, rfl, rfl, SqT.of h3, atI_nat (j := 0) rfl, ?_⟩
    have hx : atI (wd.map V.int) (i : Int) = some (.int wd[i]) := atI_nat (by rw [List.getElem?_map, List.getElem?_eq_getElem hi]; rfl)
    refine ⟨_, rfl, _, rfl, p, _, _, _, rfl, rfl, SqL.of (s5 _ _ hp), hx, _, rfl, a, _, _, _, rfl, rfl, SqT.of (keepS s5 hS), atI_nat (j := 0) rfl, _, rfl, zr, _, _, rfl, rfl, _, rfl, ?_⟩
    have hD3 : H3 D = some (.lst (((lossL S st wd).take i).map V.int)) := s4 _ _ (t4 _ _ hD)
    have ed : wd.getD i 0 = wd[i] := by rw [List.getD_eq_getElem?_getD, List.getElem?_eq_getElem hi]; rfl
    have eL : (lossL S st wd).take (i + 1) = (lossL S st wd).take i ++ [(loss S st wd i : Int)] := by
      rw [List.take_add_one]
      congr 1
      unfold lossL
      rw [List.getElem?_map, List.getElem?_range hi]
      rfl
    have zl : (((lossL S st wd).take i).map V.int).length < sizeLine := sm' (by rw [List.length_map, List.length_take]; omega)
    refine ite2 (fun e => ?_) (fun e => ?_)
    · have e' : ¬ wd[i] < S.n := by
        have : ((tx S.one).length : Int) ≤ wd[i] := of_decide_eq_true e
        rw [en] at this
        omega
      have ew : wd = wd.take i ++ wd[i] :: wd.drop (i + 1) := by rw [← List.drop_eq_getElem_cons hi, List.take_append_drop]
      have e0 : (gone S (wd[i] :: wd.drop (i + 1)) (gone S (wd.take i) st).2).1 = (gone S (wd.drop (i + 1)) (decide (wd[i] - S.n = 1))).1 := by
        simp only [gone]; rw [if_neg e']
      have eA : (gone S wd st).1 = (gone S (wd.take i) st).1 ++ (gone S (wd.drop (i + 1)) (decide (wd[i] - S.n = 1))).1 := by
        have z := (gone_append (S := S) (wd.take i) (wd[i] :: wd.drop (i + 1)) st).1
        rw [← ew, e0] at z
        exact z
      have eB := (gone_append (S := S) (wd.take i) (wd.drop (i + 1)) st).1
      have eAB : (gone S (wd.take i ++ wd.drop (i + 1)) st).1.length = (gone S wd st).1.length := by
        rw [eA, eB, List.length_append, List.length_append, df_len (wd.drop (i + 1)) (gone S (wd.take i) st).2 (decide (wd[i] - S.n = 1))]
      have e3 : loss S st wd i = df (gone S (wd.take i ++ wd.drop (i + 1)) st).1 (gone S wd st).1 := by unfold loss; rw [ed, if_neg e']
      generalize hB : (gone S (wd.take i ++ wd.drop (i + 1)) st).1 = tB at eAB e3 ⊢
      generalize hA : (gone S wd st).1 = tA at eAB e3 wl ⊢
      have zA : (tx tA).length ≤ sizeLine := tx_le (by omega)
      have zB : (tx tB).length ≤ sizeLine := tx_le (by omega)
      refine ⟨_, rfl, _, rfl, zA, _, rfl, by rw [tx_len]; omega, by rw [tx_len]; omega, fun D2 nD2 => ?_⟩
      have nD2' := s5.free nD2
      rw [tx_len]
      refine lc_range (lo := 0) (n := (tA.length : Int).toNat) (fun i H' => Same H3 H' ∧ ∃ ks : List Int, H' D2 = some (.lst (ks.map V.int)) ∧ ks.length = df (tB.take i) (tA.take i)) ⟨same_upd nD2, [], upd_same, (by rw [List.take_zero, List.take_zero]; rfl)⟩ ?_ ?_
      · rintro j H4 hj ⟨s6, ks, hk1, hk2⟩
        rw [Int.toNat_natCast] at hj
        rw [Int.zero_add]
        have gA : tA[((j : Nat) : Int).toNat]? = some tA[j] := by rw [Int.toNat_natCast]; exact List.getElem?_eq_getElem hj
        have gB : tB[((j : Nat) : Int).toNat]? = some (tB[j]'(by omega)) := by rw [Int.toNat_natCast]; exact List.getElem?_eq_getElem (by omega)
        have hdf := df_take (x := tB) (y := tA) (i := j) (List.getElem?_eq_getElem (by omega)) (List.getElem?_eq_getElem hj)
        have hle := df_le (tB.take j) (tA.take j)
        rw [List.length_take] at hle
        refine ⟨rfl, _, rfl, _, rfl, _, _, _, rfl, rfl, zB, at_tx (Int.natCast_nonneg j) gB, _, rfl, _, rfl, _, _, _, rfl, rfl, zA, at_tx (Int.natCast_nonneg j) gA, rfl, _, rfl, ?_⟩
        by_cases hq : tB[j]'(by omega) = tA[j]
        · rw [if_pos hq] at hdf
          exact ifN (by rw [hq]) ⟨s6, ks, hk1, by omega⟩
        · rw [if_neg hq] at hdf
          refine ifNN (fun z => hq ?_) ⟨_, rfl, _, hk1, sm' (by rw [List.length_map]; omega), fun b o q => ?_, ks ++ [(j : Int)], ?_, by rw [List.length_append, List.length_singleton]; omega⟩
          · have h2 := congrArg (fun z : Str => z.cps.toList) (V.str.inj z)
            exact (List.cons.inj h2).1
          · rw [upd_ne (ne_of_none q nD2)]; exact s6 b o q
          · rw [upd_same, List.map_append]; rfl
      · rintro H4 ⟨s6, ks, hk1, hk2⟩
        rw [Int.toNat_natCast, List.take_of_length_le (by omega), List.take_of_length_le (Nat.le_refl _), ← e3] at hk2
        refine ⟨D2, _, rfl, .inl (SqL.of hk1), ?_⟩
        rw [List.length_map, hk2]
        refine ⟨_, rfl, .inl ⟨rfl, _, SqL.of (s6 _ _ hD3)⟩, _, rfl, D, _, _, rfl, rfl, s6 _ _ hD3, zl, fun b o q => ?_, ?_, _, _, _, rfl⟩
        · rw [upd_ne (ne_of_none q nD0)]; exact s6 _ _ (s5 b o q)
        · rw [upd_same, eL, List.map_append]
          rfl
    · have e' : wd[i] < S.n := by
        have : ¬ ((tx S.one).length : Int) ≤ wd[i] := of_decide_eq_false (Bool.eq_false_iff.mpr e)
        rw [en] at this
        omega
      have e3 : loss S st wd i = 0 := by unfold loss; rw [ed, if_pos e']
      refine ⟨_, rfl, .inl ⟨rfl, _, SqL.of hD3⟩, _, rfl, D, _, _, rfl, rfl, hD3, zl, fun b o q => ?_, ?_, _, _, _, rfl⟩
      · rw [upd_ne (ne_of_none q nD0)]; exact s5 b o q
      · rw [upd_same, eL, e3, List.map_append]
        rfl
  · rintro σ H2 ⟨s3, hD, v5, v6, v7, rfl⟩
    refine ⟨_, rfl, k H2 D s3 ?_⟩
    rw [hD, Int.toNat_natCast]
    have : (lossL S st wd).take wd.length = lossL S st wd := List.take_of_length_le (by unfold lossL; simp)
    rw [this]
end
end SR

namespace SR
open PySem PySem.Spec PyProof.Rows L2
theorem join_sg (l : List Nat) : Txt.join ⟨#[]⟩ (l.map sg) = tx l := by
  unfold Txt.join
  rw [PySem.StrLaws.glued_eq_join]
  induction l with
  | nil => rfl
  | cons c l ih =>
    rw [List.map_cons, PyProof.Rows.join_nil_cons, ih]
    show sg c ++ tx l = tx (c :: l)
    rw [tx_sg, tx_app]
    rfl
theorem sg_sum (l : List Nat) : ((l.map sg).map (·.length)).sum = l.length := by
  induction l with
  | nil => rfl
  | cons c l ih =>
    simp only [List.map_cons, List.sum_cons, List.length_cons]
    rw [ih]
    show 1 + l.length = _
    omega
theorem sgV_sg (l : List Nat) : (l.map sg).map V.str = l.map sgV := by rw [List.map_map]; rfl
theorem cutS_head (l : List Nat) {i : Nat} (h : i ≤ l.length) : cutS (tx l) none (some (i : Int)) = tx (l.take i) := by
  unfold cutS
  rw [tx_cps, show HT.sIx (tx l).length 0 none = 0 from rfl, HT.sIx_nat, tx_len, Nat.min_eq_left h, Nat.sub_zero, List.drop_zero]
  rfl
theorem cutS_tail (l : List Nat) {i : Nat} (h : i ≤ l.length) : cutS (tx l) (some (i : Int)) none = tx (l.drop i) := by
  unfold cutS
  rw [tx_cps, HT.sIx_nat, tx_len, Nat.min_eq_left h, show HT.sIx l.length l.length none = l.length from rfl]
  rw [List.take_of_length_le (by rw [List.length_drop]; omega)]
  rfl
theorem at_sgs {l : List Nat} {k : Int} {c : Nat} (h0 : 0 ≤ k) (h : l[k.toNat]? = some c) : atI (tx l).cps.toList k = some c := at_tx h0 h
theorem mem_row {S : Sets} {st : Bool} {k : Nat} {c : Nat} (h : (S.row st)[k]? = some c) : ∃ x, c ∈ S.row x := ⟨st, List.mem_of_getElem? h⟩
theorem stands_snoc {S : Sets} {t : List Nat} {c : Nat} (h : Stands S t) (hc : ∃ x, c ∈ S.row x) : Stands S (t ++ [c]) := fun d hd => by
  rcases List.mem_append.mp hd with q | q
  · exact h d q
  · obtain rfl := List.mem_singleton.mp q
    exact hc
theorem some_toNat {l : List Nat} {r : Int} (h0 : 0 ≤ r) (h1 : r < l.length) : ∃ c, l[r.toNat]? = some c := ⟨_, List.getElem?_eq_getElem (by omega)⟩
theorem kpS {d : Addr} {H H' : Hp} (kp : Kp d H H') (hd : DAt H d) {a : Addr} {S : Sets} (h : SetsAt H a S) : SetsAt H' a S := kp _ _ h fun z => by
  subst z
  obtain ⟨x, y, zs, e, _⟩ := hd
  rw [show H a = some (.tup [.str (tx S.one), .str (tx S.two)]) from h] at e
  cases e
section
variable {P : Program} {w : World} {K : PySem.W.Frag} {mg : Str → Option Value} {base : Heap}
/-! ### _law_text -/
theorem scTx : FnScope ["_law_d", "_law_sets_here", "_law_most", "_law_found", "_law_row", "_law_k"] ["_law_d", "_law_sets_here", "_law_most"] (defScope sTextL) := ⟨rfl, rfl, rfl, by decide +kernel, rfl, by decide +kernel, by decide +kernel⟩
def spText : Sp := fun vs H Q _ => ∃ (d a : Addr) (S : Sets) (m : Nat), vs = [.ref d, .ref a, .int m] ∧ DAt H d ∧ SetsAt H a S ∧ SOk S ∧ m ≤ 40 ∧ ∀ H' t, Kp d H H' → DAt H' d → Stands S t → t.length ≤ 40 → Q (.str (tx t)) H'
theorem ok_textL {f f1 : Addr} {fd d1 : FuncData} (F : Fun K "_law_text" "_law_text" sTextL f fd) (B : Bt mg)
    (G1 : FnOk P w K mg base CX0 1 f1 d1 ["_law_d", "_law_most"] spOff) (m1 : mg "_law_off" = some (.ref f1)) (k1 : PySem.W.keepIn K (.ref f1) = true) (b1 : Binds K d1 ["_law_d", "_law_most"] []) :
    FnOk P w K mg base CX0 2 f fd ["_law_d", "_law_sets_here", "_law_most"] spText := by
  refine F.ok scTx (fun vs H Q E h => ?_) (fun cdv A outer s H vs Q E hr h => ?_)
  · obtain ⟨d, a, S, m, rfl, _⟩ := h
    rfl
  obtain ⟨d, a, S, m, rfl, hd, hS, ok, hm, k⟩ := h
  refine ⟨_, (pss_cons (ps_set (i := 3) scTx.nd rfl (.inl rfl) pe_str) (pss_cons (ps_set (i := 4) scTx.nd rfl (.inl rfl) (pe_ix ix_tup (pv 1) pe_int (fun _ _ => rfl))) (pss_cons (ps_for PassesOwn.never rfl (pi_range1 (by rfl) B.range (pa_cons (pe_call G1 hr (by rfl) m1 k1 b1 .nil pass0 (pa_cons (pv 0) (pa_cons (pe_op op_add (pv 2) pe_int) pa_nil))) pa_nil)) (pg_name (i := 5) scTx.nd rfl (.inl rfl))
      (pss_cons (ps_if (pt_cmpR op_eq (pe_call G1 hr (by rfl) m1 k1 b1 .nil pass0 (pa_cons (pv 0) (pa_cons (pe_int) pa_nil))) pe_int (nomark _)) (pss_one (ps_set (i := 4) scTx.nd rfl (.inl rfl) (pe_ix ix_tup (pv 1) (pe_call G1 hr (by rfl) m1 k1 b1 .nil pass0 (pa_cons (pv 0) (pa_cons (pe_int) pa_nil))) (fun _ _ => rfl)))) pss_nil) (pss_one (ps_set (i := 3) scTx.nd rfl (.inl rfl) (pe_op op_add_str (pv 3) (pe_ix ix_str (pv 4) (pe_call G1 hr (by rfl) m1 k1 b1 .nil pass0 (pa_cons (pv 0) (pa_cons (pe_callB call_len_str (by rfl) B.len PySem.boot_len (pa_cons (pv 4) pa_nil)) pa_nil))) (fun _ _ => rfl))))))) (pss_one (ps_ret (pv 3)))))), ?_⟩
  have rl : ∀ x, 1 ≤ (S.row x).length ∧ (S.row x).length ≤ 10 := fun x => by
    have h1 := ok.ev.row x
    have h2 := ok.lo
    have h3 := ok.hi
    unfold Sets.n at h1
    omega
  refine ⟨_, rfl, a, _, _, _, rfl, rfl, SqT.of hS, atI_nat (j := 0) rfl, ?_⟩
  refine ⟨_, rfl, _, rfl, _, _, rfl, rfl, d, _, rfl, hd, by omega, by omega, fun H1 r kp1 hd1 h0 h1 => ?_⟩
  refine ⟨r, rfl, by omega, by omega, ?_⟩
  refine for_range (lo := 0) (n := r.toNat) (fun i σ H' => Kp d H H' ∧ DAt H' d ∧ ∃ (t : List Nat) (x : Bool) (v5 : Option V), t.length ≤ i ∧ Stands S t ∧ σ = [some (.ref d), some (.ref a), some (.int m), some (.str (tx t)), some (.str (tx (S.row x))), v5])
    ⟨kp1, hd1, [], false, none, Nat.le_refl _, fun c hc => (nomatch hc), rfl⟩ ?_ ?_
  · rintro i σ H2 hi ⟨kp2, hd2, t, x, v5, ht, hst, rfl⟩
    refine ⟨_, rfl, d, 3, rfl, hd2, by decide, by decide, fun H3 r3 kp3 hd3 h30 h31 => ?_⟩
    have kp23 := kp2.trans kp3
    -- what follows
    refine ⟨rfl, _, rfl, ?_⟩
    refine ite2 (fun _ => ?_) (fun _ => ?_)
    · refine ⟨_, rfl, _, rfl, d, 2, rfl, hd3, by decide, by decide, fun H4 r4 kp4 hd4 h40 h41 => ?_⟩
      obtain ⟨x4, rfl⟩ : ∃ x4, r4 = bi x4 := by
        by_cases e : r4 = 0
        · exact ⟨false, e⟩
        · exact ⟨true, by show r4 = 1; omega⟩
      have kp24 := kp23.trans kp4
      refine ⟨a, _, _, _, rfl, rfl, SqT.of (kpS kp24 hd hS), at_row x4, ?_⟩
      have rx := rl x4
      refine ⟨_, rfl, _, rfl, _, rfl, _, rfl, _, rfl, tx_le (by omega), d, _, rfl, hd4, by rw [tx_len]; omega, by rw [tx_len]; omega, fun H5 r5 kp5 hd5 h50 h51 => ?_⟩
      rw [tx_len] at h51
      obtain ⟨c, hc⟩ := some_toNat h50 h51
      refine ⟨_, _, c, rfl, rfl, tx_le (by omega), at_sgs h50 hc, _, _, rfl, rfl, ?_, kp24.trans kp5, hd5, t ++ [c], x4, some (.int (0 + i)), ?_, stands_snoc hst (mem_row hc), ?_⟩
      · rw [tx_len]; exact sm (by show _ + 1 ≤ _; omega)
      · simp; omega
      · show [some (V.ref d), some (V.ref a), some (V.int m), some (V.str (tx t ++ tx [c])), some (V.str (tx (S.row x4))), some (V.int (0 + i))] = _
        rw [tx_app]
    · have rx := rl x
      refine ⟨_, rfl, _, rfl, _, rfl, _, rfl, _, rfl, tx_le (by omega), d, _, rfl, hd3, by rw [tx_len]; omega, by rw [tx_len]; omega, fun H5 r5 kp5 hd5 h50 h51 => ?_⟩
      rw [tx_len] at h51
      obtain ⟨c, hc⟩ := some_toNat h50 h51
      refine ⟨_, _, c, rfl, rfl, tx_le (by omega), at_sgs h50 hc, _, _, rfl, rfl, ?_, kp23.trans kp5, hd5, t ++ [c], x, some (.int (0 + i)), ?_, stands_snoc hst (mem_row hc), ?_⟩
      · rw [tx_len]; exact sm (by show _ + 1 ≤ _; omega)
      · simp; omega
      · show [some (V.ref d), some (V.ref a), some (V.int m), some (V.str (tx t ++ tx [c])), some (V.str (tx (S.row x))), some (V.int (0 + i))] = _
        rw [tx_app]
  · rintro σ H2 ⟨kp2, hd2, t, x, v5, ht, hst, rfl⟩
    exact ⟨_, rfl, k H2 t kp2 hd2 hst (by omega)⟩
end
end SR

namespace SR
open PySem PySem.Spec PyProof.Rows L2
theorem kpL {d : Addr} {H H' : Hp} (kp : Kp d H H') {T : Addr} {xs : List V} (h : H T = some (.lst xs)) (ne : T ≠ d) : H' T = some (.lst xs) := kp _ _ h ne
theorem dne {H : Hp} {d T : Addr} (hd : DAt H d) (n : H T = none) : T ≠ d := fun z => by
  subst z
  obtain ⟨x, y, zs, e, _⟩ := hd
  rw [n] at e
  cases e
theorem str_ne {l : List Nat} (h : l ≠ []) : ¬ V.str (tx l) = V.str "" := fun e => h (tx_inj (m := []) (V.str.inj e))
section
variable {P : Program} {w : World} {K : PySem.W.Frag} {mg : Str → Option Value} {base : Heap}
/-! ### _law_runs -/
theorem scRu : FnScope ["_law_d", "_law_sets_here", "_law_found", "_law_k", "_law_common", "_law_turn", "_law_row"] ["_law_d", "_law_sets_here"] (defScope sRuns) := ⟨rfl, rfl, rfl, by decide +kernel, rfl, by decide +kernel, by decide +kernel⟩
def spRuns : Sp := fun vs H Q _ => ∃ (d a : Addr) (S : Sets), vs = [.ref d, .ref a] ∧ DAt H d ∧ SetsAt H a S ∧ SOk S ∧ ∀ H' t, Kp d H H' → DAt H' d → Stands S t → t.length ≤ 40 → Q (.str (tx t)) H'
theorem ok_runs {f f1 : Addr} {fd d1 : FuncData} (F : Fun K "_law_runs" "_law_runs" sRuns f fd) (B : Bt mg)
    (G1 : FnOk P w K mg base CX0 1 f1 d1 ["_law_d", "_law_most"] spOff) (m1 : mg "_law_off" = some (.ref f1)) (k1 : PySem.W.keepIn K (.ref f1) = true) (b1 : Binds K d1 ["_law_d", "_law_most"] []) :
    FnOk P w K mg base CX0 2 f fd ["_law_d", "_law_sets_here"] spRuns := by
  refine F.ok scRu (fun vs H Q E h => ?_) (fun cdv A outer s H vs Q E hr h => ?_)
  · obtain ⟨d, a, S, rfl, _⟩ := h
    rfl
  obtain ⟨d, a, S, rfl, hd, hS, ok, k⟩ := h
  refine ⟨_, (pss_cons (ps_set (i := 2) scRu.nd rfl (.inl rfl) pe_str) (pss_cons (ps_set (i := 4) scRu.nd rfl (.inl rfl) (pe_m1 PySem.F.slot_str_join PySem.F.type_str_join mt_join pe_str (pe_lc (own := [("_law_k", 3)]) (g := gName 3) (tt := tTest (tOp rEq (tOp rIxS (tOp (rIxT K) (tVar 1) (tC (.int 0))) (tVar 3)) (tOp rIxS (tOp (rIxT K) (tVar 1) (tC (.int 1))) (tVar 3)))) (te := tOp rIxS (tOp (rIxT K) (tVar 1) (tC (.int 0))) (tVar 3)) rfl scRu.nd (pi_range1 (by rfl) B.range (pa_cons (pe_callB call_len_str (by rfl) B.len PySem.boot_len (pa_cons (pe_ix ix_tup (pv 1) pe_int (fun _ _ => rfl)) pa_nil)) pa_nil)) (blkOk_by (own := [("_law_k", 3)]) (N := ["_law_d", "_law_sets_here", "_law_found", "_law_k", "_law_common", "_law_turn", "_law_row"]) (sc := defScope sRuns) (by decide +kernel)) (fun _ _ _ _ _ => pg_name (i := 3) scRu.nd rfl (Or.inl rfl))
        (fun _ _ _ _ _ => pts_one (pt_cmpR op_eq (pe_ix ix_str (pe_ix ix_tup (pv 1) pe_int (fun _ _ => rfl)) (pv 3) (fun _ _ => rfl)) (pe_ix ix_str (pe_ix ix_tup (pv 1) pe_int (fun _ _ => rfl)) (pv 3) (fun _ _ => rfl)) (nomark _))) (fun _ _ _ _ _ => pe_ix ix_str (pe_ix ix_tup (pv 1) pe_int (fun _ _ => rfl)) (pv 3) (fun _ _ => rfl))))) (pss_cons (ps_for PassesOwn.never rfl (pi_range1 (by rfl) B.range (pa_cons (pe_op op_add pe_int (pe_call G1 hr (by rfl) m1 k1 b1 .nil pass0 (pa_cons (pv 0) (pa_cons (pe_int) pa_nil)))) pa_nil)) (pg_name (i := 5) scRu.nd rfl (.inl rfl))
      (pss_cons (ps_set (i := 6) scRu.nd rfl (.inl rfl) (pe_ix ix_list (pe_lst (pa_cons (pe_ix ix_tup (pv 1) pe_int (fun _ _ => rfl)) (pa_cons (pe_ix ix_tup (pv 1) pe_int (fun _ _ => rfl)) (pa_cons (pv 4) pa_nil)))) (pe_call G1 hr (by rfl) m1 k1 b1 .nil pass0 (pa_cons (pv 0) (pa_cons (pe_int) pa_nil))) (fun _ _ => rfl))) (pss_one (ps_for PassesOwn.never rfl (pi_range1 (by rfl) B.range (pa_cons (pe_op op_add pe_int (pe_call G1 hr (by rfl) m1 k1 b1 .nil pass0 (pa_cons (pv 0) (pa_cons (pe_ix ix_list (pe_lst (pa_cons (pe_int) (pa_cons (pe_int) pa_nil))) (pe_call G1 hr (by rfl) m1 k1 b1 .nil pass0 (pa_cons (pv 0) (pa_cons (pe_int) pa_nil))) (fun _ _ => rfl)) pa_nil)))) pa_nil)) (pg_name (i := 3) scRu.nd rfl (.inl rfl))
        (pss_one (ps_if (PW.pt (pw_and (pt_cmpR op_ne (pv 6) pe_str (nomark _)) (pw_and1 (pt_cmpR op_lt (pe_callB call_len_str (by rfl) B.len PySem.boot_len (pa_cons (pv 2) pa_nil)) pe_int (nomark _)))))
          (pss_one (ps_set (i := 2) scRu.nd rfl (.inl rfl) (pe_op op_add_str (pv 2) (pe_ix ix_str (pv 6) (pe_call G1 hr (by rfl) m1 k1 b1 .nil pass0 (pa_cons (pv 0) (pa_cons (pe_callB call_len_str (by rfl) B.len PySem.boot_len (pa_cons (pv 6) pa_nil)) pa_nil))) (fun _ _ => rfl))))) pss_nil)))))) (pss_one (ps_ret (pv 2)))))), ?_⟩
  have l2 := ok.hi
  have l3 := ok.ev.len
  have z1 : (tx S.one).length ≤ sizeLine := tx_le (by omega)
  have z2 : (tx S.two).length ≤ sizeLine := tx_le (by omega)
  refine ⟨⟨_, rfl⟩, _, rfl, a, _, _, _, rfl, rfl, SqT.of hS, atI_nat (j := 0) rfl, _, rfl, z1, _, rfl, by rw [tx_len]; omega, by rw [tx_len]; omega, fun D nD => ?_⟩
  rw [tx_len]
  refine lc_range (lo := 0) (n := (S.one.length : Int).toNat) (fun i H' => Same H H' ∧ ∃ cs : List Nat, H' D = some (.lst (cs.map sgV)) ∧ cs.length ≤ i ∧ ∀ c ∈ cs, c ∈ S.one) ⟨same_upd nD, [], upd_same, Nat.le_refl _, fun c h => nomatch h⟩ ?_ ?_
  · rintro i H1 hi ⟨s1, cs, hD, hl, hin⟩
    rw [Int.toNat_natCast] at hi
    rw [Int.zero_add]
    have g1 : S.one[((i : Nat) : Int).toNat]? = some S.one[i] := by rw [Int.toNat_natCast]; exact List.getElem?_eq_getElem hi
    have g2 : S.two[((i : Nat) : Int).toNat]? = some (S.two[i]'(by omega)) := by rw [Int.toNat_natCast]; exact List.getElem?_eq_getElem (by omega)
    have hS1 := keepS s1 hS
    refine ⟨rfl, _, rfl, a, _, _, _, rfl, rfl, SqT.of hS1, atI_nat (j := 0) rfl, _, rfl, _, _, _, rfl, rfl, z1, at_tx (Int.natCast_nonneg i) g1, _, rfl, a, _, _, _, rfl, rfl, SqT.of hS1, atI_nat (j := 1) rfl, _, rfl, _, _, _, rfl, rfl, z2, at_tx (Int.natCast_nonneg i) g2, rfl, _, rfl, ite2 (fun _ => ?_) (fun _ => ?_)⟩
    · refine ⟨_, rfl, a, _, _, _, rfl, rfl, SqT.of hS1, atI_nat (j := 0) rfl, _, rfl, _, _, _, rfl, rfl, z1, at_tx (Int.natCast_nonneg i) g1, _, hD, sm' (by rw [List.length_map]; omega), fun b o q => ?_, cs ++ [S.one[i]], ?_, by simp; omega, fun c hc => ?_⟩
      · rw [upd_ne (ne_of_none q nD)]; exact s1 b o q
      · rw [upd_same, List.map_append]; rfl
      · rcases List.mem_append.mp hc with h | h
        · exact hin c h
        · obtain rfl := List.mem_singleton.mp h
          exact List.getElem_mem hi
    · exact ⟨s1, cs, hD, by omega, hin⟩
  · rintro H1 ⟨s1, cs, hD, hl, hin⟩
    rw [Int.toNat_natCast] at hl
    refine ⟨_, D, cs.map sg, rfl, rfl, .inl (by rw [sgV_sg]; exact SqL.of hD), ?_, ?_⟩
    · rw [sg_sum, List.length_map]
      show cs.length + cs.length * 0 ≤ _
      omega
    rw [show Txt.join "" (cs.map sg) = tx cs from join_sg cs]
    have hd1 := keepD s1 hd
    refine ⟨_, rfl, d, 4, rfl, hd1, by decide, by decide, fun H2 r kp2 hd2 h20 h21 => ?_⟩
    refine ⟨_, _, rfl, rfl, _, rfl, by omega, by omega, ?_⟩
    have kp2' := (Kp.of (d := d) s1).trans kp2
    refine for_range (lo := 0) (n := (1 + r).toNat) (fun i σ H' => Kp d H H' ∧ DAt H' d ∧ ∃ (t : List Nat) (v3 v5 v6 : Option V), t.length ≤ 40 ∧ Stands S t ∧ σ = [some (.ref d), some (.ref a), some (.str (tx t)), v3, some (.str (tx cs)), v5, v6])
      ⟨kp2', hd2, [], _, none, none, Nat.zero_le _, fun c hc => (nomatch hc), rfl⟩ ?_ ?_
    · rintro i σ H3 hi ⟨kp3, hd3, t, v3, v5, v6, ht, hst, rfl⟩
      have hS3 := kpS kp3 hd hS
      refine ⟨_, rfl, a, _, _, _, rfl, rfl, SqT.of hS3, atI_nat (j := 0) rfl, _, rfl, a, _, _, _, rfl, rfl, SqT.of hS3, atI_nat (j := 1) rfl, _, rfl, (by show 3 ≤ sizeLine; decide), fun T nT => ?_⟩
      have s4 := same_upd (o := .lst [.str (tx S.one), .str (tx S.two), .str (tx cs)]) nT
      have nTd := dne hd3 nT
      refine ⟨_, rfl, d, 3, rfl, keepD s4 hd3, by decide, by decide, fun H5 r5 kp5 hd5 h50 h51 => ?_⟩
      have kp5' := kp3.trans ((Kp.of s4).trans kp5)
      obtain ⟨rw6, e6, lr6, hr6⟩ : ∃ rw6 : List Nat, atI ([.str (tx S.one), .str (tx S.two), .str (tx cs)] : List V) r5 = some (.str (tx rw6)) ∧ rw6.length ≤ 10 ∧ ∀ c ∈ rw6, ∃ x, c ∈ S.row x := by
        rcases (show r5 = 0 ∨ r5 = 1 ∨ r5 = 2 by omega) with rfl | rfl | rfl
        · exact ⟨S.one, atI_nat (j := 0) rfl, by omega, fun c hc => ⟨false, hc⟩⟩
        · exact ⟨S.two, atI_nat (j := 1) rfl, by omega, fun c hc => ⟨true, hc⟩⟩
        · exact ⟨cs, atI_nat (j := 2) rfl, by omega, fun c hc => ⟨false, hin c hc⟩⟩
      refine ⟨T, _, _, _, rfl, rfl, SqL.of (kp5 _ _ upd_same nTd), e6, ?_⟩
      refine ⟨_, rfl, (by show 2 ≤ sizeLine; decide), fun T2 nT2 => ?_⟩
      have s6 := same_upd (o := .lst [.int 4, .int 40]) nT2
      have nT2d := dne hd5 nT2
      refine ⟨_, rfl, d, 2, rfl, keepD s6 hd5, by decide, by decide, fun H7 r7 kp7 hd7 h70 h71 => ?_⟩
      have kp7' := kp5'.trans ((Kp.of s6).trans kp7)
      obtain ⟨q7, e7, q0, q1⟩ : ∃ q7 : Int, atI ([.int 4, .int 40] : List V) r7 = some (.int q7) ∧ 0 < q7 ∧ q7 < 1000 := by
        rcases (show r7 = 0 ∨ r7 = 1 by omega) with rfl | rfl
        · exact ⟨4, atI_nat (j := 0) rfl, by decide, by decide⟩
        · exact ⟨40, atI_nat (j := 1) rfl, by decide, by decide⟩
      refine ⟨T2, _, _, _, rfl, rfl, SqL.of (kp7 _ _ upd_same nT2d), e7, ?_⟩
      refine ⟨d, q7, rfl, hd7, q0, q1, fun H8 r8 kp8 hd8 h80 h81 => ?_⟩
      refine ⟨_, _, rfl, rfl, _, rfl, by omega, by omega, ?_⟩
      refine for_range (lo := 0) (n := (1 + r8).toNat) (fun j σ H' => Kp d H H' ∧ DAt H' d ∧ ∃ (t : List Nat) (v3 : Option V), t.length ≤ 40 ∧ Stands S t ∧ σ = [some (.ref d), some (.ref a), some (.str (tx t)), v3, some (.str (tx cs)), some (.int (0 + i)), some (.str (tx rw6))])
        ⟨kp7'.trans kp8, hd8, t, v3, ht, hst, rfl⟩ ?_ ?_
      · rintro j σ H9 hj ⟨kp9, hd9, t, v3, ht, hst, rfl⟩
        by_cases hne : rw6 = []
        · refine ⟨_, rfl, rfl, _, rfl, ifN (by rw [hne]; rfl) (iteF ?_)⟩
          exact ⟨kp9, hd9, t, _, ht, hst, rfl⟩
        · refine ⟨_, rfl, rfl, _, rfl, ifNN (str_ne hne) ?_⟩
          have hpos : 1 ≤ rw6.length := List.length_pos_iff.mpr hne
          refine ⟨_, rfl, _, rfl, tx_le (by omega), _, _, rfl, rfl, _, rfl, ite2 (fun e => ?_) (fun _ => ?_)⟩
          · have e' : ((tx t).length : Int) < 40 := of_decide_eq_true e
            rw [tx_len] at e'
            refine ⟨_, rfl, _, rfl, _, rfl, _, rfl, _, rfl, tx_le (by omega), d, _, rfl, hd9, by rw [tx_len]; omega, by rw [tx_len]; omega, fun H10 r10 kp10 hd10 h100 h101 => ?_⟩
            rw [tx_len] at h101
            obtain ⟨c, hc⟩ := some_toNat h100 h101
            refine ⟨_, _, c, rfl, rfl, tx_le (by omega), at_sgs h100 hc, _, _, rfl, rfl, ?_, kp9.trans kp10, hd10, t ++ [c], some (.int (0 + j)), ?_, stands_snoc hst (hr6 c (List.mem_of_getElem? hc)), ?_⟩
            · rw [tx_len]; exact sm (by show _ + 1 ≤ _; omega)
            · simp; omega
            · show [some (V.ref d), some (V.ref a), some (V.str (tx t ++ tx [c])), some (V.int (0 + j)), some (V.str (tx cs)), some (V.int (0 + i)), some (V.str (tx rw6))] = _
              rw [tx_app]
          · exact ⟨kp9, hd9, t, _, ht, hst, rfl⟩
      · rintro σ H9 ⟨kp9, hd9, t, v3, ht, hst, rfl⟩
        exact ⟨kp9, hd9, t, _, _, _, ht, hst, rfl⟩
    · rintro σ H3 ⟨kp3, hd3, t, v3, v5, v6, ht, hst, rfl⟩
      exact ⟨_, rfl, k H3 t kp3 hd3 hst ht⟩
end
end SR

namespace SR
open PySem PySem.Spec PyProof.Rows L2
theorem tx_of (z : Str) : tx z.cps.toList = z := by simp [tx]
def zSigns : Str := "abcdefghij 0123456.,-x"
def zEvery : Str := " !#$&'()*+,-./0123456789:;<=>?@ABCDEFGHIJKLMNOPQRSTUVWXYZ[]^_`abcdefghijklmnopqrstuvwxyz{|}~"
theorem zSigns_ok : zSigns.cps.toList.length = 22 ∧ zSigns.cps.toList.Nodup ∧ ∀ c ∈ zSigns.cps.toList, c < 128 := by decide +kernel
theorem zEvery_ok : 22 ≤ zEvery.cps.toList.length ∧ zEvery.cps.toList.length ≤ 200 ∧ zEvery.cps.toList.Nodup ∧ ∀ c ∈ zEvery.cps.toList, c < 128 := by decide +kernel
theorem nodup_take {l : List Nat} (h : l.Nodup) (n : Nat) : (l.take n).Nodup := h.sublist (List.take_sublist n l)
theorem cut_sgs (l : List Nat) {i : Nat} (h : i ≤ l.length) : cutV (l.map sgV) none (some (i : Int)) = (l.take i).map sgV := by
  rw [cut_head _ (by rw [List.length_map]; exact h), List.map_take]
theorem nodup_snoc {o : List Nat} {c : Nat} (h : o.Nodup) (hc : c ∉ o) : (o ++ [c]).Nodup :=
  List.nodup_append.mpr ⟨h, by simp, fun x hx y hy z => by
    subst z
    obtain rfl := List.mem_singleton.mp hy
    exact hc hx⟩
/-- some sign of many is not among few -/
theorem one_more {l o : List Nat} (h : l.Nodup) (hl : o.length < l.length) : l.filter (fun c => !decide (c ∈ o)) ≠ [] := fun e => by
  have : ∀ x ∈ l, x ∈ o := fun x hx => by
    by_cases q : x ∈ o
    · exact q
    · have : x ∈ l.filter (fun c => !decide (c ∈ o)) := List.mem_filter.mpr ⟨hx, by simp [q]⟩
      rw [e] at this
      cases this
  have := nodup_subset_len h this
  omega
theorem filter_take {p : Nat → Bool} {l : List Nat} {i c : Nat} (h : l[i]? = some c) : (l.take (i + 1)).filter p = (l.take i).filter p ++ (if p c = true then [c] else []) := by
  rw [List.take_add_one, h, List.filter_append]
  congr 1
  show List.filter p [c] = _
  by_cases q : p c = true
  · rw [if_pos q]; simp [q]
  · rw [if_neg q]; simp [q]
section
variable {P : Program} {w : World} {K : PySem.W.Frag} {mg : Str → Option Value} {base : Heap}
/-! ### _law_sets -/
theorem scSe : FnScope ["_law_d", "_law_many", "_law_signs", "_law_every", "_law_turn", "_law_one", "_law_often", "_law_other", "_law_left", "_law_k", "_law_some", "_law_sign"] ["_law_d"] (defScope sSets) := ⟨rfl, rfl, rfl, by decide +kernel, rfl, by decide +kernel, by decide +kernel⟩
def spSets : Sp := fun vs H Q _ => ∃ (d : Addr), vs = [.ref d] ∧ DAt H d ∧ ∀ H' r S, Kp d H H' → DAt H' d → SOk S → SetsAt H' r S → Q (.ref r) H'
theorem ok_sets {f f1 f2 : Addr} {fd d1 d2 : FuncData} (F : Fun K "_law_sets" "_law_sets" sSets f fd) (B : Bt mg)
    (G1 : FnOk P w K mg base CX0 1 f1 d1 ["_law_d", "_law_most"] spOff) (m1 : mg "_law_off" = some (.ref f1)) (k1 : PySem.W.keepIn K (.ref f1) = true) (b1 : Binds K d1 ["_law_d", "_law_most"] [])
    (G2 : FnOk P w K mg base CX0 2 f2 d2 ["_law_d", "_law_row"] spMixed) (m2 : mg "_law_mixed" = some (.ref f2)) (k2 : PySem.W.keepIn K (.ref f2) = true) (b2 : Binds K d2 ["_law_d", "_law_row"] []) :
    FnOk P w K mg base CX0 3 f fd ["_law_d"] spSets := by
  refine F.ok scSe (fun vs H Q E h => ?_) (fun cdv A outer s H vs Q E hr h => ?_)
  · obtain ⟨d, rfl, _⟩ := h
    rfl
  obtain ⟨d, rfl, hd, k⟩ := h
  have hr1 : Room 1 _ := hr.mono (by decide)
  refine ⟨_, (pss_cons (ps_set (i := 1) scSe.nd rfl (.inl rfl) (pe_ix ix_list (pe_lst (pa_cons (pe_int) (pa_cons (pe_int) (pa_cons (pe_int) (pa_cons (pe_op op_add pe_int (pe_call G1 hr1 (by rfl) m1 k1 b1 .nil pass0 (pa_cons (pv 0) (pa_cons (pe_int) pa_nil)))) pa_nil))))) (pe_call G1 hr1 (by rfl) m1 k1 b1 .nil pass0 (pa_cons (pv 0) (pa_cons (pe_int) pa_nil))) (fun _ _ => rfl))) (pss_cons (ps_set (i := 2) scSe.nd rfl (.inl rfl) pe_str) (pss_cons (ps_if (pt_cmpR op_eq (pe_call G1 hr1 (by rfl) m1 k1 b1 .nil pass0 (pa_cons (pv 0) (pa_cons (pe_int) pa_nil))) pe_int (nomark _))
      (pss_cons (ps_set (i := 3) scSe.nd rfl (.inl rfl) pe_str) (pss_one (ps_set (i := 2) scSe.nd rfl (.inl rfl) (pe_m1 PySem.F.slot_str_join PySem.F.type_str_join mt_join pe_str (pe_slice sl_list (pe_call G2 hr (by rfl) m2 k2 b2 .nil pass0 (pa_cons (pv 0) (pa_cons (pe_callTy (cr_listS rfl) (by rfl) B.list (by decide +kernel) (pa_cons (pv 3) pa_nil)) pa_nil))) po_none (po_some pe_int)))))) pss_nil) (pss_cons (ps_set (i := 4) scSe.nd rfl (.inl rfl) (pe_call G1 hr1 (by rfl) m1 k1 b1 .nil pass0 (pa_cons (pv 0) (pa_cons (pe_int) pa_nil)))) (pss_cons (ps_set (i := 2) scSe.nd rfl (.inl rfl) (pe_op op_add_str (pe_slice sl_str (pv 2) (po_some (pv 4)) po_none) (pe_slice sl_str (pv 2) po_none (po_some (pv 4))))) (pss_cons (ps_set (i := 5) scSe.nd rfl (.inl rfl) (pe_m1 PySem.F.slot_str_join PySem.F.type_str_join mt_join pe_str (pe_slice sl_list (pe_call G2 hr (by rfl) m2 k2 b2 .nil pass0 (pa_cons (pv 0) (pa_cons (pe_callTy (cr_listS rfl) (by rfl) B.list (by decide +kernel) (pa_cons (pe_slice sl_str (pv 2) po_none (po_some (pe_op op_add (pv 1) (pe_call G1 hr1 (by rfl) m1 k1 b1 .nil pass0 (pa_cons (pv 0) (pa_cons (pe_int) pa_nil)))))) pa_nil)) pa_nil))) po_none (po_some (pv 1))))) (pss_cons (ps_set (i := 6) scSe.nd rfl (.inl rfl) (pe_op op_add pe_int (pe_call G1 hr1 (by rfl) m1 k1 b1 .nil pass0 (pa_cons (pv 0) (pa_cons (pe_int) pa_nil))))) (pss_cons (ps_set (i := 7) scSe.nd rfl (.inr rfl) pe_str) (pss_cons (ps_set (i := 8) scSe.nd rfl (.inl rfl) (pe_call G2 hr (by rfl) m2 k2 b2 .nil pass0 (pa_cons (pv 0) (pa_cons (pe_callTy (cr_listS rfl) (by rfl) B.list (by decide +kernel) (pa_cons (pv 2) pa_nil)) pa_nil)))) (pss_cons (ps_for PassesOwn.never rfl (pi_range1 (by rfl) B.range (pa_cons (pv 1) pa_nil)) (pg_name (i := 9) scSe.nd rfl (.inl rfl))
      (pss_one (ps_if (PW.pt (pw_and (pt_cmpR op_eq (pe_call G1 hr1 (by rfl) m1 k1 b1 .nil pass0 (pa_cons (pv 0) (pa_cons (pv 6) pa_nil))) pe_int (nomark _)) (pw_and1 (pt_cmpR op_notIn_sign (pe_ix ix_str (pv 5) (pv 9) (fun _ _ => rfl)) (pv 7) (by rfl)))))
        (pss_one (ps_set (i := 7) scSe.nd rfl (.inr rfl) (pe_op op_add_str (pv 7) (pe_ix ix_str (pv 5) (pv 9) (fun _ _ => rfl)))))
        (pss_cons (ps_setLc (i := 10) (own := [("_law_sign", 11)]) (g := gName 11) (tt := tTest (tOp (fun x y H Q => ∃ (c : Nat) (z : Str), x = .str ⟨#[c]⟩ ∧ y = .str z ∧ Q (.bl (!decide (c ∈ z.cps.toList))) H) (tVar 11) (tVar 7))) (te := tVar 11) rfl scSe.nd rfl rfl (sw_true rfl rfl rfl rfl) (pi_list (pv 8)) (blkOk_by (own := [("_law_sign", 11)]) (N := ["_law_d", "_law_many", "_law_signs", "_law_every", "_law_turn", "_law_one", "_law_often", "_law_other", "_law_left", "_law_k", "_law_some", "_law_sign"]) (sc := defScope sSets) (by decide +kernel)) (fun _ _ _ _ _ => pg_name (i := 11) scSe.nd rfl (Or.inl rfl)) (fun _ _ _ _ _ => pts_one (pt_cmpR op_notIn_sign (pv 11) (pv 7) (by rfl))) (fun _ _ _ _ _ => pv 11)) (pss_one (ps_set (i := 7) scSe.nd rfl (.inr rfl) (pe_op op_add_str (pv 7) (pe_ix ix_list (pv 10) pe_int (fun _ _ => rfl))))))))) (pss_one (ps_ret (pe_tup (pa_cons (pv 5) (pa_cons (pv 7) pa_nil))))))))))))))), ?_⟩
  -- many
  refine ⟨_, rfl, d, 10, rfl, hd, by decide, by decide, fun H1 r1 kp1 hd1 h10 h11 => ?_⟩
  refine ⟨_, _, rfl, rfl, (by show 4 ≤ sizeLine; decide), fun T nT => ?_⟩
  have s2 := same_upd (o := .lst [.int 3, .int 4, .int 6, .int (1 + r1)]) nT
  have nTd := dne hd1 nT
  refine ⟨_, rfl, d, 4, rfl, keepD s2 hd1, by decide, by decide, fun H2 r2 kp2 hd2 h20 h21 => ?_⟩
  have kp2' : Kp d H H2 := kp1.trans ((Kp.of s2).trans kp2)
  obtain ⟨m, em, hm1, hm2⟩ : ∃ m : Nat, atI ([.int 3, .int 4, .int 6, .int (1 + r1)] : List V) r2 = some (.int m) ∧ 1 ≤ m ∧ m ≤ 10 := by
    rcases (show r2 = 0 ∨ r2 = 1 ∨ r2 = 2 ∨ r2 = 3 by omega) with rfl | rfl | rfl | rfl
    · exact ⟨3, atI_nat (j := 0) rfl, by decide, by decide⟩
    · exact ⟨4, atI_nat (j := 1) rfl, by decide, by decide⟩
    · exact ⟨6, atI_nat (j := 2) rfl, by decide, by decide⟩
    · refine ⟨(1 + r1).toNat, ?_, by omega, by omega⟩
      rw [show (((1 + r1).toNat : Nat) : Int) = 1 + r1 from Int.toNat_of_nonneg (by omega)]
      exact atI_nat (j := 3) rfl
  refine ⟨T, _, _, _, rfl, rfl, SqL.of (kp2 _ _ upd_same nTd), em, ?_⟩
  refine ⟨_, rfl, d, 4, rfl, hd2, by decide, by decide, fun H3 r3 kp3 hd3 h30 h31 => ?_⟩
  have kp3' := kp2'.trans kp3
  refine ⟨rfl, _, rfl, ite2 (fun _ => ?_) (fun _ => ?_)⟩
  · -- every
    obtain ⟨y1, y2, y3, y4⟩ := zEvery_ok
    refine ⟨⟨_, rfl⟩, _, rfl, _, rfl, zEvery.cps.toList, (by rw [tx_of]; rfl), sm (by omega), fun p np => ?_⟩
    have s4 := same_upd (o := .lst (zEvery.cps.toList.map fun c => V.str (sg c))) np
    refine ⟨d, p, zEvery.cps.toList, rfl, keepD s4 hd3, upd_same, y2, y4, fun H5 q x kp5 hd5 nq hq px => ?_⟩
    have lx := px.length_eq
    refine ⟨_, rfl, q, _, rfl, SqL.of hq, fun p6 n6 => ?_⟩
    rw [show cutV (x.map sgV) none (some 22) = (x.take 22).map sgV from cut_sgs x (i := 22) (by omega)]
    have s6 := same_upd (o := .lst ((x.take 22).map sgV)) n6
    refine ⟨_, p6, (x.take 22).map sg, rfl, rfl, .inl (by rw [sgV_sg]; exact SqL.of upd_same), ?_, ?_⟩
    · rw [sg_sum, List.length_map, List.length_take]
      show _ + _ * 0 ≤ _
      omega
    rw [show Txt.join "" ((x.take 22).map sg) = tx (x.take 22) from join_sg _]
    have kpB := kp3'.trans ((Kp.of s4).trans (kp5.trans (Kp.of s6)))
    have hdB := keepD s6 hd5
    have lB : (x.take 22).length = 22 := by rw [List.length_take]; omega
    have nB : (x.take 22).Nodup := nodup_take (px.nodup_iff.mpr y3) 22
    have cB : ∀ c ∈ x.take 22, c < 128 := fun c hc => y4 c (px.subset (List.mem_of_mem_take hc))
    generalize x.take 22 = lS at lB nB cB kpB hdB ⊢
    have e2 : some (some (V.str (tx lS))) = some (some (V.str (tx lS))) := rfl
    -- turn
    refine ⟨_, rfl, d, 20, rfl, hdB, by decide, by decide, fun H7 r7 kp7 hd7 h70 h71 => ?_⟩
    have kp7' := kpB.trans kp7
    obtain ⟨t7, rfl⟩ : ∃ t7 : Nat, r7 = t7 := ⟨r7.toNat, (Int.toNat_of_nonneg h70).symm⟩
    have i7 : t7 ≤ lS.length := by omega
    refine ⟨_, e2, _, rfl, _, rfl, _, rfl, tx_le (by omega), _, e2, _, rfl, _, rfl, _, rfl, tx_le (by omega), _, _, rfl, rfl, ?_, ?_⟩
    · rw [cutS_tail _ i7, cutS_head _ i7, tx_len, tx_len]
      exact sm (by rw [List.length_drop, List.length_take]; omega)
    have e3 : some (some (V.str (cutS (tx lS) (some (t7 : Int)) none ++ cutS (tx lS) none (some (t7 : Int))))) = some (some (V.str (tx (lS.drop t7 ++ lS.take t7)))) := by
      rw [cutS_tail _ i7, cutS_head _ i7, tx_app]
    have pR : (lS.drop t7 ++ lS.take t7).Perm lS := by
      have := List.perm_append_comm (l₁ := lS.drop t7) (l₂ := lS.take t7)
      rw [List.take_append_drop] at this
      exact this
    have lR := pR.length_eq
    have nR := pR.nodup_iff.mpr nB
    have cR : ∀ c ∈ lS.drop t7 ++ lS.take t7, c < 128 := fun c hc => cB c (pR.subset hc)
    generalize lS.drop t7 ++ lS.take t7 = lT at e3 lR nR cR ⊢
    -- one
    refine ⟨⟨_, rfl⟩, _, rfl, _, e3, _, rfl, _, rfl, d, 3, rfl, hd7, by decide, by decide, fun H8 r8 kp8 hd8 h80 h81 => ?_⟩
    have kp8' := kp7'.trans kp8
    obtain ⟨t8, rfl⟩ : ∃ t8 : Nat, r8 = t8 := ⟨r8.toNat, (Int.toNat_of_nonneg h80).symm⟩
    refine ⟨_, _, rfl, rfl, _, rfl, _, rfl, tx_le (by omega), lT.take (m + t8), (by rw [show cutS (tx lT) none (some ((m : Int) + (t8 : Int))) = tx (lT.take (m + t8)) from cutS_head lT (i := m + t8) (by omega)]), sm (by rw [List.length_take]; omega), fun p9 n9 => ?_⟩
    have s9 := same_upd (o := .lst ((lT.take (m + t8)).map fun c => V.str (sg c))) n9
    refine ⟨d, p9, lT.take (m + t8), rfl, keepD s9 hd8, upd_same, by rw [List.length_take]; omega, fun c hc => cR c (List.mem_of_mem_take hc), fun H10 q10 x10 kp10 hd10 nq10 hq10 px10 => ?_⟩
    have kp10' := kp8'.trans ((Kp.of s9).trans kp10)
    have l10 := px10.length_eq
    rw [List.length_take] at l10
    refine ⟨_, rfl, _, rfl, q10, _, rfl, SqL.of hq10, fun p11 n11 => ?_⟩
    rw [cut_sgs x10 (i := m) (by omega)]
    have s11 := same_upd (o := .lst ((x10.take m).map sgV)) n11
    refine ⟨_, p11, (x10.take m).map sg, rfl, rfl, .inl (by rw [sgV_sg]; exact SqL.of upd_same), ?_, ?_⟩
    · rw [sg_sum, List.length_map, List.length_take]
      show _ + _ * 0 ≤ _
      omega
    rw [show Txt.join "" ((x10.take m).map sg) = tx (x10.take m) from join_sg _]
    have kp11 := kp10'.trans (Kp.of s11)
    have hd11 := keepD s11 hd10
    have lO : (x10.take m).length = m := by rw [List.length_take]; omega
    have nO : (x10.take m).Nodup := nodup_take (px10.nodup_iff.mpr (nodup_take nR _)) m
    have cO : ∀ c ∈ x10.take m, c < 128 := fun c hc => cR c (List.mem_of_mem_take (px10.subset (List.mem_of_mem_take hc)))
    -- often
    refine ⟨_, rfl, d, 4, rfl, hd11, by decide, by decide, fun H13 r13 kp13 hd13 h130 h131 => ?_⟩
    have kp13' := kp11.trans kp13
    refine ⟨_, _, rfl, rfl, ?_⟩
    -- left
    refine ⟨_, rfl, _, e3, lT, rfl, sm (by omega), fun p14 n14 => ?_⟩
    have s14 := same_upd (o := .lst (lT.map fun c => V.str (sg c))) n14
    refine ⟨d, p14, lT, rfl, keepD s14 hd13, upd_same, by omega, cR, fun H15 q15 x15 kp15 hd15 nq15 hq15 px15 => ?_⟩
    have kp15' := kp13'.trans ((Kp.of s14).trans kp15)
    have q15d : q15 ≠ d := dne (keepD s14 hd13) nq15
    have l15 := px15.length_eq
    have n15 := px15.nodup_iff.mpr nR
    have c15 : ∀ c ∈ x15, c < 128 := fun c hc => cR c (px15.subset hc)
    refine ⟨_, rfl, _, rfl, by omega, by omega, ?_⟩
    refine for_range (lo := 0) (n := (m : Int).toNat) (fun i σ H' => Kp d H H' ∧ DAt H' d ∧ H' q15 = some (.lst (x15.map sgV)) ∧ ∃ (o : List Nat) (v2 v3 v9 v10 : Option V), o.length = i ∧ o.Nodup ∧ (∀ c ∈ o, c < 128) ∧
        σ = [some (.ref d), some (.int m), v2, v3, some (.int t7), some (.str (tx (x10.take m))), some (.int (1 + r13)), some (.str (tx o)), some (.ref q15), v9, v10, none])
      ⟨kp15', hd15, hq15, [], _, _, none, none, rfl, List.nodup_nil, fun c hc => (nomatch hc), rfl⟩ ?_ ?_
    · rintro i σ H16 hi ⟨kp16, hd16, hq, o, v2, v3, v9, v10, lo', no, co, rfl⟩
      rw [Int.toNat_natCast] at hi
      refine ⟨_, rfl, _, rfl, d, _, rfl, hd16, by omega, by omega, fun H17 r17 kp17 hd17 _ _ => ?_⟩
      have kp17' := kp16.trans kp17
      refine ⟨rfl, _, rfl, ite2 (fun _ => ?_) (fun _ => ?_)⟩
      · obtain ⟨c, hc⟩ : ∃ c, (x10.take m)[((i : Nat) : Int).toNat]? = some c := some_toNat (Int.natCast_nonneg i) (by omega)
        have hcm : c ∈ x10.take m := List.mem_of_getElem? hc
        have hat : atI (tx (x10.take m)).cps.toList (0 + (i : Int)) = some c := by rw [Int.zero_add]; exact at_tx (Int.natCast_nonneg i) hc
        refine ⟨_, rfl, _, rfl, _, _, c, rfl, rfl, tx_le (by omega), hat, _, rfl, c, _, rfl, rfl, _, rfl, ?_⟩
        rw [tx_cps]
        refine ite2 (fun e => ?_) (fun _ => ?_)
        · have h3 : c ∉ o := by simpa using e
          refine ⟨_, rfl, _, rfl, _, rfl, _, _, c, rfl, rfl, tx_le (by omega), hat, _, _, rfl, rfl, ?_, kp17', hd17, kp17 _ _ hq q15d, o ++ [c], v2, v3, some (.int (0 + i)), v10, by simp; omega, nodup_snoc no h3, ?_, ?_⟩
          · rw [tx_len]; exact sm (by show _ + 1 ≤ _; omega)
          · intro c' hc'
            rcases List.mem_append.mp hc' with h | h
            · exact co c' h
            · obtain rfl := List.mem_singleton.mp h
              exact cO _ hcm
          · show [some (V.ref d), some (V.int m), v2, v3, some (V.int t7), some (V.str (tx (x10.take m))), some (V.int (1 + r13)), some (V.str (tx o ++ tx [c])), some (V.ref q15), some (V.int (0 + i)), v10, none] = _
            rw [tx_app]
        · refine ⟨_, rfl, q15, rfl, ⟨_, SqL.of (kp17 _ _ hq q15d)⟩, fun D nD => lc_list (K := K) (a := q15) (xs := x15.map sgV) (fun j H' => Same H17 H' ∧ H' D = some (.lst (((x15.take j).filter (fun c => !decide (c ∈ o))).map sgV))) ⟨same_upd nD, upd_same⟩ (fun j H' _ ⟨s, _⟩ => SqL.of (s _ _ (kp17 _ _ hq q15d))) ?_ ?_⟩
          · rintro j y H18 hj ⟨s18, hD⟩
            rw [List.getElem?_map] at hj
            obtain ⟨c, hc, rfl⟩ := Option.map_eq_some_iff.mp hj
            have ft := filter_take (p := fun c => !decide (c ∈ o)) hc
            have fl : ((x15.take j).filter (fun c => !decide (c ∈ o))).length ≤ 22 := Nat.le_trans (List.length_filter_le _ _) (by rw [List.length_take]; omega)
            refine ⟨rfl, _, rfl, _, rfl, c, _, rfl, rfl, _, rfl, ?_⟩
            rw [tx_cps]
            refine ite2 (fun e => ?_) (fun e => ?_)
            · rw [if_pos e] at ft
              refine ⟨_, rfl, _, hD, sm' (by rw [List.length_map]; omega), fun b u q => ?_, ?_⟩
              · rw [upd_ne (ne_of_none q nD)]; exact s18 b u q
              · rw [upd_same, ft, List.map_append]; rfl
            · rw [if_neg e, List.append_nil] at ft
              exact ⟨s18, by rw [hD, ft]⟩
          · rintro H18 ⟨s18, hD⟩
            rw [List.length_map, List.take_length] at hD
            have hne := one_more (l := x15) (o := o) n15 (by omega)
            cases hf : x15.filter (fun c => !decide (c ∈ o)) with
            | nil => exact absurd hf hne
            | cons c0 cr =>
              have hm0 : c0 ∈ x15.filter (fun c => !decide (c ∈ o)) := by rw [hf]; exact List.mem_cons_self
              obtain ⟨h1, h2⟩ := List.mem_filter.mp hm0
              have h3 : c0 ∉ o := by simpa using h2
              rw [hf] at hD
              refine ⟨_, rfl, _, rfl, D, _, 0, sgV c0, rfl, rfl, SqL.of hD, atI_nat (j := 0) rfl, _, _, rfl, rfl, ?_, kp17'.trans (.of s18), keepD s18 hd17, s18 _ _ (kp17 _ _ hq q15d), o ++ [c0], v2, v3, some (.int (0 + i)), some (.ref D), by simp; omega, nodup_snoc no h3, ?_, ?_⟩
              · rw [tx_len]; exact sm (by show _ + 1 ≤ _; omega)
              · intro c hc
                rcases List.mem_append.mp hc with h | h
                · exact co c h
                · obtain rfl := List.mem_singleton.mp h
                  exact c15 _ h1
              · show [some (V.ref d), some (V.int m), v2, v3, some (V.int t7), some (V.str (tx (x10.take m))), some (V.int (1 + r13)), some (V.str (tx o ++ tx [c0])), some (V.ref q15), some (V.int (0 + i)), some (V.ref D), none] = _
                rw [tx_app]
      · refine iteF ?_
        refine ⟨_, rfl, q15, rfl, ⟨_, SqL.of (kp17 _ _ hq q15d)⟩, fun D nD => lc_list (K := K) (a := q15) (xs := x15.map sgV) (fun j H' => Same H17 H' ∧ H' D = some (.lst (((x15.take j).filter (fun c => !decide (c ∈ o))).map sgV))) ⟨same_upd nD, upd_same⟩ (fun j H' _ ⟨s, _⟩ => SqL.of (s _ _ (kp17 _ _ hq q15d))) ?_ ?_⟩
        · rintro j y H18 hj ⟨s18, hD⟩
          rw [List.getElem?_map] at hj
          obtain ⟨c, hc, rfl⟩ := Option.map_eq_some_iff.mp hj
          have ft := filter_take (p := fun c => !decide (c ∈ o)) hc
          have fl : ((x15.take j).filter (fun c => !decide (c ∈ o))).length ≤ 22 := Nat.le_trans (List.length_filter_le _ _) (by rw [List.length_take]; omega)
          refine ⟨rfl, _, rfl, _, rfl, c, _, rfl, rfl, _, rfl, ?_⟩
          rw [tx_cps]
          refine ite2 (fun e => ?_) (fun e => ?_)
          · rw [if_pos e] at ft
            refine ⟨_, rfl, _, hD, sm' (by rw [List.length_map]; omega), fun b u q => ?_, ?_⟩
            · rw [upd_ne (ne_of_none q nD)]; exact s18 b u q
            · rw [upd_same, ft, List.map_append]; rfl
          · rw [if_neg e, List.append_nil] at ft
            exact ⟨s18, by rw [hD, ft]⟩
        · rintro H18 ⟨s18, hD⟩
          rw [List.length_map, List.take_length] at hD
          have hne := one_more (l := x15) (o := o) n15 (by omega)
          cases hf : x15.filter (fun c => !decide (c ∈ o)) with
          | nil => exact absurd hf hne
          | cons c0 cr =>
            have hm0 : c0 ∈ x15.filter (fun c => !decide (c ∈ o)) := by rw [hf]; exact List.mem_cons_self
            obtain ⟨h1, h2⟩ := List.mem_filter.mp hm0
            have h3 : c0 ∉ o := by simpa using h2
            rw [hf] at hD
            refine ⟨_, rfl, _, rfl, D, _, 0, sgV c0, rfl, rfl, SqL.of hD, atI_nat (j := 0) rfl, _, _, rfl, rfl, ?_, kp17'.trans (.of s18), keepD s18 hd17, s18 _ _ (kp17 _ _ hq q15d), o ++ [c0], v2, v3, some (.int (0 + i)), some (.ref D), by simp; omega, nodup_snoc no h3, ?_, ?_⟩
            · rw [tx_len]; exact sm (by show _ + 1 ≤ _; omega)
            · intro c hc
              rcases List.mem_append.mp hc with h | h
              · exact co c h
              · obtain rfl := List.mem_singleton.mp h
                exact c15 _ h1
            · show [some (V.ref d), some (V.int m), v2, v3, some (V.int t7), some (V.str (tx (x10.take m))), some (V.int (1 + r13)), some (V.str (tx o ++ tx [c0])), some (V.ref q15), some (V.int (0 + i)), some (V.ref D), none] = _
              rw [tx_app]
    · rintro σ H16 ⟨kp16, hd16, hq, o, v2, v3, v9, v10, lo', no, co, rfl⟩
      rw [Int.toNat_natCast] at lo'
      refine ⟨_, rfl, _, rfl, (by show 2 ≤ sizeLine; decide), fun r nr => ?_⟩
      have s20 := same_upd (o := .tup [.str (tx (x10.take m)), .str (tx o)]) nr
      exact k _ r ⟨x10.take m, o⟩ (kp16.trans (.of s20)) (keepD s20 hd16) ⟨⟨by show o.length = (x10.take m).length; omega⟩, nO, no, by show 1 ≤ (x10.take m).length; omega, by show (x10.take m).length ≤ 10; omega, cO, co⟩ upd_same
  · obtain ⟨lB, nB, cB⟩ := zSigns_ok
    have e2 : some (some (V.str (Str.ofString "abcdefghij 0123456.,-x"))) = some (some (V.str (tx zSigns.cps.toList))) := by rw [tx_of]; rfl
    have kpB := kp3'
    have hdB := hd3
    generalize zSigns.cps.toList = lS at lB nB cB e2 ⊢
    -- turn
    refine ⟨_, rfl, d, 20, rfl, hdB, by decide, by decide, fun H7 r7 kp7 hd7 h70 h71 => ?_⟩
    have kp7' := kpB.trans kp7
    obtain ⟨t7, rfl⟩ : ∃ t7 : Nat, r7 = t7 := ⟨r7.toNat, (Int.toNat_of_nonneg h70).symm⟩
    have i7 : t7 ≤ lS.length := by omega
    refine ⟨_, e2, _, rfl, _, rfl, _, rfl, tx_le (by omega), _, e2, _, rfl, _, rfl, _, rfl, tx_le (by omega), _, _, rfl, rfl, ?_, ?_⟩
    · rw [cutS_tail _ i7, cutS_head _ i7, tx_len, tx_len]
      exact sm (by rw [List.length_drop, List.length_take]; omega)
    have e3 : some (some (V.str (cutS (tx lS) (some (t7 : Int)) none ++ cutS (tx lS) none (some (t7 : Int))))) = some (some (V.str (tx (lS.drop t7 ++ lS.take t7)))) := by
      rw [cutS_tail _ i7, cutS_head _ i7, tx_app]
    have pR : (lS.drop t7 ++ lS.take t7).Perm lS := by
      have := List.perm_append_comm (l₁ := lS.drop t7) (l₂ := lS.take t7)
      rw [List.take_append_drop] at this
      exact this
    have lR := pR.length_eq
    have nR := pR.nodup_iff.mpr nB
    have cR : ∀ c ∈ lS.drop t7 ++ lS.take t7, c < 128 := fun c hc => cB c (pR.subset hc)
    generalize lS.drop t7 ++ lS.take t7 = lT at e3 lR nR cR ⊢
    -- one
    refine ⟨⟨_, rfl⟩, _, rfl, _, e3, _, rfl, _, rfl, d, 3, rfl, hd7, by decide, by decide, fun H8 r8 kp8 hd8 h80 h81 => ?_⟩
    have kp8' := kp7'.trans kp8
    obtain ⟨t8, rfl⟩ : ∃ t8 : Nat, r8 = t8 := ⟨r8.toNat, (Int.toNat_of_nonneg h80).symm⟩
    refine ⟨_, _, rfl, rfl, _, rfl, _, rfl, tx_le (by omega), lT.take (m + t8), (by rw [show cutS (tx lT) none (some ((m : Int) + (t8 : Int))) = tx (lT.take (m + t8)) from cutS_head lT (i := m + t8) (by omega)]), sm (by rw [List.length_take]; omega), fun p9 n9 => ?_⟩
    have s9 := same_upd (o := .lst ((lT.take (m + t8)).map fun c => V.str (sg c))) n9
    refine ⟨d, p9, lT.take (m + t8), rfl, keepD s9 hd8, upd_same, by rw [List.length_take]; omega, fun c hc => cR c (List.mem_of_mem_take hc), fun H10 q10 x10 kp10 hd10 nq10 hq10 px10 => ?_⟩
    have kp10' := kp8'.trans ((Kp.of s9).trans kp10)
    have l10 := px10.length_eq
    rw [List.length_take] at l10
    refine ⟨_, rfl, _, rfl, q10, _, rfl, SqL.of hq10, fun p11 n11 => ?_⟩
    rw [cut_sgs x10 (i := m) (by omega)]
    have s11 := same_upd (o := .lst ((x10.take m).map sgV)) n11
    refine ⟨_, p11, (x10.take m).map sg, rfl, rfl, .inl (by rw [sgV_sg]; exact SqL.of upd_same), ?_, ?_⟩
    · rw [sg_sum, List.length_map, List.length_take]
      show _ + _ * 0 ≤ _
      omega
    rw [show Txt.join "" ((x10.take m).map sg) = tx (x10.take m) from join_sg _]
    have kp11 := kp10'.trans (Kp.of s11)
    have hd11 := keepD s11 hd10
    have lO : (x10.take m).length = m := by rw [List.length_take]; omega
    have nO : (x10.take m).Nodup := nodup_take (px10.nodup_iff.mpr (nodup_take nR _)) m
    have cO : ∀ c ∈ x10.take m, c < 128 := fun c hc => cR c (List.mem_of_mem_take (px10.subset (List.mem_of_mem_take hc)))
    -- often
    refine ⟨_, rfl, d, 4, rfl, hd11, by decide, by decide, fun H13 r13 kp13 hd13 h130 h131 => ?_⟩
    have kp13' := kp11.trans kp13
    refine ⟨_, _, rfl, rfl, ?_⟩
    -- left
    refine ⟨_, rfl, _, e3, lT, rfl, sm (by omega), fun p14 n14 => ?_⟩
    have s14 := same_upd (o := .lst (lT.map fun c => V.str (sg c))) n14
    refine ⟨d, p14, lT, rfl, keepD s14 hd13, upd_same, by omega, cR, fun H15 q15 x15 kp15 hd15 nq15 hq15 px15 => ?_⟩
    have kp15' := kp13'.trans ((Kp.of s14).trans kp15)
    have q15d : q15 ≠ d := dne (keepD s14 hd13) nq15
    have l15 := px15.length_eq
    have n15 := px15.nodup_iff.mpr nR
    have c15 : ∀ c ∈ x15, c < 128 := fun c hc => cR c (px15.subset hc)
    refine ⟨_, rfl, _, rfl, by omega, by omega, ?_⟩
    refine for_range (lo := 0) (n := (m : Int).toNat) (fun i σ H' => Kp d H H' ∧ DAt H' d ∧ H' q15 = some (.lst (x15.map sgV)) ∧ ∃ (o : List Nat) (v2 v3 v9 v10 : Option V), o.length = i ∧ o.Nodup ∧ (∀ c ∈ o, c < 128) ∧
        σ = [some (.ref d), some (.int m), v2, v3, some (.int t7), some (.str (tx (x10.take m))), some (.int (1 + r13)), some (.str (tx o)), some (.ref q15), v9, v10, none])
      ⟨kp15', hd15, hq15, [], _, _, none, none, rfl, List.nodup_nil, fun c hc => (nomatch hc), rfl⟩ ?_ ?_
    · rintro i σ H16 hi ⟨kp16, hd16, hq, o, v2, v3, v9, v10, lo', no, co, rfl⟩
      rw [Int.toNat_natCast] at hi
      refine ⟨_, rfl, _, rfl, d, _, rfl, hd16, by omega, by omega, fun H17 r17 kp17 hd17 _ _ => ?_⟩
      have kp17' := kp16.trans kp17
      refine ⟨rfl, _, rfl, ite2 (fun _ => ?_) (fun _ => ?_)⟩
      · obtain ⟨c, hc⟩ : ∃ c, (x10.take m)[((i : Nat) : Int).toNat]? = some c := some_toNat (Int.natCast_nonneg i) (by omega)
        have hcm : c ∈ x10.take m := List.mem_of_getElem? hc
        have hat : atI (tx (x10.take m)).cps.toList (0 + (i : Int)) = some c := by rw [Int.zero_add]; exact at_tx (Int.natCast_nonneg i) hc
        refine ⟨_, rfl, _, rfl, _, _, c, rfl, rfl, tx_le (by omega), hat, _, rfl, c, _, rfl, rfl, _, rfl, ?_⟩
        rw [tx_cps]
        refine ite2 (fun e => ?_) (fun _ => ?_)
        · have h3 : c ∉ o := by simpa using e
          refine ⟨_, rfl, _, rfl, _, rfl, _, _, c, rfl, rfl, tx_le (by omega), hat, _, _, rfl, rfl, ?_, kp17', hd17, kp17 _ _ hq q15d, o ++ [c], v2, v3, some (.int (0 + i)), v10, by simp; omega, nodup_snoc no h3, ?_, ?_⟩
          · rw [tx_len]; exact sm (by show _ + 1 ≤ _; omega)
          · intro c' hc'
            rcases List.mem_append.mp hc' with h | h
            · exact co c' h
            · obtain rfl := List.mem_singleton.mp h
              exact cO _ hcm
          · show [some (V.ref d), some (V.int m), v2, v3, some (V.int t7), some (V.str (tx (x10.take m))), some (V.int (1 + r13)), some (V.str (tx o ++ tx [c])), some (V.ref q15), some (V.int (0 + i)), v10, none] = _
            rw [tx_app]
        · refine ⟨_, rfl, q15, rfl, ⟨_, SqL.of (kp17 _ _ hq q15d)⟩, fun D nD => lc_list (K := K) (a := q15) (xs := x15.map sgV) (fun j H' => Same H17 H' ∧ H' D = some (.lst (((x15.take j).filter (fun c => !decide (c ∈ o))).map sgV))) ⟨same_upd nD, upd_same⟩ (fun j H' _ ⟨s, _⟩ => SqL.of (s _ _ (kp17 _ _ hq q15d))) ?_ ?_⟩
          · rintro j y H18 hj ⟨s18, hD⟩
            rw [List.getElem?_map] at hj
            obtain ⟨c, hc, rfl⟩ := Option.map_eq_some_iff.mp hj
            have ft := filter_take (p := fun c => !decide (c ∈ o)) hc
            have fl : ((x15.take j).filter (fun c => !decide (c ∈ o))).length ≤ 22 := Nat.le_trans (List.length_filter_le _ _) (by rw [List.length_take]; omega)
            refine ⟨rfl, _, rfl, _, rfl, c, _, rfl, rfl, _, rfl, ?_⟩
            rw [tx_cps]
            refine ite2 (fun e => ?_) (fun e => ?_)
            · rw [if_pos e] at ft
              refine ⟨_, rfl, _, hD, sm' (by rw [List.length_map]; omega), fun b u q => ?_, ?_⟩
              · rw [upd_ne (ne_of_none q nD)]; exact s18 b u q
              · rw [upd_same, ft, List.map_append]; rfl
            · rw [if_neg e, List.append_nil] at ft
              exact ⟨s18, by rw [hD, ft]⟩
          · rintro H18 ⟨s18, hD⟩
            rw [List.length_map, List.take_length] at hD
            have hne := one_more (l := x15) (o := o) n15 (by omega)
            cases hf : x15.filter (fun c => !decide (c ∈ o)) with
            | nil => exact absurd hf hne
            | cons c0 cr =>
              have hm0 : c0 ∈ x15.filter (fun c => !decide (c ∈ o)) := by rw [hf]; exact List.mem_cons_self
              obtain ⟨h1, h2⟩ := List.mem_filter.mp hm0
              have h3 : c0 ∉ o := by simpa using h2
              rw [hf] at hD
              refine ⟨_, rfl, _, rfl, D, _, 0, sgV c0, rfl, rfl, SqL.of hD, atI_nat (j := 0) rfl, _, _, rfl, rfl, ?_, kp17'.trans (.of s18), keepD s18 hd17, s18 _ _ (kp17 _ _ hq q15d), o ++ [c0], v2, v3, some (.int (0 + i)), some (.ref D), by simp; omega, nodup_snoc no h3, ?_, ?_⟩
              · rw [tx_len]; exact sm (by show _ + 1 ≤ _; omega)
              · intro c hc
                rcases List.mem_append.mp hc with h | h
                · exact co c h
                · obtain rfl := List.mem_singleton.mp h
                  exact c15 _ h1
              · show [some (V.ref d), some (V.int m), v2, v3, some (V.int t7), some (V.str (tx (x10.take m))), some (V.int (1 + r13)), some (V.str (tx o ++ tx [c0])), some (V.ref q15), some (V.int (0 + i)), some (V.ref D), none] = _
                rw [tx_app]
      · refine iteF ?_
        refine ⟨_, rfl, q15, rfl, ⟨_, SqL.of (kp17 _ _ hq q15d)⟩, fun D nD => lc_list (K := K) (a := q15) (xs := x15.map sgV) (fun j H' => Same H17 H' ∧ H' D = some (.lst (((x15.take j).filter (fun c => !decide (c ∈ o))).map sgV))) ⟨same_upd nD, upd_same⟩ (fun j H' _ ⟨s, _⟩ => SqL.of (s _ _ (kp17 _ _ hq q15d))) ?_ ?_⟩
        · rintro j y H18 hj ⟨s18, hD⟩
          rw [List.getElem?_map] at hj
          obtain ⟨c, hc, rfl⟩ := Option.map_eq_some_iff.mp hj
          have ft := filter_take (p := fun c => !decide (c ∈ o)) hc
          have fl : ((x15.take j).filter (fun c => !decide (c ∈ o))).length ≤ 22 := Nat.le_trans (List.length_filter_le _ _) (by rw [List.length_take]; omega)
          refine ⟨rfl, _, rfl, _, rfl, c, _, rfl, rfl, _, rfl, ?_⟩
          rw [tx_cps]
          refine ite2 (fun e => ?_) (fun e => ?_)
          · rw [if_pos e] at ft
            refine ⟨_, rfl, _, hD, sm' (by rw [List.length_map]; omega), fun b u q => ?_, ?_⟩
            · rw [upd_ne (ne_of_none q nD)]; exact s18 b u q
            · rw [upd_same, ft, List.map_append]; rfl
          · rw [if_neg e, List.append_nil] at ft
            exact ⟨s18, by rw [hD, ft]⟩
        · rintro H18 ⟨s18, hD⟩
          rw [List.length_map, List.take_length] at hD
          have hne := one_more (l := x15) (o := o) n15 (by omega)
          cases hf : x15.filter (fun c => !decide (c ∈ o)) with
          | nil => exact absurd hf hne
          | cons c0 cr =>
            have hm0 : c0 ∈ x15.filter (fun c => !decide (c ∈ o)) := by rw [hf]; exact List.mem_cons_self
            obtain ⟨h1, h2⟩ := List.mem_filter.mp hm0
            have h3 : c0 ∉ o := by simpa using h2
            rw [hf] at hD
            refine ⟨_, rfl, _, rfl, D, _, 0, sgV c0, rfl, rfl, SqL.of hD, atI_nat (j := 0) rfl, _, _, rfl, rfl, ?_, kp17'.trans (.of s18), keepD s18 hd17, s18 _ _ (kp17 _ _ hq q15d), o ++ [c0], v2, v3, some (.int (0 + i)), some (.ref D), by simp; omega, nodup_snoc no h3, ?_, ?_⟩
            · rw [tx_len]; exact sm (by show _ + 1 ≤ _; omega)
            · intro c hc
              rcases List.mem_append.mp hc with h | h
              · exact co c h
              · obtain rfl := List.mem_singleton.mp h
                exact c15 _ h1
            · show [some (V.ref d), some (V.int m), v2, v3, some (V.int t7), some (V.str (tx (x10.take m))), some (V.int (1 + r13)), some (V.str (tx o ++ tx [c0])), some (V.ref q15), some (V.int (0 + i)), some (V.ref D), none] = _
              rw [tx_app]
    · rintro σ H16 ⟨kp16, hd16, hq, o, v2, v3, v9, v10, lo', no, co, rfl⟩
      rw [Int.toNat_natCast] at lo'
      refine ⟨_, rfl, _, rfl, (by show 2 ≤ sizeLine; decide), fun r nr => ?_⟩
      have s20 := same_upd (o := .tup [.str (tx (x10.take m)), .str (tx o)]) nr
      exact k _ r ⟨x10.take m, o⟩ (kp16.trans (.of s20)) (keepD s20 hd16) ⟨⟨by show o.length = (x10.take m).length; omega⟩, nO, no, by show 1 ≤ (x10.take m).length; omega, by show (x10.take m).length ≤ 10; omega, cO, co⟩ upd_same
end
end SR

namespace SR
open PySem PySem.Spec PyProof.Rows L2
/-! ### a level as a dict: its keys, its tapes, where they stand -/
def tk (q : K3) : List Key := [.inl q.1, .inl (bi q.2.1), .inl (oi q.2.2)]
theorem bi_inj {a b : Bool} (e : bi a = bi b) : a = b := by cases a <;> cases b <;> first | rfl | (exact absurd e (by decide))
theorem oi_inj {a b : Option Nat} (e : oi a = oi b) : a = b := by
  cases a with
  | none => cases b with
    | none => rfl
    | some j => exfalso; have : (-1 : Int) = (j : Int) := e; omega
  | some i => cases b with
    | none => exfalso; have : (i : Int) = -1 := e; omega
    | some j => have : (i : Int) = (j : Int) := e; rw [show i = j by omega]
theorem tk_inj {q p : K3} (e : tk q = tk p) : q = p := by
  obtain ⟨a, b, o⟩ := q
  obtain ⟨a', b', o'⟩ := p
  have h : ([Sum.inl (a : Int), Sum.inl (bi b), Sum.inl (oi o)] : List Key) = [Sum.inl (a' : Int), Sum.inl (bi b'), Sum.inl (oi o')] := e
  injection h with h1 h
  injection h with h2 h
  injection h with h3 _
  have e1 : (a : Int) = a' := Sum.inl.inj h1
  have e2 := bi_inj (Sum.inl.inj h2)
  have e3 := oi_inj (Sum.inl.inj h3)
  rw [show a = a' by omega, e2, e3]
theorem tk_v (q : K3) : (tk q).map kV = [.int q.1, .int (bi q.2.1), .int (oi q.2.2)] := rfl
abbrev LT := List (K3 × List Int × Addr)
def toLv (lt : LT) : Lv := lt.map fun x => (x.1, x.2.1)
def toKv (lt : LT) : List (List Key × V) := lt.map fun x => (tk x.1, .ref x.2.2)
def getT (lt : LT) (q : K3) : Option (List Int × Addr) := (lt.find? fun x => decide (x.1 = q)).map (·.2)
def putT (lt : LT) (q : K3) (w : List Int) (p : Addr) : LT := if (getT lt q).isSome = true then lt.map (fun x => if x.1 = q then (x.1, w, p) else x) else lt ++ [(q, w, p)]
theorem getT_pos {x : K3 × List Int × Addr} {lt : LT} {q : K3} (e : x.1 = q) : getT (x :: lt) q = some x.2 := by simp [getT, List.find?_cons, e]
theorem getT_neg {x : K3 × List Int × Addr} {lt : LT} {q : K3} (e : ¬ x.1 = q) : getT (x :: lt) q = getT lt q := by simp [getT, List.find?_cons, e]
theorem valV_toKv (q : K3) : ∀ lt : LT, valV (toKv lt) (tk q) = (getT lt q).map fun x => V.ref x.2
  | [] => rfl
  | x :: lt => by
    show valV ((tk x.1, V.ref x.2.2) :: toKv lt) (tk q) = _
    by_cases e : x.1 = q
    · rw [getT_pos e, valV_pos (by show tk x.1 = tk q; rw [e])]
      rfl
    · rw [getT_neg e, valV_neg (fun z => e (tk_inj z)), valV_toKv q lt]
theorem getA_toLv (q : K3) : ∀ lt : LT, getA (toLv lt) q = (getT lt q).map (·.1)
  | [] => rfl
  | x :: lt => by
    show getA ((x.1, x.2.1) :: toLv lt) q = _
    by_cases e : x.1 = q
    · rw [getT_pos e, getA_pos (p := (x.1, x.2.1)) e]
      rfl
    · rw [getT_neg e, getA_neg (p := (x.1, x.2.1)) e, getA_toLv q lt]
theorem getT_mem {q : K3} {w : List Int} {p : Addr} : ∀ {lt : LT}, getT lt q = some (w, p) → (q, w, p) ∈ lt
  | x :: lt, h => by
    by_cases e : x.1 = q
    · rw [getT_pos e] at h
      have := Option.some.inj h
      obtain ⟨a, b, c⟩ := x
      cases this
      cases e
      exact List.mem_cons_self
    · rw [getT_neg e] at h
      exact List.mem_cons_of_mem _ (getT_mem h)
theorem toKv_put (lt : LT) (q : K3) (w : List Int) (p : Addr) : putK (toKv lt) (tk q) (.ref p) = toKv (putT lt q w p) := by
  unfold putK putT
  rw [valV_any, valV_toKv, Option.isSome_map]
  by_cases e : (getT lt q).isSome = true
  · rw [if_pos e, if_pos e]
    unfold toKv
    rw [List.map_map, List.map_map]
    refine List.map_congr_left fun x _ => ?_
    simp only [Function.comp]
    by_cases h : x.1 = q
    · rw [if_pos h, if_pos (by rw [h])]
    · rw [if_neg h, if_neg (fun z => h (tk_inj z))]
  · rw [if_neg e, if_neg e]
    unfold toKv
    rw [List.map_append]
    rfl
theorem toLv_put (lt : LT) (q : K3) (w : List Int) (p : Addr) : putA (toLv lt) q w = toLv (putT lt q w p) := by
  unfold putA putT
  rw [getA_any, getA_toLv, Option.isSome_map]
  by_cases e : (getT lt q).isSome = true
  · rw [if_pos e, if_pos e]
    unfold toLv
    rw [List.map_map, List.map_map]
    refine List.map_congr_left fun x _ => ?_
    simp only [Function.comp]
    by_cases h : x.1 = q
    · rw [if_pos h, if_pos h]
    · rw [if_neg h, if_neg h]
  · rw [if_neg e, if_neg e]
    unfold toLv
    rw [List.map_append]
    rfl
theorem mem_putT {lt : LT} {q : K3} {w : List Int} {p : Addr} {x : K3 × List Int × Addr} (h : x ∈ putT lt q w p) : x ∈ lt ∨ (x.2.1 = w ∧ x.2.2 = p) := by
  unfold putT at h
  by_cases e : (getT lt q).isSome = true
  · rw [if_pos e] at h
    obtain ⟨y, hy, rfl⟩ := List.mem_map.mp h
    by_cases z : y.1 = q
    · rw [if_pos z]; exact .inr ⟨rfl, rfl⟩
    · rw [if_neg z]; exact .inl hy
  · rw [if_neg e] at h
    rcases List.mem_append.mp h with h | h
    · exact .inl h
    · obtain rfl := List.mem_singleton.mp h
      exact .inr ⟨rfl, rfl⟩
/-- the tapes of a level stand -/
def TapesAt (H : Hp) (lt : LT) : Prop := ∀ x ∈ lt, H x.2.2 = some (.lst (x.2.1.map V.int))
theorem keepT {H H' : Hp} (s : Same H H') {lt : LT} (h : TapesAt H lt) : TapesAt H' lt := fun x hx => s _ _ (h x hx)
theorem toKv_len (lt : LT) : (toKv lt).length = lt.length := List.length_map _
theorem toLv_len (lt : LT) : (toLv lt).length = lt.length := List.length_map _
/-- the dict stands and may be read -/
def LvAt (H : Hp) (L : Addr) (lt : LT) : Prop := H L = some (.dT (toKv lt)) ∧ TapesAt H lt
theorem keepLv {H H' : Hp} (s : Same H H') {L : Addr} {lt : LT} (h : LvAt H L lt) : LvAt H' L lt := ⟨s _ _ h.1, keepT s h.2⟩
/-! ### a lock taken and given back -/
theorem same_unlock {H H' : Hp} {d : Addr} {od : Obj} {u : HO} (h : H d = some u) (s : Same (upd H d (.frz od u)) H') : Same H (upd H' d u) := fun b o e => by
  by_cases hb : b = d
  · subst hb
    rw [h] at e
    rw [upd_same]
    exact e
  · rw [upd_ne hb]
    exact s _ _ (by rw [upd_ne hb]; exact e)
theorem locked_ne {H : Hp} {d b : Addr} {v : HO} {o : HO} (hb : b ≠ d) (e : H b = some o) : upd H d v b = some o := by rw [upd_ne hb]; exact e
/-! ### lists of keys -/
def keyD (q : K3) : PyData := .tuple [.int q.1, .int (bi q.2.1), .int (oi q.2.2)]
def KeysAtT (H : Hp) (kb : List (K3 × Addr)) : Prop := ∀ x ∈ kb, H x.2 = some (.tup ((tk x.1).map kV))
theorem dp_keys {K : PySem.W.Frag} {H : Hp} : ∀ {kb : List (K3 × Addr)}, KeysAtT H kb → DpAll K H (kb.map fun x => V.ref x.2) (kb.map fun x => keyD x.1)
  | [], _ => .nil
  | x :: kb, h => .cons (.tup (SqT.of (h x List.mem_cons_self)) (.cons (.int _) (.cons (.int _) (.cons (.int _) .nil)))) (dp_keys fun y hy => h y (List.mem_cons_of_mem _ hy))
theorem shaped_keys (kb : List (K3 × Addr)) : SeqAt.shaped (.list (kb.map fun x => keyD x.1)) = true := shaped_all fun d hd => by
  obtain ⟨x, _, rfl⟩ := List.mem_map.mp hd
  refine ⟨?_, ?_⟩
  · simp [keyD, PyData.canLay0, PyData.canLayAll0]
  · simp [keyD, PyData.depth, PyData.depthAll]
/-! ### steps as pairs -/
structure StepR where
  code : Int
  key : K3
  pa : Addr
  ka : Addr
def StAt (H : Hp) (sl : List StepR) : Prop := ∀ x ∈ sl, H x.pa = some (.tup [.int x.code, .ref x.ka]) ∧ H x.ka = some (.tup ((tk x.key).map kV))
theorem keepSt {H H' : Hp} (s : Same H H') {sl : List StepR} (h : StAt H sl) : StAt H' sl := fun x hx => ⟨s _ _ (h x hx).1, s _ _ (h x hx).2⟩
def stepsOf (sl : List StepR) : List (Int × K3) := sl.map fun x => (x.code, x.key)
def stV (sl : List StepR) : List V := sl.map fun x => V.ref x.pa
theorem cands_take {S : Sets} {most : Nat} {t : List Nat} {lv : Lv} {i : Nat} {e : K3 × List Int} (h : lv[i]? = some e) : cands S most t (lv.take (i + 1)) = cands S most t (lv.take i) ++ candsOf S most t e := by
  unfold cands
  rw [List.take_add_one, h, List.map_append, List.flatten_append]
  show _ ++ ([candsOf S most t e]).flatten = _
  rw [List.flatten_singleton]
theorem relax1_take {cs : List (K3 × List Int)} {b : Lv} {j : Nat} {c : K3 × List Int} (h : cs[j]? = some c) : (cs.take (j + 1)).foldl relax1 b = relax1 ((cs.take j).foldl relax1 b) c := by
  rw [List.take_add_one, h, List.foldl_append]
  rfl
end SR

namespace SR
open PySem PySem.Spec PyProof.Rows L2
def tInner (K : PySem.W.Frag) : TS := tFor (iList K (tVar 12)) (gTup K 2 (gCons (gName 13) (gCons (gName 6) gNil)))
  (tIfS (tOr (tB (tDNotIn (tVar 6) (tVar 7))) (tTest (tOp (rLtL K) (tOp rCat (tVar 11) (tLst (tCons (tVar 13) tNil))) (tDGet (tVar 7) (tVar 6))))) (sDPut (tVar 7) (tVar 6) (tOp rCat (tVar 11) (tLst (tCons (tVar 13) tNil)))) tNext)
def candL (sl : List StepR) (wt : List Int) : List (K3 × List Int) := sl.map fun x => (x.key, wt ++ [x.code])
section
variable {K : PySem.W.Frag}
theorem tapes_put {H : Hp} {bt : LT} {q : K3} {w : List Int} {p Bh : Addr} (hb : ∃ kv, H Bh = some (.dT kv)) (h : TapesAt H bt) (hp : H p = some (.lst (w.map V.int))) (v : HO) : TapesAt (upd H Bh v) (putT bt q w p) := fun x hx => by
  obtain ⟨kv, hb⟩ := hb
  have ne : ∀ {c : Addr} {l : List V}, H c = some (.lst l) → c ≠ Bh := fun e z => by
    subst z
    rw [hb] at e
    cases e
  rcases mem_putT hx with h1 | ⟨h1, h2⟩
  · have := h x h1
    rw [upd_ne (ne this)]
    exact this
  · rw [h1, h2, upd_ne (ne hp)]
    exact hp
theorem inner_ok {D : Ends} {H : Hp} {pt SD Bh : Addr} {sl : List StepR} {wt : List Int} {bt : LT} {v0 v1 v2 v3 v4 v5 v6 v8 v9 v10 v13 v14 v15 : Option V}
    (hpt : H pt = some (.lst (wt.map V.int))) (hSD : H SD = some (.lst (stV sl))) (hst : StAt H sl) (hB : LvAt H Bh bt) (hl : wt.length ≤ 1000)
    (hfew : ∀ j, j ≤ sl.length → (((candL sl wt).take j).foldl relax1 (toLv bt)).length ≤ 2000)
    (k : ∀ H' bt' v6' v13', Kp Bh H H' → LvAt H' Bh bt' → toLv bt' = (candL sl wt).foldl relax1 (toLv bt) → D.nx [v0, v1, v2, v3, v4, v5, v6', some (.ref Bh), v8, v9, v10, some (.ref pt), some (.ref SD), v13', v14, v15] H') :
    tInner K D [v0, v1, v2, v3, v4, v5, v6, some (.ref Bh), v8, v9, v10, some (.ref pt), some (.ref SD), v13, v14, v15] H := by
  have neB : ∀ {H' : Hp} {c : Addr} {o : HO} {bt' : LT}, LvAt H' Bh bt' → H' c = some o → (∀ kv, o ≠ .dT kv) → c ≠ Bh := fun hb e ho z => by
    subst z
    rw [hb.1] at e
    exact ho _ (Option.some.inj e).symm
  have nPt : pt ≠ Bh := neB hB hpt (fun _ z => nomatch z)
  have nSD : SD ≠ Bh := neB hB hSD (fun _ z => nomatch z)
  have lsl : (stV sl).length = sl.length := List.length_map _
  refine ⟨_, rfl, SD, rfl, ⟨_, SqL.of hSD⟩, for_list (K := K) (a := SD) (xs := stV sl) (fun j σ H' => ∃ bt' v6' v13', σ = [v0, v1, v2, v3, v4, v5, v6', some (.ref Bh), v8, v9, v10, some (.ref pt), some (.ref SD), v13', v14, v15] ∧ Kp Bh H H' ∧ LvAt H' Bh bt' ∧ toLv bt' = ((candL sl wt).take j).foldl relax1 (toLv bt))
    ⟨bt, v6, v13, rfl, Kp.refl _ _, hB, rfl⟩ (fun j σ H' _ ⟨_, _, _, _, kp, _⟩ => SqL.of (kp _ _ hSD nSD)) ?_ ?_⟩
  · rintro j x σ H1 hx ⟨bt1, v6', v13', rfl, kp, hB1, e1⟩
    have hx' : (sl.map fun x => V.ref x.pa)[j]? = some x := hx
    rw [List.getElem?_map] at hx'
    obtain ⟨s, hs, rfl⟩ := Option.map_eq_some_iff.mp hx'
    have hjl : j < sl.length := (List.getElem?_eq_some_iff.mp hs).1
    have hsm : s ∈ sl := List.mem_of_getElem? hs
    obtain ⟨a1, a2⟩ := hst s hsm
    have b1 : H1 s.pa = some (.tup [.int s.code, .ref s.ka]) := kp _ _ a1 (neB hB a1 (fun _ z => nomatch z))
    have b2 : H1 s.ka = some (.tup ((tk s.key).map kV)) := kp _ _ a2 (neB hB a2 (fun _ z => nomatch z))
    have hc : (candL sl wt)[j]? = some (s.key, wt ++ [s.code]) := by
      show (sl.map fun x => (x.key, wt ++ [x.code]))[j]? = _
      rw [List.getElem?_map, hs]
      rfl
    have rt := relax1_take (b := toLv bt) hc
    rw [← e1] at rt
    have few := hfew j (by omega)
    rw [← e1, toLv_len] at few
    have hpt1 := kp _ _ hpt nPt
    refine ⟨s.pa, _, rfl, SqT.of b1, rfl, _, _, rfl, _, _, rfl, rfl, ?_⟩
    have gd : DGet H1 Bh (.ref s.ka) ((getT bt1 s.key).map fun x => V.ref x.2) := by
      rw [← valV_toKv]
      exact DGet.t hB1.1 b2
    -- the put, from any heap that has grown
    have put : ∀ (H2 : Hp), Same H1 H2 → relax1 (toLv bt1) (s.key, wt ++ [s.code]) = putA (toLv bt1) s.key (wt ++ [s.code]) → sDPut (tVar 7) (tVar 6) (tOp rCat (tVar 11) (tLst (tCons (tVar 13) tNil)))
        { D with nx := fun σ H' => ∃ bt' v6' v13', σ = [v0, v1, v2, v3, v4, v5, v6', some (.ref Bh), v8, v9, v10, some (.ref pt), some (.ref SD), v13', v14, v15] ∧ Kp Bh H H' ∧ LvAt H' Bh bt' ∧ toLv bt' = ((candL sl wt).take (j + 1)).foldl relax1 (toLv bt), ct := fun σ H' => ∃ bt' v6' v13', σ = [v0, v1, v2, v3, v4, v5, v6', some (.ref Bh), v8, v9, v10, some (.ref pt), some (.ref SD), v13', v14, v15] ∧ Kp Bh H H' ∧ LvAt H' Bh bt' ∧ toLv bt' = ((candL sl wt).take (j + 1)).foldl relax1 (toLv bt), bk := D.nx }
        [v0, v1, v2, v3, v4, v5, some (.ref s.ka), some (.ref Bh), v8, v9, v10, some (.ref pt), some (.ref SD), some (.int s.code), v14, v15] H2 := fun H2 s2 er => by
      refine ⟨_, rfl, _, rfl, (by show 1 ≤ sizeLine; decide), fun T nT => ?_⟩
      have s3 := same_upd (o := .lst [.int s.code]) nT
      refine ⟨pt, T, _, _, rfl, rfl, s3 _ _ (s2 _ _ hpt1), upd_same, sm (by rw [List.length_map]; show _ + 1 ≤ _; omega), fun T2 nT2 => ?_⟩
      have s4 := same_upd (o := .lst (wt.map V.int ++ [.int s.code])) nT2
      have s24 := s2.trans (s3.trans s4)
      refine ⟨_, rfl, _, rfl, Bh, _, rfl, DPut.t (s24 _ _ hB1.1) (s24 _ _ b2) (sm' (by rw [toKv_len]; omega)), ?_⟩
      refine ⟨putT bt1 s.key (wt ++ [s.code]) T2, _, _, rfl, ?_, ⟨?_, ?_⟩, ?_⟩
      · intro b o e hb
        rw [upd_ne hb]
        exact s24 _ _ (kp b o e hb)
      · rw [upd_same, toKv_put]
      · exact tapes_put ⟨_, s24 _ _ hB1.1⟩ (keepT s24 hB1.2) (by rw [upd_same, List.map_append]; rfl) _
      · rw [rt, er, toLv_put]
    refine ⟨_, rfl, _, rfl, Bh, _, rfl, gd, _, rfl, ?_⟩
    have ga := getA_toLv s.key bt1
    cases hg : getT bt1 s.key with
    | none =>
      rw [hg] at ga
      refine iteT (iteT (put H1 (Same.refl H1) ?_))
      simp only [relax1]
      rw [ga]
      rfl
    | some wp =>
      obtain ⟨w0, p0⟩ := wp
      rw [hg] at ga
      have hm := getT_mem hg
      have hp0 := hB1.2 _ hm
      refine iteF ?_
      refine ⟨_, rfl, _, rfl, (by show 1 ≤ sizeLine; decide), fun T nT => ?_⟩
      have s3 := same_upd (o := .lst [.int s.code]) nT
      refine ⟨pt, T, _, _, rfl, rfl, s3 _ _ hpt1, upd_same, sm (by rw [List.length_map]; show _ + 1 ≤ _; omega), fun T2 nT2 => ?_⟩
      have s4 := same_upd (o := .lst (wt.map V.int ++ [.int s.code])) nT2
      have s34 := s3.trans s4
      have gd2 : DGet (upd (upd H1 T (.lst [.int s.code])) T2 (.lst (wt.map V.int ++ [.int s.code]))) Bh (.ref s.ka) (some (.ref p0)) := by
        have z := DGet.t (k := tk s.key) (s34 _ _ hB1.1) (s34 _ _ b2)
        rw [valV_toKv, hg] at z
        exact z
      refine ⟨_, rfl, _, rfl, Bh, _, rfl, gd2, ?_⟩
      refine ⟨T2, p0, wt ++ [s.code], w0, rfl, rfl, SqL.of (by rw [upd_same, List.map_append]; rfl), SqL.of (s34 _ _ hp0), _, rfl, ?_⟩
      cases hlt : llt (wt ++ [s.code]) w0 with
      | true =>
        refine iteT (put _ s34 ?_)
        simp only [relax1]
        rw [ga]
        show (if llt (wt ++ [s.code]) w0 = true then _ else _) = _
        rw [if_pos hlt]
      | false =>
        refine iteF ?_
        refine ⟨bt1, _, _, rfl, kp.trans (.of s34), keepLv s34 hB1, ?_⟩
        rw [rt]
        simp only [relax1]
        rw [ga]
        show _ = (if llt (wt ++ [s.code]) w0 = true then _ else _)
        rw [if_neg (by rw [hlt]; decide)]
  · rintro σ H1 ⟨bt1, v6', v13', rfl, kp, hB1, e1⟩
    rw [lsl, List.take_of_length_le (by unfold candL; rw [List.length_map]; exact Nat.le_refl _)] at e1
    exact k H1 bt1 v6' v13' kp hB1 e1
end
end SR

namespace SR
open PySem PySem.Spec PyProof.Rows L2
theorem getT_of_mem {q : K3} {w : List Int} {p : Addr} : ∀ {lt : LT}, ((toLv lt).map (·.1)).Nodup → (q, w, p) ∈ lt → getT lt q = some (w, p)
  | x :: lt, hn, h => by
    have hn' : (x.1 :: (toLv lt).map (·.1)).Nodup := hn
    obtain ⟨h1, h2⟩ := List.nodup_cons.mp hn'
    rcases List.mem_cons.mp h with e | e
    · subst e
      exact getT_pos rfl
    · have : x.1 ≠ q := fun z => h1 (by
        rw [z]
        exact List.mem_map.mpr ⟨(q, w), List.mem_map.mpr ⟨(q, w, p), e, rfl⟩, rfl⟩)
      rw [getT_neg this]
      exact getT_of_mem h2 e
theorem candL_of {S : Sets} {most : Nat} {t : List Nat} {sl : List StepR} {q : K3} {wt : List Int} (h : stepsOf sl = lsteps S most t q) : candL sl wt = candsOf S most t (q, wt) := by
  unfold candsOf
  rw [← h]
  unfold stepsOf candL
  rw [List.map_map]
  rfl
theorem oi_ok {most : Nat} {o : Option Nat} : oi o ≤ (most : Int) ↔ okO most o = true := by
  cases o with
  | none => simp only [oi, okO, iff_true]; omega
  | some m => simp only [oi, okO, decide_eq_true_eq]; omega
theorem mem_take_cands {S : Sets} {most : Nat} {t : List Nat} {lv : Lv} {i : Nat} {c : K3 × List Int} (h : c ∈ cands S most t (lv.take i)) : c ∈ cands S most t lv := by
  obtain ⟨e, he, r⟩ := mem_cands.mp (show (c.1, c.2) ∈ _ from h)
  exact mem_cands.mpr ⟨e, List.mem_of_mem_take he, r⟩
def PvO (S : Sets) (most : Nat) (t : List Nat) (st : Bool) (a L Bh : Addr) (HL : Hp) (lv : Lv) (j : Nat) (σ : L2.St) (H' : Hp) : Prop := ∃ (bt : LT) (w6 w8 w9 w10 w11 w12 w13 w14 : Option V), Kp Bh HL H' ∧ LvAt H' Bh bt ∧ toLv bt = (cands S most t (lv.take j)).foldl relax1 [] ∧
  σ = [some (.ref a), some (.str (tx t)), some (.int (bi st)), some (.int most), some (.int S.n), some (.ref L), w6, some (.ref Bh), w8, w9, w10, w11, w12, w13, w14, none]
section
variable {P : Program} {w : World} {K : PySem.W.Frag} {mg : Str → Option Value} {base : Heap}
/-! ### _law_shortest -/
abbrev nSh : List Str := ["_law_sets_here", "_law_text_here", "_law_state", "_law_most", "_law_many", "_law_level", "_law_key", "_law_behind", "_law_at", "_law_here", "_law_spoils", "_law_tape", "_law_steps", "_law_code", "_law_more", "_law_k"]
theorem scShL : FnScope nSh ["_law_sets_here", "_law_text_here", "_law_state", "_law_most"] (defScope sShortest) := ⟨rfl, rfl, rfl, by decide +kernel, rfl, by decide +kernel, by decide +kernel⟩
def spShortest : Sp := fun vs H Q _ => ∃ (a : Addr) (S : Sets) (t : List Nat) (most : Nat) (st : Bool), vs = [.ref a, .str (tx t), .int (bi st), .int most] ∧ SetsAt H a S ∧ SOk S ∧ Stands S t ∧ t.length ≤ 40 ∧ most ≤ 20 ∧
  ∀ H' r W, Same H H' → best S most t st none = some W → H' r = some (.lst (W.map V.int)) → Q (.ref r) H'
theorem ok_shortest {f : Addr} {fd : FuncData} (F : Fun K "_law_shortest" "_law_shortest" sShortest f fd) (B : Bt mg) :
    FnOk P w K mg base CX0 1 f fd ["_law_sets_here", "_law_text_here", "_law_state", "_law_most"] spShortest := by
  refine F.ok scShL (fun vs H Q E h => ?_) (fun cdv A outer s H vs Q E hr h => ?_)
  · obtain ⟨a, S, t, most, st, rfl, _⟩ := h
    rfl
  obtain ⟨a, S, t, most, st, rfl, hS, ok, hst, h40, h20, k⟩ := h
  have hu := hu_of hr
  have hu64 := hr.units
  refine ⟨_, (pss_cons (ps_set (i := 4) scShL.nd rfl (.inr rfl) (pe_callB call_len_str (by rfl) B.len PySem.boot_len (pa_cons (pe_ix ix_tup (pv 0) pe_int (fun _ _ => rfl)) pa_nil))) (pss_cons (ps_set (i := 5) scShL.nd rfl (.inr rfl) (pe_dispT hu (pe_tup (pa_cons (pe_int) (pa_cons (pv 2) (pa_cons (pe_un un_neg pe_int) pa_nil)))) (pe_lst pa_nil))) (pss_cons (ps_while PassesOwn.never (pt_cmpR (op_eqD hu64) (pe_lock (pe_lc (own := [("_law_key", 6)]) (g := gName 6) (tt := tTest (tOp rEq (tOp (rIxT K) (tVar 6) (tC (.int 0))) (tCB (fun xs H Q => ∃ z, xs = [.str z] ∧ z.length ≤ sizeLine ∧ Q (.int z.length) H) (tCons (tVar 1) tNil)))) (te := tVar 6) rfl scShL.nd (pi_keys (pv 5)) (blkOk_by (own := [("_law_key", 6)]) (N := nSh) (sc := defScope sShortest) (by decide +kernel)) (fun _ _ _ _ _ => pg_name (i := 6) scShL.nd rfl (Or.inl rfl))
        (fun _ _ _ _ _ => pts_one (pt_cmpR op_eq (pe_ix ix_tup (pv 6) pe_int (fun _ _ => rfl)) (pe_callB call_len_str (by rfl) B.len PySem.boot_len (pa_cons (pv 1) pa_nil)) (nomark _))) (fun _ _ _ _ _ => pv 6))) (pe_lst pa_nil) (nomark _))
      (pss_cons (ps_set (i := 7) scShL.nd rfl (.inl rfl) pe_dnewT) (pss_cons (ps_lock (ps_for PassesOwn.never rfl (pi_keys (pv 5)) (pg_tup (by rfl) (pgs_cons (pg_name (i := 8) scShL.nd rfl (.inr rfl)) (pgs_cons (pg_name (i := 9) scShL.nd rfl (.inr rfl)) (pgs_cons (pg_name (i := 10) scShL.nd rfl (.inl rfl)) pgs_nil))))
        (pss_cons (ps_set (i := 11) scShL.nd rfl (.inl rfl) (pe_dget hu (pv 5) (pe_tup (pa_cons (pv 8) (pa_cons (pv 9) (pa_cons (pv 10) pa_nil)))) (fun _ _ => rfl))) (pss_cons (ps_setLc (i := 12) (own := [("_law_k", 15)]) (g := gName 15) (tt := tYes) (te := tTup (tCons (tOp (rI0 fun i j => .int (i + j)) (tVar 4) (tVar 15)) (tCons (tTup (tCons (tVar 8) (tCons (tVar 15) (tCons (tOp (rIxL K) (tLst (tCons (tC (.int 0)) (tCons (tUn (rU fun i => .int (-i)) (tC (.int 1))) tNil)))
            (tCB (fun xs H Q => (∃ i, xs = [.int i] ∧ Q (.int i) H) ∨ ∃ k, xs = [.bl k] ∧ Q (.int (if k then 1 else 0)) H) (tCons (tOp rEq (tVar 15) (tVar 9)) tNil))) tNil)))) tNil)))
            rfl scShL.nd rfl rfl (sw_true rfl rfl rfl rfl) (pi_range1 (by rfl) B.range (pa_cons (pe_int) pa_nil)) (blkOk_by (own := [("_law_k", 15)]) (N := nSh) (sc := defScope sShortest) (by decide +kernel)) (fun _ _ _ _ _ => pg_name (i := 15) scShL.nd rfl (Or.inl rfl)) (fun _ _ _ _ _ => pts_nil)
            (fun _ _ _ _ _ => pe_tup (pa_cons (pe_op op_add (pv 4) (pv 15)) (pa_cons (pe_tup (pa_cons (pv 8) (pa_cons (pv 15) (pa_cons (pe_ix ix_list (pe_lst (pa_cons (pe_int) (pa_cons (pe_un un_neg pe_int) pa_nil))) (pe_callTy call_int1 (by rfl) B.int (by decide +kernel) (pa_cons (pe_cmpR op_eq (pv 15) (pv 9) (nomark _)) pa_nil)) (fun _ _ => rfl)) pa_nil)))) pa_nil)))) (pss_cons (ps_if (pt_cmpR op_in_sign (pe_ix ix_str (pv 1) (pv 8) (fun _ _ => rfl)) (pe_ix ix_tup (pv 0) (pv 9) (fun _ _ => rfl)) (by rfl))
          (pss_cons (ps_set (i := 13) scShL.nd rfl (.inl rfl) (pe_m1 PySem.F.slot_str_index PySem.F.type_str_index mt_index1 (pe_ix ix_tup (pv 0) (pv 9) (fun _ _ => rfl)) (pe_ix ix_str (pv 1) (pv 8) (fun _ _ => rfl)))) (pss_cons (ps_set (i := 14) scShL.nd rfl (.inl rfl) (pe_op op_add (pv 10) (pe_callTy call_int1 (by rfl) B.int (by decide +kernel) (pa_cons (pe_and (pe_cmpR op_ge (pv 10) pe_int (nomark _)) (pe_one (pe_cmpR op_ne (pe_ix ix_str (pe_ix ix_tup (pv 0) pe_int (fun _ _ => rfl)) (pv 13) (fun _ _ => rfl)) (pe_ix ix_str (pe_ix ix_tup (pv 0) pe_int (fun _ _ => rfl)) (pv 13) (fun _ _ => rfl)) (nomark _)))) pa_nil)))) (pss_one (ps_if (pt_cmpR op_le (pv 14) (pv 3) (nomark _))
            (pss_one (ps_expr (pe_bm PySem.F.plainAttrs_list PySem.F.slot_list_append PySem.F.type_list_append mt_append (pv 12) (pa_cons (pe_tup (pa_cons (pv 13) (pa_cons (pe_tup (pa_cons (pe_op op_add (pv 8) pe_int) (pa_cons (pv 9) (pa_cons (pv 14) pa_nil)))) pa_nil))) pa_nil)))) pss_nil)))) pss_nil) (pss_one (ps_for PassesOwn.never rfl (pi_list (pv 12)) (pg_tup (by rfl) (pgs_cons (pg_name (i := 13) scShL.nd rfl (.inl rfl)) (pgs_cons (pg_name (i := 6) scShL.nd rfl (.inl rfl)) pgs_nil)))
          (pss_one (ps_if (PW.pt (pw_or (pt_cmp (pc_dnotin hu (pv 6) (pv 7))) (pw_or1 (pt_cmpR (op_ltL hu64) (pe_op op_cat (pv 11) (pe_lst (pa_cons (pv 13) pa_nil))) (pe_dget hu (pv 7) (pv 6) (fun _ _ => rfl)) (nomark _)))))
            (pss_one (ps_dput hu (pv 7) (pv 6) (pe_op op_cat (pv 11) (pe_lst (pa_cons (pv 13) pa_nil))) rfl)) pss_nil))))))))) (pss_one (ps_set (i := 5) scShL.nd rfl (.inr rfl) (pv 7)))))) (pss_one (ps_ret (pe_callB (cr_minL rfl hu64) (by rfl) B.min (by decide +kernel) (pa_cons (pe_lock (pe_lc (own := [("_law_key", 6)]) (g := gName 6) (tt := tTest (tOp rEq (tOp (rIxT K) (tVar 6) (tC (.int 0))) (tCB (fun xs H Q => ∃ z, xs = [.str z] ∧ z.length ≤ sizeLine ∧ Q (.int z.length) H) (tCons (tVar 1) tNil)))) (te := tDGet (tVar 5) (tVar 6)) rfl scShL.nd (pi_keys (pv 5)) (blkOk_by (own := [("_law_key", 6)]) (N := nSh) (sc := defScope sShortest) (by decide +kernel)) (fun _ _ _ _ _ => pg_name (i := 6) scShL.nd rfl (Or.inl rfl))
        (fun _ _ _ _ _ => pts_one (pt_cmpR op_eq (pe_ix ix_tup (pv 6) pe_int (fun _ _ => rfl)) (pe_callB call_len_str (by rfl) B.len PySem.boot_len (pa_cons (pv 1) pa_nil)) (nomark _))) (fun _ _ _ _ _ => pe_dget hu (pv 5) (pv 6) (fun _ _ => rfl)))) pa_nil))))))), ?_⟩
  have zr : ∀ x, (tx (S.row x)).length ≤ sizeLine := fun x => tx_le (by have := ok.ev.row x; have := ok.hi; unfold Sets.n at *; omega)
  have zt : (tx t).length ≤ sizeLine := tx_le (by omega)
  have en : V.int ((tx S.one).length : Int) = .int S.n := by rw [tx_len]; rfl
  obtain ⟨Wd, hW⟩ := Option.isSome_iff_exists.mp (best_some (most := most) t st none hst rfl)
  have lW := best_len _ _ _ _ hW
  have big := bigK_le (most := most) (t := t) h40 h20
  refine ⟨_, rfl, a, _, _, _, rfl, rfl, SqT.of hS, atI_nat (j := 0) rfl, _, rfl, zr false, ?_⟩
  rw [en]
  intro L0 nL0
  refine ⟨_, rfl, _, rfl, (by show 3 ≤ sizeLine; decide), fun T nT => ?_⟩
  have s1 := same_upd (o := .dT []) nL0
  have s2 := same_upd (o := .tup [.int 0, .int (bi st), .int (-1)]) nT
  refine ⟨(by show 0 ≤ sizeLine; decide), fun E0 nE => ?_⟩
  have s3 := same_upd (o := .lst []) nE
  refine ⟨s3 _ _ (s2 _ _ upd_same), T, tk (0, st, none), rfl, s3 _ _ upd_same, ?_⟩
  have nE0 : E0 ≠ L0 := (ne_of_none (s2 _ _ upd_same) nE).symm
  refine ⟨fun m σ H' => ∃ (i : Nat) (L : Addr) (lt : LT) (v6 v7 v8 v9 v10 v11 v12 v13 v14 : Option V), m = Wd.length - i ∧ i ≤ Wd.length ∧ Same H H' ∧ LvAt H' L lt ∧ toLv lt = lvl S most t st i ∧
      σ = [some (.ref a), some (.str (tx t)), some (.int (bi st)), some (.int most), some (.int S.n), some (.ref L), v6, v7, v8, v9, v10, v11, v12, v13, v14, none],
    ⟨_, 0, L0, [((0, st, none), [], E0)], none, none, none, none, none, none, none, none, none, rfl, Nat.zero_le _, ?_, ⟨upd_same, ?_⟩, rfl, rfl⟩, ?_⟩
  · intro b o e
    rw [upd_ne (ne_of_none e nL0)]
    exact s3 _ _ (s2 _ _ (s1 _ _ e))
  · intro x hx
    obtain rfl := List.mem_singleton.mp hx
    show upd _ L0 _ E0 = _
    rw [upd_ne nE0]
    exact upd_same
  rintro m σ H1 ⟨i, L, lt, v6, v7, v8, v9, v10, v11, v12, v13, v14, rfl, hi, sH, hLv, elv, rfl⟩
  obtain ⟨hL, hTp⟩ := id hLv
  obtain ⟨LOK, hless⟩ := lvl_all ok.ev hW i hi
  rw [← elv] at LOK hless
  -- the keys that have come to the end
  refine ⟨L, _, hL, trivial, fun od => ?_⟩
  refine ⟨_, rfl, L, od, rfl, .inr ⟨_, upd_same, fun D nD => ?_⟩⟩
  have nDL : L ≠ D := ne_of_none upd_same nD
  refine lc_it (walk_keysT (d := L) (o := od) (kvs := toKv lt)) (fun j H' => Same (upd H1 L (.frz od (.dT (toKv lt)))) H' ∧ ∃ kb : List (K3 × Addr), H' D = some (.lst (kb.map fun x => V.ref x.2)) ∧ kb.length ≤ j ∧ KeysAtT H' kb ∧ (kb = [] ↔ ∀ x ∈ lt.take j, x.1.1 ≠ t.length))
    ⟨same_upd nD, [], upd_same, Nat.le_refl _, (fun x hx => nomatch hx), by simp⟩ (fun j H' _ ⟨s, _⟩ => s _ _ upd_same) ?_ ?_
  · rintro j x H2 H3 hj ⟨s4, kb, hD, lkb, hka, hem⟩ ⟨rfl, kk, vv, q, e1, rfl, hq⟩
    have e1' : (lt.map fun x => (tk x.1, V.ref x.2.2))[j]? = some (kk, vv) := e1
    rw [List.getElem?_map] at e1'
    obtain ⟨e, he, e2⟩ := Option.map_eq_some_iff.mp e1'
    obtain ⟨rfl, rfl⟩ := Prod.mk.inj e2
    rw [toKv_len] at hj
    have few : lt.length ≤ 2000 := by
      have z := keys_few (most := most) (t := t) LOK.nd fun q hq => by
        obtain ⟨⟨q', w'⟩, hm, rfl⟩ := List.mem_map.mp hq
        exact (LOK.ok q' w' hm).1
      rw [List.length_map, toLv_len] at z
      omega
    refine ⟨rfl, _, rfl, q, _, _, _, rfl, rfl, SqT.of hq, atI_nat (j := 0) rfl, _, rfl, _, rfl, zt, rfl, _, rfl, ?_⟩
    have tk1 : lt.take (j + 1) = lt.take j ++ [e] := by rw [List.take_add_one, he]; rfl
    by_cases hq0 : e.1.1 = t.length
    · refine ifD (by rw [tx_len, hq0]; rfl) ?_
      refine ⟨_, rfl, _, hD, sm' (by rw [List.length_map]; omega), fun b o z => ?_, kb ++ [(e.1, q)], ?_, ?_, ?_, ?_⟩
      · rw [upd_ne (ne_of_none z nD)]; exact s4 b o z
      · rw [upd_same, List.map_append]; rfl
      · simp; omega
      · intro y hy
        rcases List.mem_append.mp hy with h | h
        · have z := hka y h
          rw [upd_ne (fun z' => by rw [z', hD] at z; cases z)]
          exact z
        · obtain rfl := List.mem_singleton.mp h
          exact locked_ne (fun z' => by
            have z := hq
            rw [show q = D from z', hD] at z
            cases z) hq
      · constructor
        · intro z; simp at z
        · intro z
          exact absurd hq0 (z e (by rw [tk1]; simp))
    · refine ifDN (fun z => hq0 (by rw [tx_len] at z; have := V.int.inj z; omega)) ?_
      refine ⟨s4, kb, hD, by omega, hka, ?_⟩
      rw [hem, tk1]
      constructor
      · intro z y hy
        rcases List.mem_append.mp hy with h | h
        · exact z y h
        · obtain rfl := List.mem_singleton.mp h
          exact hq0
      · intro z y hy
        exact z y (List.mem_append_left _ hy)
  rintro H2 ⟨s4, kb, hD, lkb, hka, hem⟩
  rw [toKv_len, List.take_length] at hem
  have hL2 : H2 L = some (.frz od (.dT (toKv lt))) := s4 _ _ upd_same
  refine ⟨hL2, ?_⟩
  have s5 := same_unlock hL s4
  have hD5 : upd H2 L (.dT (toKv lt)) D = some (.lst (kb.map fun x => V.ref x.2)) := locked_ne nDL.symm hD
  have hka5 : KeysAtT (upd H2 L (.dT (toKv lt))) kb := fun y hy => by
    have z := hka y hy
    exact locked_ne (fun z' => by rw [z', hL2] at z; cases z) z
  generalize upd H2 L (.dT (toKv lt)) = H5 at s5 hD5 hka5 ⊢
  refine ⟨(by show 0 ≤ sizeLine; decide), fun T2 nT2 => ?_⟩
  have s6 := same_upd (o := .lst []) nT2
  refine ⟨_, _, .lst (SqL.of (s6 _ _ hD5)) (dp_keys fun y hy => s6 _ _ (hka5 y hy)), .lst (SqL.of upd_same) .nil, shaped_keys kb, shaped_nil, _, rfl, ?_⟩
  rw [eqv_nil]
  have s56 := s5.trans s6
  generalize upd H5 T2 (.lst []) = H6 at s56 ⊢
  have hLv6 := keepLv s56 hLv
  obtain ⟨hL6, hTp6⟩ := id hLv6
  have sH6 := sH.trans s56
  cases kb with
  | cons kb0 kbr =>
    refine iteF ?_
    have hiW : i = Wd.length := by
      rcases Nat.lt_or_ge i Wd.length with z | z
      · exfalso
        have hall : ∀ x ∈ lt, x.1.1 ≠ t.length := fun x hx => by
          have := hless z x.1 x.2.1 (List.mem_map.mpr ⟨x, hx, rfl⟩)
          omega
        have := hem.mpr hall
        cases this
      · omega
    obtain ⟨⟨qW, hq1, hq2⟩, hlow⟩ := lvl_end ok.ev hW
    rw [← hiW, ← elv] at hq2 hlow
    refine ⟨L, _, hL6, trivial, fun od2 => ?_⟩
    refine ⟨_, rfl, L, od2, rfl, .inr ⟨_, upd_same, fun D2 nD2 => ?_⟩⟩
    have nD2L : L ≠ D2 := ne_of_none upd_same nD2
    refine lc_it (walk_keysT (d := L) (o := od2) (kvs := toKv lt)) (fun j H' => Same (upd H6 L (.frz od2 (.dT (toKv lt)))) H' ∧ ∃ ps : List (Addr × List Int), H' D2 = some (.lst (ps.map fun p => V.ref p.1)) ∧ ps.length ≤ j ∧ (∀ p ∈ ps, (upd H6 L (.frz od2 (.dT (toKv lt)))) p.1 = some (.lst (p.2.map V.int))) ∧
        ps.map (·.2) = ((lt.take j).filter fun x => decide (x.1.1 = t.length)).map (·.2.1))
      ⟨same_upd nD2, [], upd_same, Nat.le_refl _, (fun p h => nomatch h), rfl⟩ (fun j H' _ ⟨s, _⟩ => s _ _ upd_same) ?_ ?_
    · rintro j x H7 H8 hj ⟨s7, ps, hD7, lps, hps, eps⟩ ⟨rfl, kk, vv, q, e1, rfl, hq⟩
      have e1' : (lt.map fun x => (tk x.1, V.ref x.2.2))[j]? = some (kk, vv) := e1
      rw [List.getElem?_map] at e1'
      obtain ⟨e, he, e2⟩ := Option.map_eq_some_iff.mp e1'
      obtain ⟨rfl, rfl⟩ := Prod.mk.inj e2
      rw [toKv_len] at hj
      have hm : e ∈ lt := List.mem_of_getElem? he
      have few : lt.length ≤ 2000 := by
        have z := keys_few (most := most) (t := t) LOK.nd fun q hq => by
          obtain ⟨⟨q', w'⟩, hm, rfl⟩ := List.mem_map.mp hq
          exact (LOK.ok q' w' hm).1
        rw [List.length_map, toLv_len] at z
        omega
      have tk1 : lt.take (j + 1) = lt.take j ++ [e] := by rw [List.take_add_one, he]; rfl
      have hL8 : H8 L = some (.frz od2 (.dT (toKv lt))) := s7 _ _ upd_same
      have hpe6 := hTp6 e hm
      have neL : e.2.2 ≠ L := fun z => by rw [z, hL6] at hpe6; cases hpe6
      have hpe : H8 e.2.2 = some (.lst (e.2.1.map V.int)) := s7 _ _ (locked_ne neL hpe6)
      refine ⟨rfl, _, rfl, q, _, _, _, rfl, rfl, SqT.of hq, atI_nat (j := 0) rfl, _, rfl, _, rfl, zt, rfl, _, rfl, ?_⟩
      by_cases hq0 : e.1.1 = t.length
      · refine ifD (by rw [tx_len, hq0]; rfl) ?_
        refine ⟨_, rfl, _, rfl, L, .ref e.2.2, rfl, .inr ⟨toKv lt, tk e.1, q, .inr ⟨od2, hL8⟩, rfl, hq, ?_⟩, _, hD7, sm' (by rw [List.length_map]; omega), fun b o z => ?_, ps ++ [(e.2.2, e.2.1)], ?_, ?_, ?_, ?_⟩
        · rw [valV_toKv, getT_of_mem LOK.nd (show (e.1, e.2.1, e.2.2) ∈ lt from hm)]
          rfl
        · rw [upd_ne (ne_of_none z nD2)]; exact s7 b o z
        · rw [upd_same, List.map_append]; rfl
        · simp; omega
        · intro p hp
          rcases List.mem_append.mp hp with h | h
          · exact hps p h
          · obtain rfl := List.mem_singleton.mp h
            exact locked_ne neL hpe6
        · rw [tk1, List.filter_append, List.map_append, List.map_append, eps]
          simp [hq0]
      · refine ifDN (fun z => hq0 (by rw [tx_len] at z; have := V.int.inj z; omega)) ?_
        refine ⟨s7, ps, hD7, by omega, hps, ?_⟩
        rw [tk1, List.filter_append, List.map_append, eps]
        simp [hq0]
    · rintro H7 ⟨s7, ps, hD7, lps, hps, eps⟩
      rw [toKv_len, List.take_length] at eps
      have hL7 : H7 L = some (.frz od2 (.dT (toKv lt))) := s7 _ _ upd_same
      refine ⟨hL7, ?_⟩
      have s8 := same_unlock hL6 s7
      have hD8 : upd H7 L (.dT (toKv lt)) D2 = some (.lst (ps.map fun p => V.ref p.1)) := locked_ne nD2L.symm hD7
      have hps8 : ∀ p ∈ ps, upd H7 L (.dT (toKv lt)) p.1 = some (.lst (p.2.map V.int)) := fun p hp => by
        have z := s7 _ _ (hps p hp)
        exact locked_ne (fun z' => by rw [z', hL7] at z; cases z) z
      have hWm : Wd ∈ ps.map (·.2) := by
        rw [eps]
        obtain ⟨x, hx, ex⟩ := List.mem_map.mp hq2
        have e1 : x.1 = qW := congrArg Prod.fst ex
        have e2 : x.2.1 = Wd := congrArg Prod.snd ex
        exact List.mem_map.mpr ⟨x, List.mem_filter.mpr ⟨hx, by rw [e1, hq1]; simp⟩, e2⟩
      have hall : ∀ y ∈ ps.map (·.2), llt y Wd = false := fun y hy => by
        rw [eps] at hy
        obtain ⟨x, hx, rfl⟩ := List.mem_map.mp hy
        obtain ⟨h1, h2⟩ := List.mem_filter.mp hx
        exact hlow x.1 x.2.1 (List.mem_map.mpr ⟨x, h1, rfl⟩) (of_decide_eq_true h2)
      cases ps with
      | nil => cases hWm
      | cons p0 pr =>
        refine ⟨D2, p0, pr, rfl, SqL.of hD8, fun p hp => SqL.of (hps8 p hp), fun p hp ep => ?_⟩
        have em : minL p0.2 (pr.map (·.2)) = Wd := minL_is (hall p0.2 List.mem_cons_self) (fun y hy => hall y (List.mem_cons_of_mem _ hy)) (by
          rcases List.mem_cons.mp hWm with h | h
          · exact .inl h.symm
          · exact .inr h)
        rw [em] at ep
        refine k _ p.1 Wd (sH6.trans s8) hW ?_
        rw [hps8 p hp, ep]
  | nil =>
    refine iteT ?_
    have hnone := hem.mp rfl
    have hiW : i < Wd.length := by
      rcases Nat.lt_or_ge i Wd.length with z | z
      · exact z
      · exfalso
        have ei : i = Wd.length := by omega
        obtain ⟨⟨q, hq1, hq2⟩, _⟩ := lvl_end ok.ev hW
        rw [ei] at elv
        rw [← elv] at hq2
        obtain ⟨x, hx, ex⟩ := List.mem_map.mp hq2
        have := hnone x hx
        apply this
        have e3 : x.1 = q := congrArg Prod.fst ex
        rw [e3, hq1]
    refine ⟨fun σ' H' => ∃ (i' : Nat) (L' : Addr) (lt' : LT) (v6 v7 v8 v9 v10 v11 v12 v13 v14 : Option V), Wd.length - i' < Wd.length - i ∧ i' ≤ Wd.length ∧ Same H H' ∧ LvAt H' L' lt' ∧ toLv lt' = lvl S most t st i' ∧
        σ' = [some (.ref a), some (.str (tx t)), some (.int (bi st)), some (.int most), some (.int S.n), some (.ref L'), v6, v7, v8, v9, v10, v11, v12, v13, v14, none],
      fun σ' H' ⟨i', L', lt', w6, w7, w8, w9, w10, w11, w12, w13, w14, h1, h2⟩ => ⟨_, h1, i', L', lt', w6, w7, w8, w9, w10, w11, w12, w13, w14, rfl, h2⟩, ?_⟩
    -- behind = {}
    intro Bh nB
    have nLB : L ≠ Bh := ne_of_none hL6 nB
    have sB := same_upd (o := .dT []) nB
    refine ⟨L, _, sB _ _ hL6, trivial, fun od2 => ?_⟩
    refine ⟨_, rfl, L, od2, rfl, .inr ⟨_, upd_same, for_it (walk_keysT (d := L) (o := od2) (kvs := toKv lt)) (PvO S most t st a L Bh (upd (upd H6 Bh (.dT [])) L (.frz od2 (.dT (toKv lt)))) (lvl S most t st i)) ?_ ?_ ?_ ?_⟩⟩
    · refine ⟨[], v6, v8, v9, v10, v11, v12, v13, v14, Kp.refl _ _, ⟨?_, fun x h => nomatch h⟩, rfl, rfl⟩
      rw [upd_ne nLB.symm]
      exact upd_same
    · rintro j σ H7 _ ⟨bt, w6, w8, w9, w10, w11, w12, w13, w14, kp, _⟩
      exact kp _ _ upd_same nLB
    · rintro j x σ H7 H8 hj ⟨bt, w6, w8, w9, w10, w11, w12, w13, w14, kp, hB, eb, rfl⟩ ⟨rfl, kk, vv, q, e1, rfl, hq⟩
      have e1' : (lt.map fun x => (tk x.1, V.ref x.2.2))[j]? = some (kk, vv) := e1
      rw [List.getElem?_map] at e1'
      obtain ⟨⟨⟨qat, qst, qo⟩, wt, pt⟩, he, e2⟩ := Option.map_eq_some_iff.mp e1'
      obtain ⟨rfl, rfl⟩ := Prod.mk.inj e2
      have hm : ((qat, qst, qo), wt, pt) ∈ lt := List.mem_of_getElem? he
      have hmv : ((qat, qst, qo), wt) ∈ toLv lt := List.mem_map.mpr ⟨_, hm, rfl⟩
      obtain ⟨⟨kat, ko⟩, lwt, _, _⟩ := LOK.ok _ _ hmv
      have hat : qat < t.length := hless hiW _ _ hmv
      have ev : (lvl S most t st i)[j]? = some ((qat, qst, qo), wt) := by
        rw [← elv]
        show (lt.map fun x => (x.1, x.2.1))[j]? = _
        rw [List.getElem?_map, he]
        rfl
      have hL8 : H8 L = some (.frz od2 (.dT (toKv lt))) := kp _ _ upd_same nLB
      have up : ∀ {b : Addr} {o : HO}, H6 b = some o → b ≠ L → H8 b = some o := fun {b o} e ne => by
        have nb : b ≠ Bh := ne_of_none e nB
        exact kp _ _ (by rw [upd_ne ne, upd_ne nb]; exact e) nb
      have hpt : H8 pt = some (.lst (wt.map V.int)) := by
        have z := hTp6 _ hm
        exact up z (fun z' => by rw [show pt = L from z', hL6] at z; cases z)
      have hS8 : SetsAt H8 a S := by
        have z : H6 a = some (.tup [.str (tx S.one), .str (tx S.two)]) := keepS sH6 hS
        exact up z (fun z' => by rw [z', hL6] at z; cases z)
      have hq' : H8 q = some (.tup [.int qat, .int (bi qst), .int (oi qo)]) := hq
      refine ⟨q, _, rfl, SqT.of hq', rfl, _, _, rfl, _, _, rfl, _, _, rfl, rfl, ?_⟩
      -- tape
      refine ⟨_, rfl, _, rfl, _, rfl, _, rfl, (by show 3 ≤ sizeLine; decide), fun T3 nT3 => ?_⟩
      have s7 := same_upd (o := .tup [.int qat, .int (bi qst), .int (oi qo)]) nT3
      refine ⟨L, .ref pt, rfl, .inr ⟨toKv lt, tk (qat, qst, qo), T3, .inr ⟨od2, s7 _ _ hL8⟩, rfl, upd_same, ?_⟩, ?_⟩
      · rw [valV_toKv, getT_of_mem LOK.nd hm]
        rfl
      -- steps
      refine ⟨2, rfl, by decide, by decide, fun SD nSD => lc_range (lo := 0) (n := 2) (fun u H' => Same (upd H8 T3 (.tup [.int qat, .int (bi qst), .int (oi qo)])) H' ∧ ∃ sl : List StepR, H' SD = some (.lst (stV sl)) ∧ StAt H' sl ∧ sl.length ≤ u ∧
          stepsOf sl = [(S.n + 0, ((qat, false, oShift false qst) : K3)), (S.n + 1, (qat, true, oShift true qst))].take u) ⟨same_upd nSD, [], upd_same, (fun x h => nomatch h), Nat.le_refl _, rfl⟩ ?_ ?_⟩
      · rintro u H9 hu2 ⟨s9, sl, hSD, hst9, lsl, est⟩
        obtain ⟨xb, eu, et⟩ : ∃ xb : Bool, (0 : Int) + (u : Int) = bi xb ∧ [(S.n + 0, ((qat, false, oShift false qst) : K3)), (S.n + 1, (qat, true, oShift true qst))].take (u + 1) = [(S.n + 0, ((qat, false, oShift false qst) : K3)), (S.n + 1, (qat, true, oShift true qst))].take u ++ [(S.n + bi xb, ((qat, xb, oShift xb qst) : K3))] := by
          rcases (show u = 0 ∨ u = 1 by omega) with rfl | rfl
          · exact ⟨false, rfl, rfl⟩
          · exact ⟨true, rfl, rfl⟩
        rw [eu]
        refine ⟨rfl, _, rfl, _, rfl, _, _, rfl, rfl, _, rfl, _, rfl, _, rfl, (by show 2 ≤ sizeLine; decide), fun T4 nT4 => ?_⟩
        have s10 := same_upd (o := .lst [.int 0, .int (-1)]) nT4
        refine ⟨_, rfl, _, rfl, rfl, .inr ⟨_, rfl, ?_⟩⟩
        refine ⟨T4, _, _, .int (oi (oShift xb qst)), rfl, rfl, SqL.of upd_same, (by cases xb <;> cases qst <;> rfl), (by show 3 ≤ sizeLine; decide), fun T5 nT5 => ?_⟩
        have s11 := same_upd (o := .tup [.int qat, .int (bi xb), .int (oi (oShift xb qst))]) nT5
        refine ⟨(by show 2 ≤ sizeLine; decide), fun T6 nT6 => ?_⟩
        have s12 := same_upd (o := .tup [.int (S.n + bi xb), .ref T5]) nT6
        have s13 := s10.trans (s11.trans s12)
        have stN : StAt (upd (upd (upd H9 T4 (.lst [.int 0, .int (-1)])) T5 (.tup [.int qat, .int (bi xb), .int (oi (oShift xb qst))])) T6 (.tup [.int (S.n + bi xb), .ref T5])) (sl ++ [⟨S.n + bi xb, (qat, xb, oShift xb qst), T6, T5⟩]) := fun y hy => by
          rcases List.mem_append.mp hy with h | h
          · exact keepSt s13 hst9 y h
          · obtain rfl := List.mem_singleton.mp h
            exact ⟨upd_same, s12 _ _ upd_same⟩
        have hSD' := s13 _ _ hSD
        refine ⟨_, hSD', sm' (by show (sl.map _).length ≤ _; rw [List.length_map]; omega), fun b o z => ?_, sl ++ [⟨S.n + bi xb, (qat, xb, oShift xb qst), T6, T5⟩], ?_, ?_, ?_, ?_⟩
        · rw [upd_ne (ne_of_none z nSD)]; exact s13 _ _ (s9 b o z)
        · rw [upd_same]
          unfold stV
          rw [List.map_append]
          rfl
        · exact fun y hy => ⟨locked_ne (fun z' => by have z := (stN y hy).1; rw [z', hSD'] at z; cases z) (stN y hy).1, locked_ne (fun z' => by have z := (stN y hy).2; rw [z', hSD'] at z; cases z) (stN y hy).2⟩
        · simp; omega
        · show (sl ++ _).map _ = _
          rw [List.map_append, et, ← est]
          rfl
      · rintro H9 ⟨s9, sl, hSD, hst9, lsl, est⟩
        have s79 := s7.trans s9
        have hS9 := keepS s79 hS8
        have hpt9 := s79 _ _ hpt
        have hB9 := keepLv s79 hB
        have kp9 := kp.trans (.of s79)
        have gc : t[((qat : Nat) : Int).toNat]? = some t[qat] := by rw [Int.toNat_natCast]; exact List.getElem?_eq_getElem hat
        have gc' : t[qat]? = some t[qat] := List.getElem?_eq_getElem hat
        generalize t[qat] = c at gc gc'
        -- the steps are told: what is left is the inner loop
        have fin : ∀ (D : Ends) (H' : Hp) (sl' : List StepR) (w13 w14 : Option V), (∀ σ'' H'', PvO S most t st a L Bh (upd (upd H6 Bh (.dT [])) L (.frz od2 (.dT (toKv lt)))) (lvl S most t st i) (j + 1) σ'' H'' → D.nx σ'' H'') →
            Kp Bh (upd (upd H6 Bh (.dT [])) L (.frz od2 (.dT (toKv lt)))) H' → LvAt H' Bh bt → H' pt = some (.lst (wt.map V.int)) → H' SD = some (.lst (stV sl')) → StAt H' sl' → stepsOf sl' = lsteps S most t (qat, qst, qo) →
            tInner K D [some (.ref a), some (.str (tx t)), some (.int (bi st)), some (.int most), some (.int S.n), some (.ref L), w6, some (.ref Bh), some (.int qat), some (.int (bi qst)), some (.int (oi qo)), some (.ref pt), some (.ref SD), w13, w14, none] H' := fun D H' sl' w13 w14 nx kp' hB' hpt' hSD' hst' est' => by
          have ec := candL_of (S := S) (most := most) (t := t) (wt := wt) est'
          refine inner_ok hpt' hSD' hst' hB' (by omega) (fun u hu => ?_) (fun H'' bt' v6' v13' kp'' hB'' eb'' => nx _ _ ⟨bt', v6', _, _, _, _, _, v13', _, kp'.trans kp'', hB'', ?_, rfl⟩)
          · rw [eb, ← List.foldl_append]
            refine Nat.le_trans (part_few (S := S) (most := most) (t := t) (lv := lvl S most t st i) (fun q w h => (LOK.ok q w (by rw [elv]; exact h)).1) fun c hc => ?_) big
            rcases List.mem_append.mp hc with h | h
            · exact mem_take_cands h
            · have h2 := List.mem_of_mem_take h
              rw [ec] at h2
              unfold cands
              exact List.mem_flatten.mpr ⟨_, List.mem_map.mpr ⟨_, List.mem_of_getElem? ev, rfl⟩, h2⟩
          · rw [eb'', eb, ec, cands_take ev, List.foldl_append]
        refine ⟨_, rfl, _, rfl, _, _, c, rfl, rfl, zt, at_tx (Int.natCast_nonneg qat) gc, _, rfl, _, rfl, a, _, _, _, rfl, rfl, SqT.of hS9, at_row qst, c, _, rfl, rfl, _, rfl, ?_⟩
        rw [tx_cps]
        have est2 : stepsOf sl = [(S.n + 0, ((qat, false, oShift false qst) : K3)), (S.n + 1, (qat, true, oShift true qst))] := est
        by_cases hin : c ∈ S.row qst
        · refine ifD hin ?_
          obtain ⟨jc, hk⟩ := idx_mem hin
          obtain ⟨rest, ho⟩ := occ_idx hk
          have hjn : (jc : Int) < S.n := idx_row ok.ev hk
          have hls : lsteps S most t (qat, qst, qo) = [(S.n + 0, ((qat, false, oShift false qst) : K3)), (S.n + 1, (qat, true, oShift true qst))] ++ (if okO most (bump S qo jc) = true then [((jc : Int), (qat + 1, qst, bump S qo jc))] else []) := by
            unfold lsteps
            simp only [gc', hk]
          refine ⟨_, rfl, _, rfl, a, _, _, _, rfl, rfl, SqT.of hS9, at_row qst, ⟨_, rfl⟩, _, rfl, _, rfl, _, _, c, rfl, rfl, zt, at_tx (Int.natCast_nonneg qat) gc, _, _, jc, rest, rfl, rfl, ho, ?_⟩
          cases qo with
          | none =>
            refine ⟨_, rfl, _, rfl, _, _, rfl, rfl, _, rfl, ifDN (by decide) ?_⟩
            refine .inr ⟨_, rfl, _, _, rfl, rfl, ?_⟩
            have pM : some (some (V.int ((-1 : Int) + 0))) = some (some (V.int (oi (bump S none jc)))) := rfl
            refine ⟨_, pM, _, rfl, _, _, rfl, rfl, _, rfl, ite2 (fun e => ?_) (fun e => ?_)⟩
            · have hok := oi_ok.mp (of_decide_eq_true e)
              rw [if_pos hok] at hls
              refine ⟨_, rfl, .inl ⟨rfl, _, SqL.of hSD⟩, _, rfl, _, rfl, _, _, rfl, rfl, _, rfl, _, pM, (by show 3 ≤ sizeLine; decide), fun T5 nT5 => ?_⟩
              have s11 := same_upd (o := .tup [.int ((qat : Int) + 1), .int (bi qst), .int (oi (bump S none jc))]) nT5
              refine ⟨(by show 2 ≤ sizeLine; decide), fun T6 nT6 => ?_⟩
              have s12 := same_upd (o := .tup [.int (jc : Int), .ref T5]) nT6
              have s13 := s11.trans s12
              have hSD' := s13 _ _ hSD
              have stN : StAt (upd (upd H9 T5 (.tup [.int ((qat : Int) + 1), .int (bi qst), .int (oi (bump S none jc))])) T6 (.tup [.int (jc : Int), .ref T5])) (sl ++ [⟨(jc : Int), (qat + 1, qst, bump S none jc), T6, T5⟩]) := fun y hy => by
                rcases List.mem_append.mp hy with h | h
                · exact keepSt s13 hst9 y h
                · obtain rfl := List.mem_singleton.mp h
                  exact ⟨upd_same, s12 _ _ upd_same⟩
              refine ⟨SD, _, _, rfl, rfl, hSD', sm' (by show (sl.map _).length ≤ _; rw [List.length_map]; omega), ?_⟩
              have hB13 := keepLv s13 hB9
              have nSDB : SD ≠ Bh := fun z => by
                have := hB13.1
                rw [← z, hSD'] at this
                cases this
              refine fin _ _ (sl ++ [⟨(jc : Int), (qat + 1, qst, bump S none jc), T6, T5⟩]) _ _ (fun _ _ z => z) (fun b o z hb => ?_) ⟨?_, fun y hy => ?_⟩ ?_ ?_ (fun y hy => ?_) ?_
              · rw [upd_ne (ne_of_none (s7 _ _ (kp b o z hb)) nSD)]
                exact s13 _ _ (kp9 b o z hb)
              · rw [upd_ne nSDB.symm]; exact hB13.1
              · rw [upd_ne (ne_of_none (s7 _ _ (hB.2 y hy)) nSD)]
                exact hB13.2 y hy
              · rw [upd_ne (ne_of_none (s7 _ _ hpt) nSD)]
                exact s13 _ _ hpt9
              · rw [upd_same]
                unfold stV
                rw [List.map_append]
                rfl
              · exact ⟨locked_ne (fun z' => by have z := (stN y hy).1; rw [z', hSD'] at z; cases z) (stN y hy).1, locked_ne (fun z' => by have z := (stN y hy).2; rw [z', hSD'] at z; cases z) (stN y hy).2⟩
              · rw [hls, ← est2]
                unfold stepsOf
                rw [List.map_append]
                rfl
            · have hok : ¬ okO most (bump S none jc) = true := fun z => (of_decide_eq_false (Bool.eq_false_iff.mpr e)) (oi_ok.mpr z)
              rw [if_neg hok, List.append_nil] at hls
              exact fin _ _ sl _ _ (fun _ _ z => z) kp9 hB9 hpt9 hSD hst9 (by rw [est2, hls])
          | some mo =>
            refine ⟨_, rfl, _, rfl, _, _, rfl, rfl, _, rfl, ifD (Int.natCast_nonneg mo) ?_⟩
            have g1 := at_tx (Int.natCast_nonneg jc) (get_row ok false (Int.natCast_nonneg jc) hjn)
            have g2 := at_tx (Int.natCast_nonneg jc) (get_row ok true (Int.natCast_nonneg jc) hjn)
            refine ⟨_, rfl, a, _, _, _, rfl, rfl, SqT.of hS9, atI_nat (j := 0) rfl, _, rfl, _, _, _, rfl, rfl, zr false, g1, _, rfl, a, _, _, _, rfl, rfl, SqT.of hS9, atI_nat (j := 1) rfl, _, rfl, _, _, _, rfl, rfl, zr true, g2, rfl, ?_⟩
            refine .inr ⟨_, rfl, _, _, rfl, rfl, ?_⟩
            have ec : decide (V.str ⟨#[(S.row false).getD (jc : Int).toNat 0]⟩ = V.str ⟨#[(S.row true).getD (jc : Int).toNat 0]⟩) = common S jc := by
              unfold common
              refine decide_eq_decide.mpr ⟨fun h => ?_, fun h => ?_⟩
              · have h1 := V.str.inj h
                have h2 := congrArg (fun z : Str => z.cps.toList) h1
                exact (List.cons.inj h2).1
              · show V.str ⟨#[S.one.getD jc 0]⟩ = V.str ⟨#[S.two.getD jc 0]⟩
                rw [h]
            have pM : some (some (V.int ((mo : Int) + (if (!decide (V.str ⟨#[(S.row false).getD (jc : Int).toNat 0]⟩ = V.str ⟨#[(S.row true).getD (jc : Int).toNat 0]⟩)) = true then 1 else 0)))) = some (some (V.int (oi (bump S (some mo) jc)))) := by
              rw [ec]
              simp only [bump]
              cases common S jc
              · rfl
              · show some (some (V.int ((mo : Int) + 0))) = some (some (V.int (mo : Int)))
                rw [Int.add_zero]
            refine ⟨_, pM, _, rfl, _, _, rfl, rfl, _, rfl, ite2 (fun e => ?_) (fun e => ?_)⟩
            · have hok := oi_ok.mp (of_decide_eq_true e)
              rw [if_pos hok] at hls
              refine ⟨_, rfl, .inl ⟨rfl, _, SqL.of hSD⟩, _, rfl, _, rfl, _, _, rfl, rfl, _, rfl, _, pM, (by show 3 ≤ sizeLine; decide), fun T5 nT5 => ?_⟩
              have s11 := same_upd (o := .tup [.int ((qat : Int) + 1), .int (bi qst), .int (oi (bump S (some mo) jc))]) nT5
              refine ⟨(by show 2 ≤ sizeLine; decide), fun T6 nT6 => ?_⟩
              have s12 := same_upd (o := .tup [.int (jc : Int), .ref T5]) nT6
              have s13 := s11.trans s12
              have hSD' := s13 _ _ hSD
              have stN : StAt (upd (upd H9 T5 (.tup [.int ((qat : Int) + 1), .int (bi qst), .int (oi (bump S (some mo) jc))])) T6 (.tup [.int (jc : Int), .ref T5])) (sl ++ [⟨(jc : Int), (qat + 1, qst, bump S (some mo) jc), T6, T5⟩]) := fun y hy => by
                rcases List.mem_append.mp hy with h | h
                · exact keepSt s13 hst9 y h
                · obtain rfl := List.mem_singleton.mp h
                  exact ⟨upd_same, s12 _ _ upd_same⟩
              refine ⟨SD, _, _, rfl, rfl, hSD', sm' (by show (sl.map _).length ≤ _; rw [List.length_map]; omega), ?_⟩
              have hB13 := keepLv s13 hB9
              have nSDB : SD ≠ Bh := fun z => by
                have := hB13.1
                rw [← z, hSD'] at this
                cases this
              refine fin _ _ (sl ++ [⟨(jc : Int), (qat + 1, qst, bump S (some mo) jc), T6, T5⟩]) _ _ (fun _ _ z => z) (fun b o z hb => ?_) ⟨?_, fun y hy => ?_⟩ ?_ ?_ (fun y hy => ?_) ?_
              · rw [upd_ne (ne_of_none (s7 _ _ (kp b o z hb)) nSD)]
                exact s13 _ _ (kp9 b o z hb)
              · rw [upd_ne nSDB.symm]; exact hB13.1
              · rw [upd_ne (ne_of_none (s7 _ _ (hB.2 y hy)) nSD)]
                exact hB13.2 y hy
              · rw [upd_ne (ne_of_none (s7 _ _ hpt) nSD)]
                exact s13 _ _ hpt9
              · rw [upd_same]
                unfold stV
                rw [List.map_append]
                rfl
              · exact ⟨locked_ne (fun z' => by have z := (stN y hy).1; rw [z', hSD'] at z; cases z) (stN y hy).1, locked_ne (fun z' => by have z := (stN y hy).2; rw [z', hSD'] at z; cases z) (stN y hy).2⟩
              · rw [hls, ← est2]
                unfold stepsOf
                rw [List.map_append]
                rfl
            · have hok : ¬ okO most (bump S (some mo) jc) = true := fun z => (of_decide_eq_false (Bool.eq_false_iff.mpr e)) (oi_ok.mpr z)
              rw [if_neg hok, List.append_nil] at hls
              exact fin _ _ sl _ _ (fun _ _ z => z) kp9 hB9 hpt9 hSD hst9 (by rw [est2, hls])
        · refine ifDN hin ?_
          refine fin _ _ sl _ _ (fun _ _ z => z) kp9 hB9 hpt9 hSD hst9 ?_
          rw [est2]
          unfold lsteps
          simp only [gc', idx_none hin]
          rfl
    · rintro σ H7 ⟨bt, w6, w8, w9, w10, w11, w12, w13, w14, kp, hB, eb, rfl⟩
      have hL7 : H7 L = some (.frz od2 (.dT (toKv lt))) := kp _ _ upd_same nLB
      refine ⟨hL7, _, rfl, i + 1, Bh, bt, w6, some (.ref Bh), w8, w9, w10, w11, w12, w13, w14, by omega, by omega, ?_, ⟨?_, ?_⟩, ?_, rfl⟩
      · intro b o e
        have z := sH6 b o e
        by_cases hb : b = L
        · subst hb
          rw [hL6] at z
          rw [upd_same]
          exact z
        · have nb : b ≠ Bh := ne_of_none z nB
          rw [upd_ne hb]
          exact kp _ _ (by rw [upd_ne hb, upd_ne nb]; exact z) nb
      · rw [upd_ne nLB.symm]
        exact hB.1
      · intro x hx
        have z := hB.2 x hx
        exact locked_ne (fun z' => by rw [z', hL7] at z; cases z) z
      · rw [eb, toKv_len]
        have : (lvl S most t st i).take lt.length = lvl S most t st i := List.take_of_length_le (by rw [← elv, toLv_len]; exact Nat.le_refl _)
        rw [this]
        rfl
end
end SR

namespace SR
open PySem PySem.Spec PyProof.Rows L2
section
variable {P : Program} {w : World} {K : PySem.W.Frag} {mg : Str → Option Value} {base : Heap}
/-! ### law -/
theorem scLaw : FnScope ["_law_script", "_law_d", "_law_sets_here", "_law_turn", "_law_text_here", "_law_most", "_law_state", "_law_again", "_law_found"] ["_law_script"] (defScope sLaw) := ⟨rfl, rfl, rfl, by decide +kernel, rfl, by decide +kernel, by decide +kernel⟩
def spLaw (K : PySem.W.Frag) : Sp := fun vs H Q _ => ∃ (a : Addr) (ns : List Int), vs = [.ref a] ∧ SqL K H a (ns.map V.int) ∧ ns.length ≤ 63 ∧ ∀ H', Q (.bl true) H'
theorem ok_law {f fDi fSe fTx fOf fRu fGu fIT fRe fLo fAl fSh : Addr} {fd dDi dSe dTx dOf dRu dGu dIT dRe dLo dAl dSh : FuncData} (F : Fun K "law" "law" sLaw f fd) (B : Bt mg)
    (GDi : FnOk P w K mg base CX0 1 fDi dDi ["_law_script", "_law_k"] (spDice K)) (mDi : mg "_law_dice" = some (.ref fDi)) (kDi : PySem.W.keepIn K (.ref fDi) = true) (bDi : Binds K dDi ["_law_script", "_law_k"] [])
    (GSe : FnOk P w K mg base CX0 3 fSe dSe ["_law_d"] spSets) (mSe : mg "_law_sets" = some (.ref fSe)) (kSe : PySem.W.keepIn K (.ref fSe) = true) (bSe : Binds K dSe ["_law_d"] [])
    (GTx : FnOk P w K mg base CX0 2 fTx dTx ["_law_d", "_law_sets_here", "_law_most"] spText) (mTx : mg "_law_text" = some (.ref fTx)) (kTx : PySem.W.keepIn K (.ref fTx) = true) (bTx : Binds K dTx ["_law_d", "_law_sets_here", "_law_most"] [])
    (GOf : FnOk P w K mg base CX0 1 fOf dOf ["_law_d", "_law_most"] spOff) (mOf : mg "_law_off" = some (.ref fOf)) (kOf : PySem.W.keepIn K (.ref fOf) = true) (bOf : Binds K dOf ["_law_d", "_law_most"] [])
    (GRu : FnOk P w K mg base CX0 2 fRu dRu ["_law_d", "_law_sets_here"] spRuns) (mRu : mg "_law_runs" = some (.ref fRu)) (kRu : PySem.W.keepIn K (.ref fRu) = true) (bRu : Binds K dRu ["_law_d", "_law_sets_here"] [])
    (GGu : FnOk P w K mg base CX0 125 fGu dGu ["sets", "text", "state", "most"] spGuarded) (mGu : mg "guarded" = some (.ref fGu)) (kGu : PySem.W.keepIn K (.ref fGu) = true) (bGu : Binds K dGu ["sets", "text", "state", "most"] [])
    (GIT : FnOk P w K mg base CX0 1 fIT dIT ["_law_tape", "_law_sets_here"] spIsTape) (mIT : mg "_law_is_tape" = some (.ref fIT)) (kIT : PySem.W.keepIn K (.ref fIT) = true) (bIT : Binds K dIT ["_law_tape", "_law_sets_here"] [])
    (GRe : FnOk P w K mg base CX0 3 fRe dRe ["sets", "tape", "state"] spRead) (mRe : mg "read" = some (.ref fRe)) (kRe : PySem.W.keepIn K (.ref fRe) = true) (bRe : Binds K dRe ["sets", "tape", "state"] [])
    (GLo : FnOk P w K mg base CX0 2 fLo dLo ["_law_sets_here", "_law_tape", "_law_state"] spLosses) (mLo : mg "_law_losses" = some (.ref fLo)) (kLo : PySem.W.keepIn K (.ref fLo) = true) (bLo : Binds K dLo ["_law_sets_here", "_law_tape", "_law_state"] [])
    (GAl : FnOk P w K mg base CX0 2 fAl dAl ["_law_found", "_law_due"] spAlikeL) (mAl : mg "_law_alike" = some (.ref fAl)) (kAl : PySem.W.keepIn K (.ref fAl) = true) (bAl : Binds K dAl ["_law_found", "_law_due"] [])
    (GSh : FnOk P w K mg base CX0 1 fSh dSh ["_law_sets_here", "_law_text_here", "_law_state", "_law_most"] spShortest) (mSh : mg "_law_shortest" = some (.ref fSh)) (kSh : PySem.W.keepIn K (.ref fSh) = true) (bSh : Binds K dSh ["_law_sets_here", "_law_text_here", "_law_state", "_law_most"] []) :
    FnOk P w K mg base CX0 126 f fd ["_law_script"] (spLaw K) := by
  refine F.ok scLaw (fun vs H Q E h => ?_) (fun cdv A outer s H vs Q E hr h => ?_)
  · obtain ⟨a, ns, rfl, _⟩ := h
    rfl
  obtain ⟨sc, ns, rfl, hsc, hns, k⟩ := h
  have hr1 : Room 1 _ := hr.mono (by decide)
  have hr2 : Room 2 _ := hr.mono (by decide)
  have hr3 : Room 3 _ := hr.mono (by decide)
  refine ⟨_, (pss_cons (ps_set (i := 1) scLaw.nd rfl (.inl rfl) (pe_call GDi hr1 (by rfl) mDi kDi bDi .nil pass0 (pa_cons (pv 0) (pa_cons (pe_int) pa_nil)))) (pss_cons (ps_set (i := 2) scLaw.nd rfl (.inl rfl) (pe_call GSe hr3 (by rfl) mSe kSe bSe .nil pass0 (pa_cons (pv 1) pa_nil))) (pss_cons (ps_for PassesOwn.never rfl (pi_range1 (by rfl) B.range (pa_cons (pe_int) pa_nil)) (pg_name (i := 3) scLaw.nd rfl (.inl rfl))
      (pss_cons (ps_set (i := 4) scLaw.nd rfl (.inl rfl) (pe_call GTx hr2 (by rfl) mTx kTx bTx .nil pass0 (pa_cons (pv 1) (pa_cons (pv 2) (pa_cons (pe_ix ix_list (pe_lst (pa_cons (pe_int) (pa_cons (pe_int) (pa_cons (pe_int) pa_nil)))) (pe_call GOf hr1 (by rfl) mOf kOf bOf .nil pass0 (pa_cons (pv 1) (pa_cons (pe_int) pa_nil))) (fun _ _ => rfl)) pa_nil))))) (pss_cons (ps_if (pt_cmpR op_eq (pe_call GOf hr1 (by rfl) mOf kOf bOf .nil pass0 (pa_cons (pv 1) (pa_cons (pe_int) pa_nil))) pe_int (nomark _)) (pss_one (ps_set (i := 4) scLaw.nd rfl (.inl rfl) (pe_call GRu hr2 (by rfl) mRu kRu bRu .nil pass0 (pa_cons (pv 1) (pa_cons (pv 2) pa_nil))))) pss_nil) (pss_cons (ps_set (i := 5) scLaw.nd rfl (.inl rfl) (pe_call GOf hr1 (by rfl) mOf kOf bOf .nil pass0 (pa_cons (pv 1) (pa_cons (pe_ix ix_list (pe_lst (pa_cons (pe_int) (pa_cons (pe_int) (pa_cons (pe_int) (pa_cons (pe_int) pa_nil))))) (pe_call GOf hr1 (by rfl) mOf kOf bOf .nil pass0 (pa_cons (pv 1) (pa_cons (pe_int) pa_nil))) (fun _ _ => rfl)) pa_nil)))) (pss_one (ps_for PassesOwn.never rfl (pi_range1 (by rfl) B.range (pa_cons (pe_int) pa_nil)) (pg_name (i := 6) scLaw.nd rfl (.inl rfl))
        (pss_one (ps_for PassesOwn.never rfl (pi_range1 (by rfl) B.range (pa_cons (pe_int) pa_nil)) (pg_name (i := 7) scLaw.nd rfl (.inl rfl))
          (pss_cons (ps_set (i := 8) scLaw.nd rfl (.inl rfl) (pe_call GGu hr (by rfl) mGu kGu bGu .nil pass0 (pa_cons (pv 2) (pa_cons (pv 4) (pa_cons (pv 6) (pa_cons (pv 5) pa_nil)))))) (pss_cons (ps_if (PW.pt (pw_or (pt_not (pt_val (pe_call GIT hr1 (by rfl) mIT kIT bIT .nil pass0 (pa_cons (pv 8) (pa_cons (pv 2) pa_nil))))) (pw_or1 (pt_cmpR op_ne (pe_ix ix_tup (pe_call GRe hr3 (by rfl) mRe kRe bRe .nil pass0 (pa_cons (pv 2) (pa_cons (pv 8) (pa_cons (pv 6) pa_nil)))) pe_int (fun _ _ => rfl)) (pv 4) (nomark _))))) (pss_one (ps_ret pe_bl)) pss_nil) (pss_cons (ps_if (pt_cmpR op_gt (pe_callB (cr_max rfl) (by rfl) B.max (by decide +kernel) (pa_cons (pe_op op_cat (pe_call GLo hr2 (by rfl) mLo kLo bLo .nil pass0 (pa_cons (pv 2) (pa_cons (pv 8) (pa_cons (pv 6) pa_nil)))) (pe_lst (pa_cons (pe_int) pa_nil))) pa_nil)) (pv 5) (nomark _)) (pss_one (ps_ret pe_bl)) pss_nil) (pss_cons (ps_if (pt_not (pt_val (pe_call GAl hr2 (by rfl) mAl kAl bAl .nil pass0 (pa_cons (pv 8) (pa_cons (pe_call GSh hr1 (by rfl) mSh kSh bSh .nil pass0 (pa_cons (pv 2) (pa_cons (pv 4) (pa_cons (pv 6) (pa_cons (pv 5) pa_nil))))) pa_nil))))) (pss_one (ps_ret pe_bl)) pss_nil) (pss_one (ps_expr (pe_bm PySem.F.plainAttrs_list PySem.F.slot_list_append PySem.F.type_list_append mt_append (pv 8) (pa_cons (pe_int) pa_nil)))))))))))))))) (pss_one (ps_ret pe_bl))))), ?_⟩
  refine ⟨_, rfl, sc, ns, 0, rfl, hsc, hns, fun H1 d s1 nd hd1 => ?_⟩
  refine ⟨_, rfl, d, rfl, hd1, fun H2 a S kp2 hd2 ok hS2 => ?_⟩
  refine ⟨3, rfl, by decide, by decide, for_range (lo := 0) (n := 3) (fun i σ H' => DAt H' d ∧ SetsAt H' a S ∧ ∃ w3 w4 w5 w6 w7 w8, σ = [some (.ref sc), some (.ref d), some (.ref a), w3, w4, w5, w6, w7, w8]) ⟨hd2, hS2, _, _, _, _, _, _, rfl⟩ ?_ ?_⟩
  · rintro i σ H3 hi ⟨hd3, hS3, w3, w4, w5, w6, w7, w8, rfl⟩
    refine ⟨_, rfl, _, rfl, (by show 3 ≤ sizeLine; decide), fun T0 nT0 => ?_⟩
    have sT0 := same_upd (o := .lst [.int 12, .int 12, .int 40]) nT0
    have nT0d := dne hd3 nT0
    refine ⟨_, rfl, d, 3, rfl, keepD sT0 hd3, by decide, by decide, fun Ha ra kpa hda ha0 ha1 => ?_⟩
    obtain ⟨m, em, hm⟩ : ∃ m : Nat, atI ([.int 12, .int 12, .int 40] : List V) ra = some (.int m) ∧ m ≤ 40 := by
      rcases (show ra = 0 ∨ ra = 1 ∨ ra = 2 by omega) with rfl | rfl | rfl
      · exact ⟨12, atI_nat (j := 0) rfl, by decide⟩
      · exact ⟨12, atI_nat (j := 1) rfl, by decide⟩
      · exact ⟨40, atI_nat (j := 2) rfl, by decide⟩
    refine ⟨T0, _, _, _, rfl, rfl, SqL.of (kpa _ _ upd_same nT0d), em, ?_⟩
    have hSa := kpS kpa (keepD sT0 hd3) (keepS sT0 hS3)
    refine ⟨d, a, S, m, rfl, hda, hSa, ok, hm, fun Hb t kpb hdb hst h40 => ?_⟩
    have hSb := kpS kpb hda hSa
    refine ⟨_, rfl, d, 2, rfl, hdb, by decide, by decide, fun Hc rc kpc hdc _ _ => ?_⟩
    have hSc := kpS kpc hdb hSb
    refine ⟨rfl, _, rfl, ite2 (fun _ => ?_) (fun _ => ?_)⟩
    · refine ⟨_, rfl, _, rfl, d, a, S, rfl, hdc, hSc, ok, fun H4 t kp4 hd4 hst h40 => ?_⟩
      have hS4 := kpS kp4 hdc hSc
      refine ⟨_, rfl, (by show 4 ≤ sizeLine; decide), fun T nT => ?_⟩
      have sT := same_upd (o := .lst [.int 1, .int 2, .int 5, .int 21]) nT
      have nTd := dne hd4 nT
      refine ⟨_, rfl, d, 4, rfl, keepD sT hd4, by decide, by decide, fun H5 r5 kp5 hd5 h50 h51 => ?_⟩
      obtain ⟨q, eq, q0, q1⟩ : ∃ q : Int, atI ([.int 1, .int 2, .int 5, .int 21] : List V) r5 = some (.int q) ∧ 0 < q ∧ q ≤ 21 := by
        rcases (show r5 = 0 ∨ r5 = 1 ∨ r5 = 2 ∨ r5 = 3 by omega) with rfl | rfl | rfl | rfl
        · exact ⟨1, atI_nat (j := 0) rfl, by decide, by decide⟩
        · exact ⟨2, atI_nat (j := 1) rfl, by decide, by decide⟩
        · exact ⟨5, atI_nat (j := 2) rfl, by decide, by decide⟩
        · exact ⟨21, atI_nat (j := 3) rfl, by decide, by decide⟩
      refine ⟨T, _, _, _, rfl, rfl, SqL.of (kp5 _ _ upd_same nTd), eq, ?_⟩
      refine ⟨d, q, rfl, hd5, q0, by omega, fun H6 r6 kp6 hd6 h60 h61 => ?_⟩
      obtain ⟨most, rfl⟩ : ∃ most : Nat, r6 = most := ⟨r6.toNat, (Int.toNat_of_nonneg h60).symm⟩
      have h20 : most ≤ 20 := by omega
      have hS6 : SetsAt H6 a S := kpS kp6 hd5 (kpS kp5 (keepD sT hd4) (keepS sT hS4))
      refine ⟨2, rfl, by decide, by decide, for_range (lo := 0) (n := 2) (fun u σ H' => DAt H' d ∧ SetsAt H' a S ∧ ∃ w6 w7 w8, σ = [some (.ref sc), some (.ref d), some (.ref a), some (.int (0 + i)), some (.str (tx t)), some (.int most), w6, w7, w8]) ⟨hd6, hS6, _, _, _, rfl⟩ ?_ ?_⟩
      · rintro u σ H7 hu2 ⟨hd7, hS7, w6, w7, w8, rfl⟩
        obtain ⟨st, eu⟩ : ∃ st : Bool, (0 : Int) + (u : Int) = bi st := by
          rcases (show u = 0 ∨ u = 1 by omega) with rfl | rfl
          · exact ⟨false, rfl⟩
          · exact ⟨true, rfl⟩
        rw [eu]
        refine ⟨2, rfl, by decide, by decide, for_range (lo := 0) (n := 2) (fun v σ H' => DAt H' d ∧ SetsAt H' a S ∧ ∃ w7 w8, σ = [some (.ref sc), some (.ref d), some (.ref a), some (.int (0 + i)), some (.str (tx t)), some (.int most), some (.int (bi st)), w7, w8]) ⟨hd7, hS7, _, _, rfl⟩ ?_ ?_⟩
        · rintro v σ H8 hv2 ⟨hd8, hS8, w7, w8, rfl⟩
          refine ⟨_, rfl, _, rfl, _, rfl, _, rfl, S, t, most, a, st, rfl, hS8, ok, hst, h40, h20, fun H9 r W s9 hW hr9 nr => ?_⟩
          have acc := best_acc ok.ev t st none W hW
          have lW := best_len _ _ _ _ hW
          have cW : Codes S W := by
            obtain ⟨st1, o1, e⟩ := acc
            exact run_codes ok.ev W _ _ e
          have hS9 := keepS s9 hS8
          refine ⟨_, rfl, _, rfl, r, a, S, W, rfl, hS9, hr9, ok, cW, fun H10 s10 => ⟨_, rfl, iteF ?_⟩⟩
          have hS10 := keepS s10 hS9
          refine ⟨_, rfl, _, rfl, _, rfl, a, r, S, W, st, rfl, hS10, s10 _ _ hr9, ok, cW, by omega, fun H11 r11 s11 hr11 => ?_⟩
          refine ⟨r11, _, _, _, rfl, rfl, SqT.of hr11, atI_nat (j := 0) rfl, _, rfl, rfl, _, rfl, ifN (by rw [acc_text ok.ev acc]) ?_⟩
          have s91 := s10.trans s11
          have hS11 := keepS s91 hS9
          refine ⟨_, rfl, _, rfl, _, rfl, a, r, S, W, st, rfl, hS11, s91 _ _ hr9, ok, cW, by omega, fun H12 r12 s12 hr12 => ?_⟩
          refine ⟨(by show 1 ≤ sizeLine; decide), fun T2 nT2 => ?_⟩
          have s13 := same_upd (o := .lst [.int 0]) nT2
          have lL : (lossL S st W).length = W.length := by unfold lossL; simp
          refine ⟨r12, T2, _, _, rfl, rfl, s13 _ _ hr12, upd_same, sm (by rw [List.length_map, lL]; show _ + 1 ≤ _; omega), fun T3 nT3 => ?_⟩
          have s14 := same_upd (o := .lst ((lossL S st W).map V.int ++ [.int 0])) nT3
          refine ⟨T3, lossL S st W ++ [0], rfl, SqL.of (by rw [upd_same, List.map_append]; rfl), by simp, fun mx hmx _ => ?_⟩
          have hmost : mx ≤ most := by
            rcases List.mem_append.mp hmx with h | h
            · unfold lossL at h
              obtain ⟨x, hx, rfl⟩ := List.mem_map.mp h
              have := loss_le ok.ev acc (List.mem_range.mp hx)
              omega
            · obtain rfl := List.mem_singleton.mp h
              omega
          refine ⟨_, rfl, _, _, rfl, rfl, _, rfl, ifDN (by omega) ?_⟩
          have s94 := s91.trans (s12.trans (s13.trans s14))
          have hS14 := keepS s94 hS9
          refine ⟨_, rfl, _, rfl, _, rfl, _, rfl, _, rfl, a, S, t, most, st, rfl, hS14, ok, hst, h40, h20, fun H15 r15 W' s15 hW' hr15 => ?_⟩
          have eW : W' = W := Option.some.inj (hW'.symm.trans hW)
          subst eW
          have s95 := s94.trans s15
          refine .inr ⟨r, r15, W', rfl, s95 _ _ hr9, hr15, by omega, fun x H' Q' z => .inl ⟨x, rfl, z⟩, fun H16 s16 => ⟨_, rfl, iteF ?_⟩⟩
          have s96 := s95.trans s16
          have hr16 := s96 _ _ hr9
          refine ⟨_, rfl, .inl ⟨rfl, _, SqL.of hr16⟩, r, _, _, rfl, rfl, hr16, sm' (by rw [List.length_map]; omega), ?_, ?_, _, _, rfl⟩
          · obtain ⟨x, y, zs, e, l⟩ := hd8
            exact ⟨x, y, zs, by rw [upd_ne (ne_of_none e nr)]; exact s96 _ _ (s9 _ _ e), l⟩
          · have e : H8 a = some (.tup [.str (tx S.one), .str (tx S.two)]) := hS8
            show upd _ r _ a = _
            rw [upd_ne (ne_of_none e nr)]
            exact s96 _ _ (s9 _ _ e)
        · rintro σ H8 ⟨hd8, hS8, w7, w8, rfl⟩
          exact ⟨hd8, hS8, _, _, _, rfl⟩
      · rintro σ H7 ⟨hd7, hS7, w6, w7, w8, rfl⟩
        exact ⟨hd7, hS7, _, _, _, _, _, _, rfl⟩
    · have hd4 := hdc
      have hS4 := hSc
      refine ⟨_, rfl, (by show 4 ≤ sizeLine; decide), fun T nT => ?_⟩
      have sT := same_upd (o := .lst [.int 1, .int 2, .int 5, .int 21]) nT
      have nTd := dne hd4 nT
      refine ⟨_, rfl, d, 4, rfl, keepD sT hd4, by decide, by decide, fun H5 r5 kp5 hd5 h50 h51 => ?_⟩
      obtain ⟨q, eq, q0, q1⟩ : ∃ q : Int, atI ([.int 1, .int 2, .int 5, .int 21] : List V) r5 = some (.int q) ∧ 0 < q ∧ q ≤ 21 := by
        rcases (show r5 = 0 ∨ r5 = 1 ∨ r5 = 2 ∨ r5 = 3 by omega) with rfl | rfl | rfl | rfl
        · exact ⟨1, atI_nat (j := 0) rfl, by decide, by decide⟩
        · exact ⟨2, atI_nat (j := 1) rfl, by decide, by decide⟩
        · exact ⟨5, atI_nat (j := 2) rfl, by decide, by decide⟩
        · exact ⟨21, atI_nat (j := 3) rfl, by decide, by decide⟩
      refine ⟨T, _, _, _, rfl, rfl, SqL.of (kp5 _ _ upd_same nTd), eq, ?_⟩
      refine ⟨d, q, rfl, hd5, q0, by omega, fun H6 r6 kp6 hd6 h60 h61 => ?_⟩
      obtain ⟨most, rfl⟩ : ∃ most : Nat, r6 = most := ⟨r6.toNat, (Int.toNat_of_nonneg h60).symm⟩
      have h20 : most ≤ 20 := by omega
      have hS6 : SetsAt H6 a S := kpS kp6 hd5 (kpS kp5 (keepD sT hd4) (keepS sT hS4))
      refine ⟨2, rfl, by decide, by decide, for_range (lo := 0) (n := 2) (fun u σ H' => DAt H' d ∧ SetsAt H' a S ∧ ∃ w6 w7 w8, σ = [some (.ref sc), some (.ref d), some (.ref a), some (.int (0 + i)), some (.str (tx t)), some (.int most), w6, w7, w8]) ⟨hd6, hS6, _, _, _, rfl⟩ ?_ ?_⟩
      · rintro u σ H7 hu2 ⟨hd7, hS7, w6, w7, w8, rfl⟩
        obtain ⟨st, eu⟩ : ∃ st : Bool, (0 : Int) + (u : Int) = bi st := by
          rcases (show u = 0 ∨ u = 1 by omega) with rfl | rfl
          · exact ⟨false, rfl⟩
          · exact ⟨true, rfl⟩
        rw [eu]
        refine ⟨2, rfl, by decide, by decide, for_range (lo := 0) (n := 2) (fun v σ H' => DAt H' d ∧ SetsAt H' a S ∧ ∃ w7 w8, σ = [some (.ref sc), some (.ref d), some (.ref a), some (.int (0 + i)), some (.str (tx t)), some (.int most), some (.int (bi st)), w7, w8]) ⟨hd7, hS7, _, _, rfl⟩ ?_ ?_⟩
        · rintro v σ H8 hv2 ⟨hd8, hS8, w7, w8, rfl⟩
          refine ⟨_, rfl, _, rfl, _, rfl, _, rfl, S, t, most, a, st, rfl, hS8, ok, hst, h40, h20, fun H9 r W s9 hW hr9 nr => ?_⟩
          have acc := best_acc ok.ev t st none W hW
          have lW := best_len _ _ _ _ hW
          have cW : Codes S W := by
            obtain ⟨st1, o1, e⟩ := acc
            exact run_codes ok.ev W _ _ e
          have hS9 := keepS s9 hS8
          refine ⟨_, rfl, _, rfl, r, a, S, W, rfl, hS9, hr9, ok, cW, fun H10 s10 => ⟨_, rfl, iteF ?_⟩⟩
          have hS10 := keepS s10 hS9
          refine ⟨_, rfl, _, rfl, _, rfl, a, r, S, W, st, rfl, hS10, s10 _ _ hr9, ok, cW, by omega, fun H11 r11 s11 hr11 => ?_⟩
          refine ⟨r11, _, _, _, rfl, rfl, SqT.of hr11, atI_nat (j := 0) rfl, _, rfl, rfl, _, rfl, ifN (by rw [acc_text ok.ev acc]) ?_⟩
          have s91 := s10.trans s11
          have hS11 := keepS s91 hS9
          refine ⟨_, rfl, _, rfl, _, rfl, a, r, S, W, st, rfl, hS11, s91 _ _ hr9, ok, cW, by omega, fun H12 r12 s12 hr12 => ?_⟩
          refine ⟨(by show 1 ≤ sizeLine; decide), fun T2 nT2 => ?_⟩
          have s13 := same_upd (o := .lst [.int 0]) nT2
          have lL : (lossL S st W).length = W.length := by unfold lossL; simp
          refine ⟨r12, T2, _, _, rfl, rfl, s13 _ _ hr12, upd_same, sm (by rw [List.length_map, lL]; show _ + 1 ≤ _; omega), fun T3 nT3 => ?_⟩
          have s14 := same_upd (o := .lst ((lossL S st W).map V.int ++ [.int 0])) nT3
          refine ⟨T3, lossL S st W ++ [0], rfl, SqL.of (by rw [upd_same, List.map_append]; rfl), by simp, fun mx hmx _ => ?_⟩
          have hmost : mx ≤ most := by
            rcases List.mem_append.mp hmx with h | h
            · unfold lossL at h
              obtain ⟨x, hx, rfl⟩ := List.mem_map.mp h
              have := loss_le ok.ev acc (List.mem_range.mp hx)
              omega
            · obtain rfl := List.mem_singleton.mp h
              omega
          refine ⟨_, rfl, _, _, rfl, rfl, _, rfl, ifDN (by omega) ?_⟩
          have s94 := s91.trans (s12.trans (s13.trans s14))
          have hS14 := keepS s94 hS9
          refine ⟨_, rfl, _, rfl, _, rfl, _, rfl, _, rfl, a, S, t, most, st, rfl, hS14, ok, hst, h40, h20, fun H15 r15 W' s15 hW' hr15 => ?_⟩
          have eW : W' = W := Option.some.inj (hW'.symm.trans hW)
          subst eW
          have s95 := s94.trans s15
          refine .inr ⟨r, r15, W', rfl, s95 _ _ hr9, hr15, by omega, fun x H' Q' z => .inl ⟨x, rfl, z⟩, fun H16 s16 => ⟨_, rfl, iteF ?_⟩⟩
          have s96 := s95.trans s16
          have hr16 := s96 _ _ hr9
          refine ⟨_, rfl, .inl ⟨rfl, _, SqL.of hr16⟩, r, _, _, rfl, rfl, hr16, sm' (by rw [List.length_map]; omega), ?_, ?_, _, _, rfl⟩
          · obtain ⟨x, y, zs, e, l⟩ := hd8
            exact ⟨x, y, zs, by rw [upd_ne (ne_of_none e nr)]; exact s96 _ _ (s9 _ _ e), l⟩
          · have e : H8 a = some (.tup [.str (tx S.one), .str (tx S.two)]) := hS8
            show upd _ r _ a = _
            rw [upd_ne (ne_of_none e nr)]
            exact s96 _ _ (s9 _ _ e)
        · rintro σ H8 ⟨hd8, hS8, w7, w8, rfl⟩
          exact ⟨hd8, hS8, _, _, _, rfl⟩
      · rintro σ H7 ⟨hd7, hS7, w6, w7, w8, rfl⟩
        exact ⟨hd7, hS7, _, _, _, _, _, _, rfl⟩
  · rintro σ H3 ⟨hd3, hS3, w3, w4, w5, w6, w7, w8, rfl⟩
    exact k H3
end
end SR

namespace SR
open PySem PySem.Spec PyProof.Rows L2
/-! ### what the top has left -/
theorem all_mk {l : PySem.W.OpenLaw} {w : World} {K : PySem.W.Frag} {h : Heap} {mg : Str → Option Value} {fa C : Addr} (X : K.In h) (G : h.Ns mainGlobals mg) (hfa : mg "law" = some (.ref fa))
    {fNS fNT fNst fNA fIC fGo fRe fCO fNX fSh fGO fGu fDi fOf fAl fMi fSe fTx fGL fLo fSL fIT fRu fLa fWI fWR fWF fWA fWS : Addr} {odNS anNS odNT anNT odNst anNst odNA anNA odIC anIC odGo anGo odRe anRe odCO anCO odNX anNX odSh anSh odGO anGO odGu anGu odDi anDi odOf anOf odAl anAl odMi anMi odSe anSe odTx anTx odGL anGL odLo anLo odSL anSL odIT anIT odRu anRu odLa anLa odWI anWI odWR anWR odWF anWF odWA anWA odWS anWS : Option Addr} {slNS slNT slNst slNA slIC slGo slRe slCO slNX slSh slGO slGu slDi slOf slAl slMi slSe slTx slGL slLo slSL slIT slRu slLa slWI slWR slWF slWA slWS : Array (Option Value)} {ocNS kVNS dcNS pmNS cdNS ctNS ocNT kVNT dcNT pmNT cdNT ctNT ocNst kVNst dcNst pmNst cdNst ctNst ocNA kVNA dcNA pmNA cdNA ctNA ocIC kVIC dcIC pmIC cdIC ctIC ocGo kVGo dcGo pmGo cdGo ctGo ocRe kVRe dcRe pmRe cdRe ctRe ocCO kVCO dcCO pmCO cdCO ctCO ocNX kVNX dcNX pmNX cdNX ctNX ocSh kVSh dcSh pmSh cdSh ctSh ocGO kVGO dcGO pmGO cdGO ctGO ocGu kVGu dcGu pmGu cdGu ctGu ocDi kVDi dcDi pmDi cdDi ctDi ocOf kVOf dcOf pmOf cdOf ctOf ocAl kVAl dcAl pmAl cdAl ctAl ocMi kVMi dcMi pmMi cdMi ctMi ocSe kVSe dcSe pmSe cdSe ctSe ocTx kVTx dcTx pmTx cdTx ctTx ocGL kVGL dcGL pmGL cdGL ctGL ocLo kVLo dcLo pmLo cdLo ctLo ocSL kVSL dcSL pmSL cdSL ctSL ocIT kVIT dcIT pmIT cdIT ctIT ocRu kVRu dcRu pmRu cdRu ctRu ocLa kVLa dcLa pmLa cdLa ctLa ocWI kVWI dcWI pmWI cdWI ctWI ocWR kVWR dcWR pmWR cdWR ctWR ocWF kVWF dcWF pmWF cdWF ctWF ocWA kVWA dcWA pmWA cdWA ctWA ocWS kVWS dcWS pmWS cdWS ctWS : Value} {tM1 tM2 tM3 : Tok}
    (aC : PySem.W.nsIn K mainGlobals "Writer" = some (some (.ref C)))
    (aNS : PySem.W.nsIn K mainGlobals "need_sets" = some (some (.ref fNS)))
    (lNS : K.lookup fNS = some ⟨ocNS, odNS, .func (PySem.W.fnOf "need_sets" "need_sets" (defArgs sNeedSets) (defBody sNeedSets) (defScope sNeedSets) .none kVNS dcNS pmNS anNS cdNS ctNS), slNS⟩) (cNS : PySem.W.codeIn K cdNS "need_sets" = true) (kNS : PySem.W.keepIn K (.ref fNS) = true)
    (aNT : PySem.W.nsIn K mainGlobals "need_tape" = some (some (.ref fNT)))
    (lNT : K.lookup fNT = some ⟨ocNT, odNT, .func (PySem.W.fnOf "need_tape" "need_tape" (defArgs sNeedTape) (defBody sNeedTape) (defScope sNeedTape) .none kVNT dcNT pmNT anNT cdNT ctNT), slNT⟩) (cNT : PySem.W.codeIn K cdNT "need_tape" = true) (kNT : PySem.W.keepIn K (.ref fNT) = true)
    (aNst : PySem.W.nsIn K mainGlobals "need_state" = some (some (.ref fNst)))
    (lNst : K.lookup fNst = some ⟨ocNst, odNst, .func (PySem.W.fnOf "need_state" "need_state" (defArgs sNeedState) (defBody sNeedState) (defScope sNeedState) .none kVNst dcNst pmNst anNst cdNst ctNst), slNst⟩) (cNst : PySem.W.codeIn K cdNst "need_state" = true) (kNst : PySem.W.keepIn K (.ref fNst) = true)
    (aNA : PySem.W.nsIn K mainGlobals "need_all" = some (some (.ref fNA)))
    (lNA : K.lookup fNA = some ⟨ocNA, odNA, .func (PySem.W.fnOf "need_all" "need_all" (defArgs sNeedAll) (defBody sNeedAll) (defScope sNeedAll) .none kVNA dcNA pmNA anNA cdNA ctNA), slNA⟩) (cNA : PySem.W.codeIn K cdNA "need_all" = true) (kNA : PySem.W.keepIn K (.ref fNA) = true)
    (aIC : PySem.W.nsIn K mainGlobals "is_common" = some (some (.ref fIC)))
    (lIC : K.lookup fIC = some ⟨ocIC, odIC, .func (PySem.W.fnOf "is_common" "is_common" (defArgs sIsCommon) (defBody sIsCommon) (defScope sIsCommon) .none kVIC dcIC pmIC anIC cdIC ctIC), slIC⟩) (cIC : PySem.W.codeIn K cdIC "is_common" = true) (kIC : PySem.W.keepIn K (.ref fIC) = true)
    (aGo : PySem.W.nsIn K mainGlobals "gone" = some (some (.ref fGo)))
    (lGo : K.lookup fGo = some ⟨ocGo, odGo, .func (PySem.W.fnOf "gone" "gone" (defArgs sGone) (defBody sGone) (defScope sGone) .none kVGo dcGo pmGo anGo cdGo ctGo), slGo⟩) (cGo : PySem.W.codeIn K cdGo "gone" = true) (kGo : PySem.W.keepIn K (.ref fGo) = true)
    (aRe : PySem.W.nsIn K mainGlobals "read" = some (some (.ref fRe)))
    (lRe : K.lookup fRe = some ⟨ocRe, odRe, .func (PySem.W.fnOf "read" "read" (defArgs sRead) (defBody sRead) (defScope sRead) .none kVRe dcRe pmRe anRe cdRe ctRe), slRe⟩) (cRe : PySem.W.codeIn K cdRe "read" = true) (kRe : PySem.W.keepIn K (.ref fRe) = true)
    (aCO : PySem.W.nsIn K mainGlobals "codes_of" = some (some (.ref fCO)))
    (lCO : K.lookup fCO = some ⟨ocCO, odCO, .func (PySem.W.fnOf "codes_of" "codes_of" (defArgs sCodesOf) (defBody sCodesOf) (defScope sCodesOf) .none kVCO dcCO pmCO anCO cdCO ctCO), slCO⟩) (cCO : PySem.W.codeIn K cdCO "codes_of" = true) (kCO : PySem.W.keepIn K (.ref fCO) = true)
    (aNX : PySem.W.nsIn K mainGlobals "need_text" = some (some (.ref fNX)))
    (lNX : K.lookup fNX = some ⟨ocNX, odNX, .func (PySem.W.fnOf "need_text" "need_text" (defArgs sNeedText) (defBody sNeedText) (defScope sNeedText) .none kVNX dcNX pmNX anNX cdNX ctNX), slNX⟩) (cNX : PySem.W.codeIn K cdNX "need_text" = true) (kNX : PySem.W.keepIn K (.ref fNX) = true)
    (aSh : PySem.W.nsIn K mainGlobals "shorter" = some (some (.ref fSh)))
    (lSh : K.lookup fSh = some ⟨ocSh, odSh, .func (PySem.W.fnOf "shorter" "shorter" (defArgs sShorter) (defBody sShorter) (defScope sShorter) .none kVSh dcSh pmSh anSh cdSh ctSh), slSh⟩) (cSh : PySem.W.codeIn K cdSh "shorter" = true) (kSh : PySem.W.keepIn K (.ref fSh) = true)
    (aGO : PySem.W.nsIn K mainGlobals "guarded_of" = some (some (.ref fGO)))
    (lGO : K.lookup fGO = some ⟨ocGO, odGO, .func (PySem.W.fnOf "guarded_of" "guarded_of" (defArgs sGuardedOf) (defBody sGuardedOf) (defScope sGuardedOf) .none kVGO dcGO pmGO anGO cdGO ctGO), slGO⟩) (cGO : PySem.W.codeIn K cdGO "guarded_of" = true) (kGO : PySem.W.keepIn K (.ref fGO) = true)
    (aGu : PySem.W.nsIn K mainGlobals "guarded" = some (some (.ref fGu)))
    (lGu : K.lookup fGu = some ⟨ocGu, odGu, .func (PySem.W.fnOf "guarded" "guarded" (defArgs sGuarded) (defBody sGuarded) (defScope sGuarded) .none kVGu dcGu pmGu anGu cdGu ctGu), slGu⟩) (cGu : PySem.W.codeIn K cdGu "guarded" = true) (kGu : PySem.W.keepIn K (.ref fGu) = true)
    (aDi : PySem.W.nsIn K mainGlobals "_law_dice" = some (some (.ref fDi)))
    (lDi : K.lookup fDi = some ⟨ocDi, odDi, .func (PySem.W.fnOf "_law_dice" "_law_dice" (defArgs sDice) (defBody sDice) (defScope sDice) .none kVDi dcDi pmDi anDi cdDi ctDi), slDi⟩) (cDi : PySem.W.codeIn K cdDi "_law_dice" = true) (kDi : PySem.W.keepIn K (.ref fDi) = true)
    (aOf : PySem.W.nsIn K mainGlobals "_law_off" = some (some (.ref fOf)))
    (lOf : K.lookup fOf = some ⟨ocOf, odOf, .func (PySem.W.fnOf "_law_off" "_law_off" (defArgs sOff) (defBody sOff) (defScope sOff) .none kVOf dcOf pmOf anOf cdOf ctOf), slOf⟩) (cOf : PySem.W.codeIn K cdOf "_law_off" = true) (kOf : PySem.W.keepIn K (.ref fOf) = true)
    (aAl : PySem.W.nsIn K mainGlobals "_law_alike" = some (some (.ref fAl)))
    (lAl : K.lookup fAl = some ⟨ocAl, odAl, .func (PySem.W.fnOf "_law_alike" "_law_alike" (defArgs sAlike) (defBody sAlike) (defScope sAlike) .none kVAl dcAl pmAl anAl cdAl ctAl), slAl⟩) (cAl : PySem.W.codeIn K cdAl "_law_alike" = true) (kAl : PySem.W.keepIn K (.ref fAl) = true)
    (aMi : PySem.W.nsIn K mainGlobals "_law_mixed" = some (some (.ref fMi)))
    (lMi : K.lookup fMi = some ⟨ocMi, odMi, .func (PySem.W.fnOf "_law_mixed" "_law_mixed" (defArgs sMixed) (defBody sMixed) (defScope sMixed) .none kVMi dcMi pmMi anMi cdMi ctMi), slMi⟩) (cMi : PySem.W.codeIn K cdMi "_law_mixed" = true) (kMi : PySem.W.keepIn K (.ref fMi) = true)
    (aSe : PySem.W.nsIn K mainGlobals "_law_sets" = some (some (.ref fSe)))
    (lSe : K.lookup fSe = some ⟨ocSe, odSe, .func (PySem.W.fnOf "_law_sets" "_law_sets" (defArgs sSets) (defBody sSets) (defScope sSets) .none kVSe dcSe pmSe anSe cdSe ctSe), slSe⟩) (cSe : PySem.W.codeIn K cdSe "_law_sets" = true) (kSe : PySem.W.keepIn K (.ref fSe) = true)
    (aTx : PySem.W.nsIn K mainGlobals "_law_text" = some (some (.ref fTx)))
    (lTx : K.lookup fTx = some ⟨ocTx, odTx, .func (PySem.W.fnOf "_law_text" "_law_text" (defArgs sTextL) (defBody sTextL) (defScope sTextL) .none kVTx dcTx pmTx anTx cdTx ctTx), slTx⟩) (cTx : PySem.W.codeIn K cdTx "_law_text" = true) (kTx : PySem.W.keepIn K (.ref fTx) = true)
    (aGL : PySem.W.nsIn K mainGlobals "_law_gone" = some (some (.ref fGL)))
    (lGL : K.lookup fGL = some ⟨ocGL, odGL, .func (PySem.W.fnOf "_law_gone" "_law_gone" (defArgs sGoneL) (defBody sGoneL) (defScope sGoneL) .none kVGL dcGL pmGL anGL cdGL ctGL), slGL⟩) (cGL : PySem.W.codeIn K cdGL "_law_gone" = true) (kGL : PySem.W.keepIn K (.ref fGL) = true)
    (aLo : PySem.W.nsIn K mainGlobals "_law_losses" = some (some (.ref fLo)))
    (lLo : K.lookup fLo = some ⟨ocLo, odLo, .func (PySem.W.fnOf "_law_losses" "_law_losses" (defArgs sLosses) (defBody sLosses) (defScope sLosses) .none kVLo dcLo pmLo anLo cdLo ctLo), slLo⟩) (cLo : PySem.W.codeIn K cdLo "_law_losses" = true) (kLo : PySem.W.keepIn K (.ref fLo) = true)
    (aSL : PySem.W.nsIn K mainGlobals "_law_shortest" = some (some (.ref fSL)))
    (lSL : K.lookup fSL = some ⟨ocSL, odSL, .func (PySem.W.fnOf "_law_shortest" "_law_shortest" (defArgs sShortest) (defBody sShortest) (defScope sShortest) .none kVSL dcSL pmSL anSL cdSL ctSL), slSL⟩) (cSL : PySem.W.codeIn K cdSL "_law_shortest" = true) (kSL : PySem.W.keepIn K (.ref fSL) = true)
    (aIT : PySem.W.nsIn K mainGlobals "_law_is_tape" = some (some (.ref fIT)))
    (lIT : K.lookup fIT = some ⟨ocIT, odIT, .func (PySem.W.fnOf "_law_is_tape" "_law_is_tape" (defArgs sIsTape) (defBody sIsTape) (defScope sIsTape) .none kVIT dcIT pmIT anIT cdIT ctIT), slIT⟩) (cIT : PySem.W.codeIn K cdIT "_law_is_tape" = true) (kIT : PySem.W.keepIn K (.ref fIT) = true)
    (aRu : PySem.W.nsIn K mainGlobals "_law_runs" = some (some (.ref fRu)))
    (lRu : K.lookup fRu = some ⟨ocRu, odRu, .func (PySem.W.fnOf "_law_runs" "_law_runs" (defArgs sRuns) (defBody sRuns) (defScope sRuns) .none kVRu dcRu pmRu anRu cdRu ctRu), slRu⟩) (cRu : PySem.W.codeIn K cdRu "_law_runs" = true) (kRu : PySem.W.keepIn K (.ref fRu) = true)
    (aLa : PySem.W.nsIn K mainGlobals "law" = some (some (.ref fLa)))
    (lLa : K.lookup fLa = some ⟨ocLa, odLa, .func (PySem.W.fnOf "law" "law" (defArgs sLaw) (defBody sLaw) (defScope sLaw) .none kVLa dcLa pmLa anLa cdLa ctLa), slLa⟩) (cLa : PySem.W.codeIn K cdLa "law" = true) (kLa : PySem.W.keepIn K (.ref fLa) = true)
    (aWI : PySem.W.findIn K (.ref C) "__init__" = some (some (.ref fWI))) (iWI : PySem.W.isFn K (.ref fWI) = true)
    (lWI : K.lookup fWI = some ⟨ocWI, odWI, .func (PySem.W.fnOf "__init__" "Writer.__init__" (defArgs sWInit) (defBody sWInit) (defScope sWInit) .none kVWI dcWI pmWI anWI cdWI ctWI), slWI⟩) (cWI : PySem.W.codeIn K cdWI "Writer.__init__" = true) (kWI : PySem.W.keepIn K (.ref fWI) = true)
    (aWR : PySem.W.findIn K (.ref C) "rest" = some (some (.ref fWR))) (iWR : PySem.W.isFn K (.ref fWR) = true)
    (lWR : K.lookup fWR = some ⟨ocWR, odWR, .func (PySem.W.fnOf "rest" "Writer.rest" (defArgs sRest) (defBody sRest) (defScope sRest) .none kVWR dcWR pmWR anWR cdWR ctWR), slWR⟩) (cWR : PySem.W.codeIn K cdWR "Writer.rest" = true) (kWR : PySem.W.keepIn K (.ref fWR) = true)
    (aWF : PySem.W.findIn K (.ref C) "found" = some (some (.ref fWF))) (iWF : PySem.W.isFn K (.ref fWF) = true)
    (lWF : K.lookup fWF = some ⟨ocWF, odWF, .func (PySem.W.fnOf "found" "Writer.found" (defArgs sFound) (defBody sFound) (defScope sFound) .none kVWF dcWF pmWF anWF cdWF ctWF), slWF⟩) (cWF : PySem.W.codeIn K cdWF "Writer.found" = true) (kWF : PySem.W.keepIn K (.ref fWF) = true)
    (aWA : PySem.W.findIn K (.ref C) "ahead" = some (some (.ref fWA))) (iWA : PySem.W.isFn K (.ref fWA) = true)
    (lWA : K.lookup fWA = some ⟨ocWA, odWA, .func (PySem.W.fnOf "ahead" "Writer.ahead" (defArgs sAhead) (defBody sAhead) (defScope sAhead) .none kVWA dcWA pmWA anWA cdWA ctWA), slWA⟩) (cWA : PySem.W.codeIn K cdWA "Writer.ahead" = true) (kWA : PySem.W.keepIn K (.ref fWA) = true)
    (aWS : PySem.W.findIn K (.ref C) "signed" = some (some (.ref fWS))) (iWS : PySem.W.isFn K (.ref fWS) = true)
    (lWS : K.lookup fWS = some ⟨ocWS, odWS, .func (PySem.W.fnOf "signed" "Writer.signed" (defArgs sSigned) (defBody sSigned) (defScope sSigned) .none kVWS dcWS pmWS anWS cdWS ctWS), slWS⟩) (cWS : PySem.W.codeIn K cdWS "Writer.signed" = true) (kWS : PySem.W.keepIn K (.ref fWS) = true)
    (pg : PySem.W.plainGet K C Str.empty = true) (hd : PySem.W.hasDictIn K C = true) (po : PySem.W.plainOver K C = true) (sa : PySem.W.findIn K (.ref C) "__setattr__" = some (some (.builtin "object.__setattr__"))) (mk : PySem.W.makesIn K C = true) (kc : PySem.W.keepIn K (.ref C) = true)
    (nsets : PySem.W.findIn K (.ref C) "sets" = some none)
    (ntext : PySem.W.findIn K (.ref C) "text" = some none)
    (nmost : PySem.W.findIn K (.ref C) "most" = some none)
    (nknown : PySem.W.findIn K (.ref C) "known" = some none)
    (zlen : PySem.W.nsIn K mainGlobals "len" = some none)
    (zset : PySem.W.nsIn K mainGlobals "set" = some none)
    (zenumerate : PySem.W.nsIn K mainGlobals "enumerate" = some none)
    (zrange : PySem.W.nsIn K mainGlobals "range" = some none)
    (zabs : PySem.W.nsIn K mainGlobals "abs" = some none)
    (zisinstance : PySem.W.nsIn K mainGlobals "isinstance" = some none)
    (zbool : PySem.W.nsIn K mainGlobals "bool" = some none)
    (zint : PySem.W.nsIn K mainGlobals "int" = some none)
    (zstr : PySem.W.nsIn K mainGlobals "str" = some none)
    (ztuple : PySem.W.nsIn K mainGlobals "tuple" = some none)
    (zlist : PySem.W.nsIn K mainGlobals "list" = some none)
    (zall : PySem.W.nsIn K mainGlobals "all" = some none)
    (zmax : PySem.W.nsIn K mainGlobals "max" = some none)
    (zmin : PySem.W.nsIn K mainGlobals "min" = some none)
    (qM1 : PySem.W.nsIn K mainGlobals "MOST_SIGNS" = some (some (.int 10 tM1)))
    (qM2 : PySem.W.nsIn K mainGlobals "MOST_CODES" = some (some (.int 200 tM2)))
    (qM3 : PySem.W.nsIn K mainGlobals "MOST_SPOILT" = some (some (.int 20 tM3))) :
    ∃ fd : FuncData, (∀ (s : Shared) (v : Value), BindsTo s fd ⟨[v], []⟩ [("_law_script", v)]) ∧ ∀ base : Heap, K.In base → base.Ns mainGlobals mg → FnOk l.prog w K mg base CX0 126 fa fd ["_law_script"] (spLaw K) := by
  have e := hfa.symm.trans (PySem.W.mg_of X G aLa)
  cases e
  have B : Bt mg := ⟨PySem.W.mg_none_of X G zlen, PySem.W.mg_none_of X G zset, PySem.W.mg_none_of X G zenumerate, PySem.W.mg_none_of X G zrange, PySem.W.mg_none_of X G zabs, PySem.W.mg_none_of X G zisinstance, PySem.W.mg_none_of X G zbool, PySem.W.mg_none_of X G zint, PySem.W.mg_none_of X G zstr, PySem.W.mg_none_of X G ztuple, PySem.W.mg_none_of X G zlist, PySem.W.mg_none_of X G zall, PySem.W.mg_none_of X G zmax, PySem.W.mg_none_of X G zmin⟩
  have T : WTxt K C := ⟨⟨pg, hd, po, sa⟩, nsets, ntext, nmost, nknown⟩
  have mC := PySem.W.mg_of X G aC
  have FNS := fun_mk (st := sNeedSets) lNS cNS kNS
  have bNS := FNS.binds (ps := ["sets"]) fun _ _ _ _ _ _ us hl => match us, hl with | [_], _ => rfl
  have mNS := PySem.W.mg_of X G aNS
  have FNT := fun_mk (st := sNeedTape) lNT cNT kNT
  have bNT := FNT.binds (ps := ["sets", "tape"]) fun _ _ _ _ _ _ us hl => match us, hl with | [_, _], _ => rfl
  have mNT := PySem.W.mg_of X G aNT
  have FNst := fun_mk (st := sNeedState) lNst cNst kNst
  have bNst := FNst.binds (ps := ["state"]) fun _ _ _ _ _ _ us hl => match us, hl with | [_], _ => rfl
  have mNst := PySem.W.mg_of X G aNst
  have FNA := fun_mk (st := sNeedAll) lNA cNA kNA
  have bNA := FNA.binds (ps := ["sets", "tape", "state"]) fun _ _ _ _ _ _ us hl => match us, hl with | [_, _, _], _ => rfl
  have mNA := PySem.W.mg_of X G aNA
  have FIC := fun_mk (st := sIsCommon) lIC cIC kIC
  have bIC := FIC.binds (ps := ["sets", "code"]) fun _ _ _ _ _ _ us hl => match us, hl with | [_, _], _ => rfl
  have mIC := PySem.W.mg_of X G aIC
  have FGo := fun_mk (st := sGone) lGo cGo kGo
  have bGo := FGo.binds (ps := ["sets", "tape", "state"]) fun _ _ _ _ _ _ us hl => match us, hl with | [_, _, _], _ => rfl
  have mGo := PySem.W.mg_of X G aGo
  have FRe := fun_mk (st := sRead) lRe cRe kRe
  have bRe := FRe.binds (ps := ["sets", "tape", "state"]) fun _ _ _ _ _ _ us hl => match us, hl with | [_, _, _], _ => rfl
  have mRe := PySem.W.mg_of X G aRe
  have FCO := fun_mk (st := sCodesOf) lCO cCO kCO
  have bCO := FCO.binds (ps := ["sets", "sign"]) fun _ _ _ _ _ _ us hl => match us, hl with | [_, _], _ => rfl
  have mCO := PySem.W.mg_of X G aCO
  have FNX := fun_mk (st := sNeedText) lNX cNX kNX
  have bNX := FNX.binds (ps := ["sets", "text"]) fun _ _ _ _ _ _ us hl => match us, hl with | [_, _], _ => rfl
  have mNX := PySem.W.mg_of X G aNX
  have FSh := fun_mk (st := sShorter) lSh cSh kSh
  have bSh := FSh.binds (ps := ["one", "other"]) fun _ _ _ _ _ _ us hl => match us, hl with | [_, _], _ => rfl
  have mSh := PySem.W.mg_of X G aSh
  have FGO := fun_mk (st := sGuardedOf) lGO cGO kGO
  have bGO := FGO.binds (ps := ["sets", "text", "state", "most"]) fun _ _ _ _ _ _ us hl => match us, hl with | [_, _, _, _], _ => rfl
  have mGO := PySem.W.mg_of X G aGO
  have FGu := fun_mk (st := sGuarded) lGu cGu kGu
  have bGu := FGu.binds (ps := ["sets", "text", "state", "most"]) fun _ _ _ _ _ _ us hl => match us, hl with | [_, _, _, _], _ => rfl
  have mGu := PySem.W.mg_of X G aGu
  have FDi := fun_mk (st := sDice) lDi cDi kDi
  have bDi := FDi.binds (ps := ["_law_script", "_law_k"]) fun _ _ _ _ _ _ us hl => match us, hl with | [_, _], _ => rfl
  have mDi := PySem.W.mg_of X G aDi
  have FOf := fun_mk (st := sOff) lOf cOf kOf
  have bOf := FOf.binds (ps := ["_law_d", "_law_most"]) fun _ _ _ _ _ _ us hl => match us, hl with | [_, _], _ => rfl
  have mOf := PySem.W.mg_of X G aOf
  have FAl := fun_mk (st := sAlike) lAl cAl kAl
  have bAl := FAl.binds (ps := ["_law_found", "_law_due"]) fun _ _ _ _ _ _ us hl => match us, hl with | [_, _], _ => rfl
  have mAl := PySem.W.mg_of X G aAl
  have FMi := fun_mk (st := sMixed) lMi cMi kMi
  have bMi := FMi.binds (ps := ["_law_d", "_law_row"]) fun _ _ _ _ _ _ us hl => match us, hl with | [_, _], _ => rfl
  have mMi := PySem.W.mg_of X G aMi
  have FSe := fun_mk (st := sSets) lSe cSe kSe
  have bSe := FSe.binds (ps := ["_law_d"]) fun _ _ _ _ _ _ us hl => match us, hl with | [_], _ => rfl
  have mSe := PySem.W.mg_of X G aSe
  have FTx := fun_mk (st := sTextL) lTx cTx kTx
  have bTx := FTx.binds (ps := ["_law_d", "_law_sets_here", "_law_most"]) fun _ _ _ _ _ _ us hl => match us, hl with | [_, _, _], _ => rfl
  have mTx := PySem.W.mg_of X G aTx
  have FGL := fun_mk (st := sGoneL) lGL cGL kGL
  have bGL := FGL.binds (ps := ["_law_sets_here", "_law_tape", "_law_state"]) fun _ _ _ _ _ _ us hl => match us, hl with | [_, _, _], _ => rfl
  have mGL := PySem.W.mg_of X G aGL
  have FLo := fun_mk (st := sLosses) lLo cLo kLo
  have bLo := FLo.binds (ps := ["_law_sets_here", "_law_tape", "_law_state"]) fun _ _ _ _ _ _ us hl => match us, hl with | [_, _, _], _ => rfl
  have mLo := PySem.W.mg_of X G aLo
  have FSL := fun_mk (st := sShortest) lSL cSL kSL
  have bSL := FSL.binds (ps := ["_law_sets_here", "_law_text_here", "_law_state", "_law_most"]) fun _ _ _ _ _ _ us hl => match us, hl with | [_, _, _, _], _ => rfl
  have mSL := PySem.W.mg_of X G aSL
  have FIT := fun_mk (st := sIsTape) lIT cIT kIT
  have bIT := FIT.binds (ps := ["_law_tape", "_law_sets_here"]) fun _ _ _ _ _ _ us hl => match us, hl with | [_, _], _ => rfl
  have mIT := PySem.W.mg_of X G aIT
  have FRu := fun_mk (st := sRuns) lRu cRu kRu
  have bRu := FRu.binds (ps := ["_law_d", "_law_sets_here"]) fun _ _ _ _ _ _ us hl => match us, hl with | [_, _], _ => rfl
  have mRu := PySem.W.mg_of X G aRu
  have FLa := fun_mk (st := sLaw) lLa cLa kLa
  have FWI := fun_mk (st := sWInit) lWI cWI kWI
  have bWI := FWI.binds (ps := ["self", "sets", "text", "most"]) fun _ _ _ _ _ _ us hl => match us, hl with | [_, _, _, _], _ => rfl
  have FWR := fun_mk (st := sRest) lWR cWR kWR
  have bWR := FWR.binds (ps := ["self", "at", "state", "open_for"]) fun _ _ _ _ _ _ us hl => match us, hl with | [_, _, _, _], _ => rfl
  have mWR : Meth K C "rest" fWR := ⟨aWR, iWR, kWR⟩
  have FWF := fun_mk (st := sFound) lWF cWF kWF
  have bWF := FWF.binds (ps := ["self", "at", "state", "open_for"]) fun _ _ _ _ _ _ us hl => match us, hl with | [_, _, _, _], _ => rfl
  have mWF : Meth K C "found" fWF := ⟨aWF, iWF, kWF⟩
  have FWA := fun_mk (st := sAhead) lWA cWA kWA
  have bWA := FWA.binds (ps := ["self", "codes", "rest"]) fun _ _ _ _ _ _ us hl => match us, hl with | [_, _, _], _ => rfl
  have mWA : Meth K C "ahead" fWA := ⟨aWA, iWA, kWA⟩
  have FWS := fun_mk (st := sSigned) lWS cWS kWS
  have bWS := FWS.binds (ps := ["self", "at", "state", "open_for"]) fun _ _ _ _ _ _ us hl => match us, hl with | [_, _, _, _], _ => rfl
  have mWS : Meth K C "signed" fWS := ⟨aWS, iWS, kWS⟩
  have pM1 := PySem.W.mg_of X G qM1
  have pM2 := PySem.W.mg_of X G qM2
  have pM3 := PySem.W.mg_of X G qM3
  refine ⟨PySem.W.fnOf "law" "law" (defArgs sLaw) (defBody sLaw) (defScope sLaw) .none kVLa dcLa pmLa anLa cdLa ctLa, fun s v => .of_eq rfl, fun base _ _ => ?_⟩
  have gNS := ok_need_sets (P := l.prog) (w := w) (base := base) FNS B pM1
  have gNT := ok_need_tape (P := l.prog) (w := w) (base := base) FNT B pM2
  have gNst := ok_need_state (P := l.prog) (w := w) (base := base) (mg := mg) FNst
  have gNA := ok_need_all FNA gNS mNS kNS bNS gNT mNT kNT bNT gNst mNst kNst bNst
  have gIC := ok_is_common (P := l.prog) (w := w) (base := base) (mg := mg) FIC
  have gGo := ok_gone (P := l.prog) (w := w) (base := base) FGo B
  have gRe := ok_read FRe gNA mNA kNA bNA (gGo.mono (by decide)) mGo kGo bGo
  have gCO := ok_codes_of (P := l.prog) (w := w) (base := base) (mg := mg) FCO
  have gNX := ok_need_text FNX B gCO mCO kCO bCO
  have gSh := ok_shorter (P := l.prog) (w := w) (base := base) FSh B
  have gWI := ok_winit (P := l.prog) (w := w) (base := base) (mg := mg) FWI T
  have gWR := all_rest T B gCO mCO kCO bCO gIC mIC kIC bIC gSh mSh kSh bSh FWA mWA bWA FWS mWS bWS FWF mWF bWF FWR mWR bWR 41
  have gGO := ok_guarded_of FGO T ⟨mk, aWI, iWI, kc⟩ mC gWI bWI gWR mWR bWR
  have gGu := ok_guarded FGu pM3 gNS mNS kNS bNS gNX mNX kNX bNX gNst mNst kNst bNst gGO mGO kGO bGO
  have gDi := ok_dice (P := l.prog) (w := w) (base := base) FDi B
  have gOf := ok_off (P := l.prog) (w := w) (base := base) FOf B
  have gAl := ok_alike2 (P := l.prog) (w := w) (base := base) FAl B mAl bAl
  have gMi := ok_mixed FMi B gOf mOf kOf bOf
  have gSe := ok_sets FSe B gOf mOf kOf bOf gMi mMi kMi bMi
  have gTx := ok_textL FTx B gOf mOf kOf bOf
  have gGL := ok_goneL (P := l.prog) (w := w) (base := base) FGL B
  have gLo := ok_losses FLo B gGL mGL kGL bGL
  have gSL := ok_shortest (P := l.prog) (w := w) (base := base) FSL B
  have gIT := ok_is_tape (P := l.prog) (w := w) (base := base) FIT B
  have gRu := ok_runs FRu B gOf mOf kOf bOf
  exact ok_law FLa B gDi mDi kDi bDi gSe mSe kSe bSe gTx mTx kTx bTx gOf mOf kOf bOf gRu mRu kRu bRu gGu mGu kGu bGu gIT mIT kIT bIT gRe mRe kRe bRe gLo mLo kLo bLo gAl mAl kAl bAl gSL mSL kSL bSL
theorem walk {l : PySem.W.OpenLaw} {q : Program} {loose : List Str} {XP : (Str → Option Value) → Heap → Prop} {YP : World → Heap → Prop} {d : DefRec} {K : Params → PySem.W.Frag} (hn : l.most = some 63) (hdf : d.params.defaults = [])
    (hY : ∀ (w : World) (h : Heap), YP w h → (K w.params).In h)
    (F : ∀ (w : World) (mg : Str → Option Value) (fa : Addr) (h : Heap), (K w.params).In h → h.Ns mainGlobals mg → mg d.name = some (.ref fa) →
      ∃ fd : FuncData, (∀ (s : Shared) (u : Value), BindsTo s fd ⟨[u], []⟩ [("_law_script", u)]) ∧ ∀ base : Heap, (K w.params).In base → base.Ns mainGlobals mg → FnOk l.prog w (K w.params) mg base CX0 126 fa fd ["_law_script"] (spLaw (K w.params))) :
    PySem.W.WalkO q loose XP YP l.row.toRowW d [] (fun f vs => PySem.call f vs) :=
  L2.walk_of (n := 63) (k := 126) (x := "_law_script") (CX := fun _ => CX0) (sp := fun w => spLaw (K w.params)) hn (by decide) hdf ⟨rfl, by decide, by decide⟩ hY F (fun _ _ a ns hl _ hS => ⟨a, ns, rfl, hS, hl, fun _ => rfl⟩) fun _ _ _ _ _ z => z
end SR

open PySem PySem.W PyProof.Rows
set_option maxRecDepth 100000 in
set_option maxHeartbeats 0 in
theorem PySem.Challenge.cw_shiftrow_k06_whole_guarded_holds : PySem.Challenge.rw_shiftrow_k06_whole_guarded.Holds := by
  w_on; o_law; k_head; (case hw => w_witness2)
  k_fill
  refine SR.walk (l := PySem.Challenge.rw_shiftrow_k06_whole_guarded) rfl rfl (fun w h Y => PySem.W.kIn_of Y) ?F
  case F =>
    intro w mg fa h KX G hmg
    refine' SR.all_mk KX G hmg ?aC ?aNS ?lNS ?cNS ?kNS ?aNT ?lNT ?cNT ?kNT ?aNst ?lNst ?cNst ?kNst ?aNA ?lNA ?cNA ?kNA ?aIC ?lIC ?cIC ?kIC ?aGo ?lGo ?cGo ?kGo ?aRe ?lRe ?cRe ?kRe ?aCO ?lCO ?cCO ?kCO ?aNX ?lNX ?cNX ?kNX ?aSh ?lSh ?cSh ?kSh ?aGO ?lGO ?cGO ?kGO ?aGu ?lGu ?cGu ?kGu ?aDi ?lDi ?cDi ?kDi ?aOf ?lOf ?cOf ?kOf ?aAl ?lAl ?cAl ?kAl ?aMi ?lMi ?cMi ?kMi ?aSe ?lSe ?cSe ?kSe ?aTx ?lTx ?cTx ?kTx ?aGL ?lGL ?cGL ?kGL ?aLo ?lLo ?cLo ?kLo ?aSL ?lSL ?cSL ?kSL ?aIT ?lIT ?cIT ?kIT ?aRu ?lRu ?cRu ?kRu ?aLa ?lLa ?cLa ?kLa ?aWI ?iWI ?lWI ?cWI ?kWI ?aWR ?iWR ?lWR ?cWR ?kWR ?aWF ?iWF ?lWF ?cWF ?kWF ?aWA ?iWA ?lWA ?cWA ?kWA ?aWS ?iWS ?lWS ?cWS ?kWS ?pg ?hd ?po ?sa ?mk ?kc ?nsets ?ntext ?nmost ?nknown ?zlen ?zset ?zenumerate ?zrange ?zabs ?zisinstance ?zbool ?zint ?zstr ?ztuple ?zlist ?zall ?zmax ?zmin ?qM1 ?qM2 ?qM3
    (case aC => k_is); (case aNS => k_is); (case lNS => k_is); (case cNS => k_is); (case kNS => k_is); (case aNT => k_is)
    (case lNT => k_is); (case cNT => k_is); (case kNT => k_is); (case aNst => k_is); (case lNst => k_is); (case cNst => k_is)
    (case kNst => k_is); (case aNA => k_is); (case lNA => k_is); (case cNA => k_is); (case kNA => k_is); (case aIC => k_is)
    (case lIC => k_is); (case cIC => k_is); (case kIC => k_is); (case aGo => k_is); (case lGo => k_is); (case cGo => k_is)
    (case kGo => k_is); (case aRe => k_is); (case lRe => k_is); (case cRe => k_is); (case kRe => k_is); (case aCO => k_is)
    (case lCO => k_is); (case cCO => k_is); (case kCO => k_is); (case aNX => k_is); (case lNX => k_is); (case cNX => k_is)
    (case kNX => k_is); (case aSh => k_is); (case lSh => k_is); (case cSh => k_is); (case kSh => k_is); (case aGO => k_is)
    (case lGO => k_is); (case cGO => k_is); (case kGO => k_is); (case aGu => k_is); (case lGu => k_is); (case cGu => k_is)
    (case kGu => k_is); (case aDi => k_is); (case lDi => k_is); (case cDi => k_is); (case kDi => k_is); (case aOf => k_is)
    (case lOf => k_is); (case cOf => k_is); (case kOf => k_is); (case aAl => k_is); (case lAl => k_is); (case cAl => k_is)
    (case kAl => k_is); (case aMi => k_is); (case lMi => k_is); (case cMi => k_is); (case kMi => k_is); (case aSe => k_is)
    (case lSe => k_is); (case cSe => k_is); (case kSe => k_is); (case aTx => k_is); (case lTx => k_is); (case cTx => k_is)
    (case kTx => k_is); (case aGL => k_is); (case lGL => k_is); (case cGL => k_is); (case kGL => k_is); (case aLo => k_is)
    (case lLo => k_is); (case cLo => k_is); (case kLo => k_is); (case aSL => k_is); (case lSL => k_is); (case cSL => k_is)
    (case kSL => k_is); (case aIT => k_is); (case lIT => k_is); (case cIT => k_is); (case kIT => k_is); (case aRu => k_is)
    (case lRu => k_is); (case cRu => k_is); (case kRu => k_is); (case aLa => k_is); (case lLa => k_is); (case cLa => k_is)
    (case kLa => k_is); (case aWI => k_is); (case iWI => k_is); (case lWI => k_is); (case cWI => k_is); (case kWI => k_is)
    (case aWR => k_is); (case iWR => k_is); (case lWR => k_is); (case cWR => k_is); (case kWR => k_is); (case aWF => k_is)
    (case iWF => k_is); (case lWF => k_is); (case cWF => k_is); (case kWF => k_is); (case aWA => k_is); (case iWA => k_is)
    (case lWA => k_is); (case cWA => k_is); (case kWA => k_is); (case aWS => k_is); (case iWS => k_is); (case lWS => k_is)
    (case cWS => k_is); (case kWS => k_is); (case pg => k_is); (case hd => k_is); (case po => k_is); (case sa => k_is)
    (case mk => k_is); (case kc => k_is); (case nsets => k_is); (case ntext => k_is); (case nmost => k_is); (case nknown => k_is)
    (case zlen => k_is); (case zset => k_is); (case zenumerate => k_is); (case zrange => k_is); (case zabs => k_is); (case zisinstance => k_is)
    (case zbool => k_is); (case zint => k_is); (case zstr => k_is); (case ztuple => k_is); (case zlist => k_is); (case zall => k_is)
    (case zmax => k_is); (case zmin => k_is); (case qM1 => k_is); (case qM2 => k_is); (case qM3 => k_is)
#print axioms PySem.Challenge.cw_shiftrow_k06_whole_guarded_holds

