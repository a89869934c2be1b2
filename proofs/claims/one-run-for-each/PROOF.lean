import PyProof.Rows.All
import Wide.All
import OpenK.AllK
import Wide.FinOn
import HandS.ForMost
import HandS.AnyAll
import HandS.GenList
import PyProof.TupleOfGen
import PyProof.ConsumeS
import HandS.Walk
import KE.GoesMore
import HandS.Sort
import HandS.SortOrd
import HandS.DictTup
import KE.DataMinMax
import KE.KDictDisplayH
import HandS.TupMul
import HandS.TupAny
import KE.KDictPairs
import HandS.SetFor
import HandS.Strs
import HandS.Style
import PySem.Challenge.RW_traceclasses_k97_whole_one_run_for_each
import HandS.Zip
import HandS.Deep
import KE.SortData
import HandS.IsInst
import HandS.Head0
import HandS.Head1
import HandS.Head2
import HandS.HeadEnd
import HandS.HeadHook1
import HandS.HeadHook2
import HandS.HeadHook3
import HandS.HeadHook4
import HandS.HeadWalk
import HandS.Defaults
import KE.KNestM
set_option Elab.async false
set_option linter.all false
set_option maxRecDepth 100000
/-! TcA: steps, dependence, the pulling of steps to the front, and the folds that do not see it. -/
namespace TC
/-- a step of a thread; names are code points -/
inductive Step where
  | add (x : Nat) (n : Int)
  | copy (x y : Nat)
  | wait (x : Nat) (n : Int)
  | look (x : Nat)
  deriving DecidableEq, Inhabited
abbrev Env := List (Nat × Int)
def eget (e : Env) (x : Nat) : Int := (e.lookup x).getD 0
def eset (e : Env) (x : Nat) (v : Int) : Env := e.map fun p => if p.1 = x then (x, v) else p
def chg : Step → Option Nat
  | .add x _ => some x
  | .copy x _ => some x
  | _ => none
def tch : Step → List Nat
  | .add x _ => [x]
  | .copy x y => [x, y]
  | .wait x _ => [x]
  | .look x => [x]
def hit (o : Option Nat) (l : List Nat) : Bool := match o with
  | some x => decide (x ∈ l)
  | none => false
def dep (a b : Step) : Bool := hit (chg a) (tch b) || hit (chg b) (tch a)
def en (s : Step) (e : Env) : Bool := match s with
  | .wait x n => decide (n ≤ eget e x)
  | _ => true
def app (e : Env) (s : Step) : Env := match s with
  | .add x n => eset e x (eget e x + n)
  | .copy x y => eset e x (eget e y)
  | _ => e

theorem dep_comm (a b : Step) : dep a b = dep b a := by
  unfold dep; exact Bool.or_comm _ _
theorem eget_eset_ne {e : Env} {x y : Nat} {v : Int} (h : y ≠ x) : eget (eset e x v) y = eget e y := by
  unfold eget eset
  congr 1
  induction e with
  | nil => rfl
  | cons p r ih =>
    obtain ⟨k, w⟩ := p
    by_cases hk : k = x
    · subst hk
      have hb : (y == k) = false := by simpa using h
      simp [List.lookup, hb]
      exact ih
    · simp only [List.map_cons, if_neg hk, List.lookup]
      cases hb : y == k with
      | true => rfl
      | false => exact ih
theorem eset_comm {e : Env} {x y : Nat} {v w : Int} (h : x ≠ y) : eset (eset e x v) y w = eset (eset e y w) x v := by
  unfold eset
  rw [List.map_map, List.map_map]
  apply List.map_congr_left
  intro p _
  simp only [Function.comp]
  by_cases h1 : p.1 = x
  · have h2 : ¬ p.1 = y := fun q => h (h1.symm.trans q)
    simp [h1, h]
  · by_cases h2 : p.1 = y
    · simp [h2, Ne.symm h]
    · simp [h1, h2]
theorem hit_false {x : Nat} {l : List Nat} (h : hit (some x) l = false) : x ∉ l := by
  simpa [hit] using h
theorem eget_app {a : Step} {l : List Nat} (e : Env) (h : hit (chg a) l = false) {x : Nat} (hx : x ∈ l) : eget (app e a) x = eget e x := by
  have key : ∀ z, chg a = some z → x ≠ z := fun z hz q => by
    rw [hz, q.symm] at h
    exact hit_false h hx
  cases a with
  | add z n => exact eget_eset_ne (key z rfl)
  | copy z y => exact eget_eset_ne (key z rfl)
  | wait z n => rfl
  | look z => rfl
theorem en_app {a b : Step} (e : Env) (h : dep a b = false) : en b (app e a) = en b e := by
  unfold dep at h
  rw [Bool.or_eq_false_iff] at h
  cases b with
  | wait x n =>
    show decide (n ≤ eget (app e a) x) = decide (n ≤ eget e x)
    rw [eget_app e h.1 (by simp [tch])]
  | _ => rfl
/-- steps that are not dependent: either order, the same values -/
theorem app_comm {a b : Step} (e : Env) (h : dep a b = false) : app (app e a) b = app (app e b) a := by
  unfold dep at h
  rw [Bool.or_eq_false_iff] at h
  obtain ⟨h1, h2⟩ := h
  have ga : ∀ x ∈ tch b, eget (app e a) x = eget e x := fun x hx => eget_app e h1 hx
  have gb : ∀ x ∈ tch a, eget (app e b) x = eget e x := fun x hx => eget_app e h2 hx
  have ne : ∀ x y, chg a = some x → chg b = some y → x ≠ y := fun x y hx hy q => by
    rw [hx] at h1
    refine hit_false h1 ?_
    subst q
    cases b <;> simp only [chg, Option.some.injEq, reduceCtorEq] at hy <;> subst hy <;> simp [tch]
  cases a with
  | wait x n => rfl
  | look x => rfl
  | add x n =>
    cases b with
    | wait y m => rfl
    | look y => rfl
    | add y m =>
      show eset (app e (.add x n)) y (eget (app e (.add x n)) y + m) = eset (app e (.add y m)) x (eget (app e (.add y m)) x + n)
      rw [ga y (by simp [tch]), gb x (by simp [tch])]
      exact eset_comm (ne x y rfl rfl)
    | copy y z =>
      show eset (app e (.add x n)) y (eget (app e (.add x n)) z) = eset (app e (.copy y z)) x (eget (app e (.copy y z)) x + n)
      rw [ga z (by simp [tch]), gb x (by simp [tch])]
      exact eset_comm (ne x y rfl rfl)
  | copy x u =>
    cases b with
    | wait y m => rfl
    | look y => rfl
    | add y m =>
      show eset (app e (.copy x u)) y (eget (app e (.copy x u)) y + m) = eset (app e (.add y m)) x (eget (app e (.add y m)) u)
      rw [ga y (by simp [tch]), gb u (by simp [tch])]
      exact eset_comm (ne x y rfl rfl)
    | copy y z =>
      show eset (app e (.copy x u)) y (eget (app e (.copy x u)) z) = eset (app e (.copy y z)) x (eget (app e (.copy y z)) u)
      rw [ga z (by simp [tch]), gb u (by simp [tch])]
      exact eset_comm (ne x y rfl rfl)

/-! ### pulling -/
abbrev Thr := List (List Step)
abbrev Cnt := Nat → Nat
def stp (P : Thr) (t i : Nat) : Option Step := (P.getD t [])[i]?
def bump (c : Cnt) (t : Nat) : Cnt := fun u => if u = t then c u + 1 else c u
theorem bump_self (c : Cnt) (t : Nat) : bump c t t = c t + 1 := by simp [bump]
theorem bump_ne (c : Cnt) {t u : Nat} (h : u ≠ t) : bump c t u = c u := by simp [bump, h]
theorem bump_comm (c : Cnt) (a b : Nat) : bump (bump c a) b = bump (bump c b) a := by
  funext u; unfold bump
  by_cases h1 : u = a
  · subst h1
    by_cases h2 : u = b
    · subst h2; rfl
    · simp [h2]
  · by_cases h2 : u = b
    · subst h2; simp [h1]
    · simp [h1, h2]
/-- the next steps of a and b exist, are of unlike threads and not dependent -/
def ind (P : Thr) (c : Cnt) (a b : Nat) : Bool := decide (a ≠ b) && match stp P a (c a), stp P b (c b) with
  | some x, some y => !dep x y
  | _, _ => false
theorem ind_comm (P : Thr) (c : Cnt) (a b : Nat) : ind P c a b = ind P c b a := by
  unfold ind
  have e : decide (a ≠ b) = decide (b ≠ a) := by
    by_cases h : a = b
    · simp [h]
    · have h' : b ≠ a := fun q => h q.symm
      simp [h, h']
  rw [e]
  congr 1
  cases stp P a (c a) <;> cases stp P b (c b) <;> simp [dep_comm]
theorem ind_ne {P : Thr} {c : Cnt} {a b : Nat} (h : ind P c a b = true) : a ≠ b := by
  unfold ind at h
  simp only [Bool.and_eq_true, decide_eq_true_eq] at h
  exact h.1
theorem ind_some {P : Thr} {c : Cnt} {a b : Nat} (h : ind P c a b = true) : ∃ x y, stp P a (c a) = some x ∧ stp P b (c b) = some y ∧ dep x y = false := by
  unfold ind at h
  simp only [Bool.and_eq_true, decide_eq_true_eq] at h
  obtain ⟨_, h⟩ := h
  cases h1 : stp P a (c a) with
  | none => rw [h1] at h; simp at h
  | some x =>
    cases h2 : stp P b (c b) with
    | none => rw [h1, h2] at h; simp at h
    | some y =>
      rw [h1, h2] at h
      exact ⟨x, y, rfl, rfl, by simpa using h⟩
theorem ind_bump {P : Thr} {c : Cnt} {a b t : Nat} (ha : a ≠ t) (hb : b ≠ t) : ind P (bump c t) a b = ind P c a b := by
  unfold ind; rw [bump_ne c ha, bump_ne c hb]
/-- may o be pulled to the front of v? -/
def fr (P : Thr) : Cnt → List Nat → Nat → Bool
  | _, [], _ => false
  | c, t :: v, o => decide (o = t) || (ind P c o t && fr P (bump c t) v o)
theorem fr_head (P : Thr) (c : Cnt) (t : Nat) (v : List Nat) : fr P c (t :: v) t = true := by simp [fr]
theorem fr_cons_ne {P : Thr} {c : Cnt} {t o : Nat} {v : List Nat} (h : o ≠ t) : fr P c (t :: v) o = (ind P c o t && fr P (bump c t) v o) := by simp [fr, h]
theorem fr_mem {P : Thr} : ∀ {v : List Nat} {c : Cnt} {o : Nat}, fr P c v o = true → o ∈ v
  | [], _, _, h => by simp [fr] at h
  | t :: v, c, o, h => by
    by_cases e : o = t
    · rw [e]; exact List.mem_cons_self
    · rw [fr_cons_ne e, Bool.and_eq_true] at h
      exact List.mem_cons_of_mem _ (fr_mem h.2)
/-- pulling keeps what may be pulled -/
theorem fr_pull {P : Thr} : ∀ {v : List Nat} {c : Cnt} {t : Nat}, fr P c v t = true → ∀ o, fr P c v o = fr P c (t :: v.erase t) o
  | [], _, _, h, _ => by simp [fr] at h
  | s :: v, c, t, h, o => by
    by_cases e : s = t
    · subst e; simp
    · have e' : t ≠ s := fun q => e q.symm
      have he : (s :: v).erase t = s :: v.erase t := by
        rw [List.erase_cons_tail]; simpa using e
      rw [fr_cons_ne e', Bool.and_eq_true] at h
      obtain ⟨hi, hf⟩ := h
      have ih := fr_pull hf
      rw [he]
      by_cases o1 : o = s
      · subst o1
        rw [fr_head, fr_cons_ne e, fr_head, Bool.and_true, ind_comm, hi]
      · by_cases o2 : o = t
        · subst o2
          rw [fr_head, fr_cons_ne e', hi, hf]; rfl
        · rw [fr_cons_ne o1, ih o, fr_cons_ne o2, fr_cons_ne o2, fr_cons_ne o1, bump_comm, ind_bump o1 (fun q => e' q), ind_bump o2 (fun q => e q)]
          cases ind P c o s <;> cases ind P c o t <;> simp
/-- a fold that does not see the order of independent steps does not see a pull -/
theorem fold_pull {P : Thr} {α : Type} (cnt : α → Cnt) (f : α → Nat → α) (hc : ∀ x t, cnt (f x t) = bump (cnt x) t)
    (comm : ∀ x a b, ind P (cnt x) a b = true → f (f x a) b = f (f x b) a) : ∀ (v : List Nat) (x : α) (t : Nat), fr P (cnt x) v t = true → v.foldl f x = (t :: v.erase t).foldl f x
  | [], _, _, h => by simp [fr] at h
  | s :: v, x, t, h => by
    by_cases e : s = t
    · subst e; simp
    · have e' : t ≠ s := fun q => e q.symm
      have he : (s :: v).erase t = s :: v.erase t := by
        rw [List.erase_cons_tail]; simpa using e
      rw [fr_cons_ne e', Bool.and_eq_true] at h
      obtain ⟨hi, hf⟩ := h
      rw [← hc] at hf
      have ih := fold_pull cnt f hc comm v (f x s) t hf
      rw [he, List.foldl_cons, ih, List.foldl_cons, List.foldl_cons, List.foldl_cons]
      rw [comm x s t (by rw [ind_comm]; exact hi)]
def bumps (c : Cnt) (x : List Nat) : Cnt := x.foldl bump c
/-- x has been pulled out of w, one step behind the other; v is what is left -/
inductive Pull (P : Thr) (c : Cnt) (w : List Nat) : List Nat → List Nat → Prop
  | nil : Pull P c w [] w
  | snoc {x v : List Nat} {t : Nat} : Pull P c w x v → fr P (bumps c x) v t = true → Pull P c w (x ++ [t]) (v.erase t)
theorem cnt_fold {α : Type} (cnt : α → Cnt) (f : α → Nat → α) (hc : ∀ x t, cnt (f x t) = bump (cnt x) t) : ∀ (x : List Nat) (s : α), cnt (x.foldl f s) = bumps (cnt s) x
  | [], _ => rfl
  | t :: x, s => by
    rw [List.foldl_cons, cnt_fold cnt f hc x, hc]; rfl
theorem Pull.fold {P : Thr} {c : Cnt} {w x v : List Nat} (h : Pull P c w x v) {α : Type} (cnt : α → Cnt) (f : α → Nat → α) (hc : ∀ x t, cnt (f x t) = bump (cnt x) t)
    (comm : ∀ x a b, ind P (cnt x) a b = true → f (f x a) b = f (f x b) a) (s : α) (hs : cnt s = c) : w.foldl f s = (x ++ v).foldl f s := by
  induction h with
  | nil => rfl
  | @snoc x v t _ hf ih =>
    rw [ih, List.foldl_append, List.append_assoc, List.foldl_append]
    rw [fold_pull cnt f hc comm v _ t (by rw [cnt_fold cnt f hc, hs]; exact hf)]
    rfl
theorem Pull.len {P : Thr} {c : Cnt} {w x v : List Nat} (h : Pull P c w x v) : x.length + v.length = w.length := by
  induction h with
  | nil => simp
  | @snoc x v t _ hf ih =>
    have := List.length_erase_of_mem (fr_mem hf)
    have : 0 < v.length := List.length_pos_of_mem (fr_mem hf)
    rw [List.length_append, List.length_singleton]; omega
theorem Pull.trans {P : Thr} {c : Cnt} {w x v y u : List Nat} (h : Pull P c w x v) (g : Pull P (bumps c x) v y u) : Pull P c w (x ++ y) u := by
  induction g with
  | nil => rw [List.append_nil]; exact h
  | @snoc y u t _ hf ih =>
    rw [← List.append_assoc]
    refine .snoc ih ?_
    have : bumps c (x ++ y) = bumps (bumps c x) y := by unfold bumps; rw [List.foldl_append]
    rw [this]; exact hf
/-- the word itself is such a row of pulls -/
theorem Pull.self {P : Thr} : ∀ (x v : List Nat) (c : Cnt), Pull P c (x ++ v) x v := by
  intro x
  induction x with
  | nil => intro v c; exact .nil
  | cons t x ih =>
    intro v c
    have h1 : Pull P c (t :: (x ++ v)) ([] ++ [t]) ((t :: (x ++ v)).erase t) := .snoc .nil (fr_head ..)
    rw [List.erase_cons_head] at h1
    exact h1.trans (ih v _)

/-! ### normal forms -/
inductive NF (P : Thr) : Cnt → List Nat → List Nat → Prop
  | nil {c : Cnt} : NF P c [] []
  | cons {c : Cnt} {v w : List Nat} {t : Nat} : fr P c v t = true → (∀ o, o < t → fr P c v o = false) → NF P (bump c t) (v.erase t) w → NF P c v (t :: w)
theorem NF.uniq {P : Thr} {c : Cnt} {v w w' : List Nat} (h : NF P c v w) (g : NF P c v w') : w = w' := by
  induction h generalizing w' with
  | nil =>
    cases g with
    | nil => rfl
    | cons hf _ _ => simp [fr] at hf
  | @cons c v w t hf hl _ ih =>
    cases g with
    | nil => simp [fr] at hf
    | @cons _ _ w2 t2 hf2 hl2 g2 =>
      have : t = t2 := by
        rcases Nat.lt_trichotomy t t2 with q | q | q
        · rw [hl2 t q] at hf; cases hf
        · exact q
        · rw [hl t2 q] at hf2; cases hf2
      subst this
      rw [ih g2]
theorem NF.pull {P : Thr} {c : Cnt} {v w : List Nat} (h : NF P c v w) : Pull P c v w [] := by
  induction h with
  | nil => exact .nil
  | @cons c v w t hf hl _ ih =>
    have h1 : Pull P c v ([] ++ [t]) (v.erase t) := .snoc .nil hf
    exact h1.trans ih
theorem NF.fr_eq {P : Thr} {c : Cnt} {v w : List Nat} (h : NF P c v w) : ∀ o, fr P c v o = fr P c w o := by
  induction h with
  | nil => intro o; rfl
  | @cons c v w t hf hl _ ih =>
    intro o
    rw [fr_pull hf o]
    by_cases e : o = t
    · subst e; rw [fr_head, fr_head]
    · rw [fr_cons_ne e, fr_cons_ne e, ih o]
theorem NF.idem {P : Thr} {c : Cnt} {v w : List Nat} (h : NF P c v w) : NF P c w w := by
  induction h with
  | nil => exact .nil
  | @cons c v w t hf hl h' ih =>
    have e := NF.fr_eq (NF.cons hf hl h')
    refine .cons (fr_head ..) (fun o ho => by rw [← e o]; exact hl o ho) ?_
    rw [List.erase_cons_head]; exact ih

/-! ### threads asleep -/
/-- the threads barred behind t -/
def sleepy (P : Thr) (c : Cnt) (B : Nat → Bool) (t : Nat) : Nat → Bool := fun o => (B o || decide (o < t)) && ind P c o t
def good (P : Thr) : Cnt → (Nat → Bool) → List Nat → Bool
  | _, _, [] => true
  | c, B, t :: v => !B t && good P (bump c t) (sleepy P c B t) v
theorem good_iff {P : Thr} : ∀ (v : List Nat) (c : Cnt) (B : Nat → Bool), good P c B v = true ↔ (∀ o, B o = true → fr P c v o = false) ∧ good P c (fun _ => false) v = true
  | [], c, B => by simp [good, fr]
  | t :: v, c, B => by
    have i1 := good_iff (P := P) v (bump c t) (sleepy P c B t)
    have i2 := good_iff (P := P) v (bump c t) (sleepy P c (fun _ => false) t)
    simp only [good, Bool.not_false, Bool.true_and, Bool.and_eq_true, Bool.not_eq_true']
    rw [i1, i2]
    constructor
    · rintro ⟨h1, h2, h3⟩
      refine ⟨fun o ho => ?_, fun o ho => h2 o ?_, h3⟩
      · have e : o ≠ t := fun q => by rw [q, h1] at ho; cases ho
        rw [fr_cons_ne e]
        cases hi : ind P c o t with
        | false => rfl
        | true => rw [h2 o (by simp [sleepy, ho, hi])]; rfl
      · simp only [sleepy, Bool.false_or, Bool.and_eq_true] at ho
        simp [sleepy, ho.1, ho.2]
    · rintro ⟨h1, h2, h3⟩
      have hB : B t = false := by
        cases hb : B t with
        | false => rfl
        | true => have := h1 t hb; rw [fr_head] at this; cases this
      refine ⟨hB, fun o ho => ?_, h3⟩
      simp only [sleepy, Bool.and_eq_true, Bool.or_eq_true] at ho
      obtain ⟨ho, hi⟩ := ho
      rcases ho with ho | ho
      · have := h1 o ho
        rw [fr_cons_ne (ind_ne hi), hi, Bool.true_and] at this
        exact this
      · exact h2 o (by simp [sleepy, ho, hi])
theorem good_nf {P : Thr} : ∀ (v : List Nat) (c : Cnt), good P c (fun _ => false) v = true ↔ NF P c v v
  | [], c => by simp [good]; exact .nil
  | t :: v, c => by
    have ih := good_nf (P := P) v (bump c t)
    simp only [good, Bool.not_false, Bool.true_and]
    rw [good_iff, ih]
    constructor
    · rintro ⟨h1, h2⟩
      refine .cons (fr_head ..) (fun o ho => ?_) (by rw [List.erase_cons_head]; exact h2)
      rw [fr_cons_ne (Nat.ne_of_lt ho)]
      cases hi : ind P c o t with
      | false => rfl
      | true =>
        rw [h1 o (by simp only [sleepy, Bool.false_or, Bool.and_eq_true]; exact ⟨by simpa using ho, hi⟩)]; rfl
    · intro h
      cases h with
      | cons hf hl h' =>
        rw [List.erase_cons_head] at h'
        refine ⟨fun o ho => ?_, h'⟩
        simp only [sleepy, Bool.false_or, Bool.and_eq_true, decide_eq_true_eq] at ho
        have := hl o ho.1
        rw [fr_cons_ne (ind_ne ho.2), ho.2, Bool.true_and] at this
        exact this
end TC

/-! TcB: what stands before what, clocks, the next cuts. -/
namespace TC
def nxt (P : Thr) (d : List Nat) (t : Nat) : Option Step := stp P t (d.getD t 0)
def poss (P : Thr) (e : Env) (d : List Nat) (t : Nat) : Bool := match nxt P d t with
  | some s => en s e
  | none => false
def inc (d : List Nat) (t : Nat) : List Nat := d.set t (d.getD t 0 + 1)
def cf (d : List Nat) : Cnt := fun t => d.getD t 0
theorem inc_length (d : List Nat) (t : Nat) : (inc d t).length = d.length := List.length_set
theorem inc_getD {d : List Nat} {t u : Nat} (h : t < d.length) : (inc d t).getD u 0 = bump (cf d) t u := by
  unfold inc bump cf
  by_cases e : u = t
  · subst e
    rw [List.getD_eq_getElem?_getD, List.getElem?_set_self h]; simp
  · rw [List.getD_eq_getElem?_getD, List.getElem?_set_ne (fun q => e q.symm), if_neg e, ← List.getD_eq_getElem?_getD]
theorem cf_inc {d : List Nat} {t : Nat} (h : t < d.length) : cf (inc d t) = bump (cf d) t := by
  funext u; exact inc_getD h
theorem stp_lt {P : Thr} {t i : Nat} {s : Step} (h : stp P t i = some s) : t < P.length := by
  unfold stp at h
  by_cases q : t < P.length
  · exact q
  · have e : P[t]? = none := List.getElem?_eq_none (by omega)
    rw [List.getD_eq_getElem?_getD, e] at h
    simp at h
/-- the state by its counts -/
theorem cf_ext {d d' : List Nat} (hl : d.length = d'.length) (h : cf d = cf d') : d = d' := by
  refine List.ext_getElem hl fun i h1 h2 => ?_
  have := congrFun h i
  unfold cf at this
  rw [List.getD_eq_getElem?_getD, List.getD_eq_getElem?_getD, List.getElem?_eq_getElem h1, List.getElem?_eq_getElem h2] at this
  simpa using this

/-! ### events -/
def evt (w : List Nat) (k : Nat) : Nat × Nat := (w.getD k 0, (w.take k).count (w.getD k 0))
theorem take_succ {w : List Nat} {k : Nat} (h : k < w.length) : w.take (k + 1) = w.take k ++ [w.getD k 0] := by
  rw [List.take_add_one, List.getElem?_eq_getElem h]
  simp [List.getD_eq_getElem?_getD, List.getElem?_eq_getElem h]
theorem count_take_succ {w : List Nat} {k : Nat} (h : k < w.length) (u : Nat) : (w.take (k + 1)).count u = (w.take k).count u + if u = w.getD k 0 then 1 else 0 := by
  rw [take_succ h, List.count_append, List.count_singleton]
  by_cases e : u = w.getD k 0
  · simp [e]
  · have : (w.getD k 0 == u) = false := beq_eq_false_iff_ne.mpr fun q => e q.symm
    rw [this, if_neg e]; rfl
theorem count_take_mono {w : List Nat} {j k : Nat} (u : Nat) (h : j ≤ k) : (w.take j).count u ≤ (w.take k).count u := by
  have : w.take j = (w.take k).take j := by rw [List.take_take, Nat.min_eq_left h]
  rw [this]
  exact List.Sublist.count_le u (List.take_sublist j _)
theorem evt_lt {w : List Nat} {j k : Nat} (hj : j < k) (hk : j < w.length) : (evt w j).2 < (w.take k).count (evt w j).1 := by
  have h1 := count_take_succ hk (w.getD j 0)
  rw [if_pos rfl] at h1
  have h2 := count_take_mono (w := w) (w.getD j 0) (show j + 1 ≤ k from hj)
  show (w.take j).count (w.getD j 0) < _
  have : (evt w j).1 = w.getD j 0 := rfl
  rw [this]; omega
theorem evt_inj {w : List Nat} {j k : Nat} (hj : j < w.length) (hk : k < w.length) (h : evt w j = evt w k) : j = k := by
  rcases Nat.lt_trichotomy j k with q | q | q
  · have := evt_lt q hj
    rw [h] at this
    exact absurd this (Nat.lt_irrefl _)
  · exact q
  · have := evt_lt q hk
    rw [← h] at this
    exact absurd this (Nat.lt_irrefl _)
theorem evt_of {w : List Nat} {u i : Nat} : ∀ {k : Nat}, k ≤ w.length → i < (w.take k).count u → ∃ j, j < k ∧ evt w j = (u, i)
  | 0, _, h => by simp at h
  | k + 1, hk, h => by
    have hk' : k < w.length := hk
    rw [count_take_succ hk' u] at h
    by_cases e : u = w.getD k 0
    · rw [if_pos e] at h
      by_cases q : i < (w.take k).count u
      · obtain ⟨j, h1, h2⟩ := evt_of (Nat.le_of_lt hk') q
        exact ⟨j, by omega, h2⟩
      · refine ⟨k, by omega, ?_⟩
        unfold evt
        rw [← e]
        have : (w.take k).count u = i := by omega
        rw [this]
    · rw [if_neg e] at h
      obtain ⟨j, h1, h2⟩ := evt_of (Nat.le_of_lt hk') (by omega)
      exact ⟨j, by omega, h2⟩
theorem bumps_count : ∀ (x : List Nat) (c : Cnt) (u : Nat), bumps c x u = c u + x.count u
  | [], c, u => by simp [bumps]
  | t :: x, c, u => by
    show bumps (bump c t) x u = _
    rw [bumps_count x]
    unfold bump
    by_cases e : u = t
    · subst e; simp; omega
    · have : (t == u) = false := by simpa using fun q => e q.symm
      simp [e, List.count_cons, this]

/-! ### before -/
abbrev Bef := Nat → Nat → Nat → Nat → Prop
def DP (P : Thr) (v k t i : Nat) : Prop := v = t ∨ ∃ a b, stp P v k = some a ∧ stp P t i = some b ∧ dep a b = true
def newB (P : Thr) (c : Cnt) (F : Bef) (t i : Nat) : Nat → Nat → Prop := fun u j => ∃ v k, k < c v ∧ DP P v k t i ∧ ((u, j) = (v, k) ∨ F v k u j)
def bstep (P : Thr) (x : Cnt × Bef) (t : Nat) : Cnt × Bef := (bump x.1 t, fun u j => if u = t ∧ j = x.1 t then newB P x.1 x.2 t (x.1 t) else x.2 u j)
theorem ind_noDP {P : Thr} {c : Cnt} {a b : Nat} (h : ind P c a b = true) : ¬ DP P a (c a) b (c b) := by
  intro q
  rcases q with q | ⟨x, y, h1, h2, h3⟩
  · exact ind_ne h q
  · obtain ⟨x', y', h1', h2', h3'⟩ := ind_some h
    rw [h1'] at h1; cases h1
    rw [h2'] at h2; cases h2
    rw [h3'] at h3; cases h3
theorem bstep_half {P : Thr} {x : Cnt × Bef} {a b : Nat} (h : ind P x.1 a b = true) (u j : Nat) : ((bstep P (bstep P x a) b).2 u j) =
    if u = b ∧ j = x.1 b then newB P x.1 x.2 b (x.1 b) else if u = a ∧ j = x.1 a then newB P x.1 x.2 a (x.1 a) else x.2 u j := by
  have hne := ind_ne h
  have e1 : bump x.1 a b = x.1 b := bump_ne _ (Ne.symm hne)
  show (if u = b ∧ j = bump x.1 a b then newB P (bump x.1 a) _ b (bump x.1 a b) else (if u = a ∧ j = x.1 a then _ else _)) = _
  rw [e1]
  by_cases q : u = b ∧ j = x.1 b
  · rw [if_pos q, if_pos q]
    funext u' j'
    apply propext
    constructor
    · rintro ⟨v, k, hk, hd, hF⟩
      have nva : ¬ (v = a ∧ k = x.1 a) := by
        rintro ⟨rfl, rfl⟩
        exact ind_noDP h hd
      have hk' : k < x.1 v := by
        by_cases e : v = a
        · subst e
          rw [bump_self] at hk
          have : k ≠ x.1 v := fun z => nva ⟨rfl, z⟩
          omega
        · rw [bump_ne _ e] at hk; exact hk
      refine ⟨v, k, hk', hd, ?_⟩
      rcases hF with hF | hF
      · exact .inl hF
      · have hF : (if v = a ∧ k = x.1 a then newB P x.1 x.2 a (x.1 a) else x.2 v k) u' j' := hF
        rw [if_neg nva] at hF
        exact .inr hF
    · rintro ⟨v, k, hk, hd, hF⟩
      have nva : ¬ (v = a ∧ k = x.1 a) := by
        rintro ⟨rfl, rfl⟩
        exact ind_noDP h hd
      have hk' : k < bump x.1 a v := by
        by_cases e : v = a
        · subst e
          rw [bump_self]; omega
        · rw [bump_ne _ e]; exact hk
      refine ⟨v, k, hk', hd, ?_⟩
      rcases hF with hF | hF
      · exact .inl hF
      · refine .inr ?_
        show (if v = a ∧ k = x.1 a then newB P x.1 x.2 a (x.1 a) else x.2 v k) u' j'
        rw [if_neg nva]
        exact hF
  · rw [if_neg q, if_neg q]
theorem bstep_comm {P : Thr} (x : Cnt × Bef) (a b : Nat) (h : ind P x.1 a b = true) : bstep P (bstep P x a) b = bstep P (bstep P x b) a := by
  have hne := ind_ne h
  have h' : ind P x.1 b a = true := by rw [ind_comm]; exact h
  refine Prod.ext (bump_comm _ _ _) ?_
  funext u j
  rw [bstep_half h, bstep_half h']
  by_cases q : u = b ∧ j = x.1 b
  · rw [if_pos q, if_neg (fun z => hne (z.1.symm.trans q.1)), if_pos q]
  · rw [if_neg q, if_neg q]
/-- from the start on -/
abbrev F0 : Bef := fun _ _ _ _ => False
abbrev c0 : Cnt := fun _ => 0
def bef (P : Thr) (w : List Nat) : Cnt × Bef := w.foldl (bstep P) (c0, F0)
theorem bef_cnt (P : Thr) (w : List Nat) : (bef P w).1 = bumps c0 w := cnt_fold (fun x : Cnt × Bef => x.1) (bstep P) (fun _ _ => rfl) w (c0, F0)
theorem bef_snoc (P : Thr) (w : List Nat) (t : Nat) : bef P (w ++ [t]) = bstep P (bef P w) t := by unfold bef; rw [List.foldl_append]; rfl
theorem Pull.bef {P : Thr} {w x v : List Nat} (h : Pull P c0 w x v) : bef P w = bef P (x ++ v) :=
  h.fold (fun x : Cnt × Bef => x.1) (bstep P) (fun _ _ => rfl) (fun x a b q => bstep_comm x a b q) (c0, F0) rfl
theorem bumps0 (w : List Nat) (u : Nat) : bumps c0 w u = w.count u := by rw [bumps_count]; show 0 + _ = _; omega
/-- all stays as it is behind the step's own place -/
theorem bef_stay {P : Thr} : ∀ (v : List Nat) (x : Cnt × Bef) (u j : Nat), j < x.1 u → (v.foldl (bstep P) x).2 u j = x.2 u j
  | [], _, _, _, _ => rfl
  | t :: v, x, u, j, h => by
    have h1 : j < (bstep P x t).1 u := by
      show j < bump x.1 t u
      by_cases e : u = t
      · subst e; rw [bump_self]; omega
      · rw [bump_ne _ e]; exact h
    rw [List.foldl_cons, bef_stay v _ u j h1]
    show (if u = t ∧ j = x.1 t then _ else x.2 u j) = _
    rw [if_neg (by rintro ⟨rfl, rfl⟩; exact Nat.lt_irrefl _ h)]
structure BOk (x : Cnt × Bef) : Prop where
  closed : ∀ u j, j < x.1 u → ∀ v k, x.2 u j v k → k < x.1 v
  own : ∀ u j, j < x.1 u → ∀ i, i < j → x.2 u j u i
  down : ∀ u j, j < x.1 u → ∀ v k, x.2 u j v k → ∀ i, i < k → x.2 u j v i
theorem BOk.step {P : Thr} {x : Cnt × Bef} (h : BOk x) (t : Nat) : BOk (bstep P x t) := by
  have cases' : ∀ u j, j < (bstep P x t).1 u → (u = t ∧ j = x.1 t) ∨ (¬ (u = t ∧ j = x.1 t) ∧ j < x.1 u) := fun u j hj => by
    have hj : j < bump x.1 t u := hj
    by_cases q : u = t ∧ j = x.1 t
    · exact .inl q
    · refine .inr ⟨q, ?_⟩
      by_cases e : u = t
      · subst e
        rw [bump_self] at hj
        have : j ≠ x.1 u := fun z => q ⟨rfl, z⟩
        omega
      · rw [bump_ne _ e] at hj; exact hj
  have up : ∀ v k, k < x.1 v → k < (bstep P x t).1 v := fun v k hk => by
    show k < bump x.1 t v
    by_cases e : v = t
    · subst e; rw [bump_self]; omega
    · rw [bump_ne _ e]; exact hk
  have at1 : (bstep P x t).2 t (x.1 t) = newB P x.1 x.2 t (x.1 t) := by
    show (if t = t ∧ x.1 t = x.1 t then _ else _) = _
    rw [if_pos ⟨rfl, rfl⟩]
  have at2 : ∀ u j, ¬ (u = t ∧ j = x.1 t) → (bstep P x t).2 u j = x.2 u j := fun u j q => by
    show (if u = t ∧ j = x.1 t then _ else _) = _
    rw [if_neg q]
  refine ⟨fun u j hj v k hF => ?_, fun u j hj i hi => ?_, fun u j hj v k hF i hi => ?_⟩
  · rcases cases' u j hj with ⟨rfl, rfl⟩ | ⟨q, hj'⟩
    · rw [at1] at hF
      obtain ⟨v', k', hk', _, hF⟩ := hF
      rcases hF with hF | hF
      · cases hF; exact up _ _ hk'
      · exact up _ _ (h.closed _ _ hk' _ _ hF)
    · rw [at2 u j q] at hF
      exact up _ _ (h.closed _ _ hj' _ _ hF)
  · rcases cases' u j hj with ⟨rfl, rfl⟩ | ⟨q, hj'⟩
    · rw [at1]
      exact ⟨u, i, hi, .inl rfl, .inl rfl⟩
    · rw [at2 u j q]
      exact h.own u j hj' i hi
  · rcases cases' u j hj with ⟨rfl, rfl⟩ | ⟨q, hj'⟩
    · rw [at1] at hF ⊢
      obtain ⟨v', k', hk', hd, hF⟩ := hF
      rcases hF with hF | hF
      · cases hF
        exact ⟨v, k, hk', hd, .inr (h.own v k hk' i hi)⟩
      · exact ⟨v', k', hk', hd, .inr (h.down _ _ hk' _ _ hF i hi)⟩
    · rw [at2 u j q] at hF ⊢
      exact h.down u j hj' _ _ hF i hi
theorem BOk.fold {P : Thr} : ∀ (v : List Nat) {x : Cnt × Bef}, BOk x → BOk (v.foldl (bstep P) x)
  | [], _, h => h
  | t :: v, _, h => BOk.fold v (h.step t)
theorem bef_ok (P : Thr) (w : List Nat) : BOk (bef P w) := BOk.fold w ⟨fun _ _ h => absurd h (Nat.not_lt_zero _), fun _ _ h => absurd h (Nat.not_lt_zero _), fun _ _ h => absurd h (Nat.not_lt_zero _)⟩
/-- before or it -/
def upto (F : Bef) (u j : Nat) : Nat → Nat → Prop := fun v k => (v, k) = (u, j) ∨ F u j v k

/-- what may be pulled out of v, by what stands before it -/
theorem fr_bef {P : Thr} {c : Cnt} {t : Nat} : ∀ (v : List Nat) (y : Cnt × Bef), y.1 t = c t → (∀ u, c u ≤ y.1 u) → (∀ u j, j < c u → ∀ u' j', y.2 u j u' j' → j' < c u') → (∀ s, s ∈ v → True) →
    (∃ s i, stp P t (c t) = some s ∧ i = c t) → (∀ u j, j < (v.foldl (bstep P) y).1 u → ∃ s, stp P u j = some s) → t ∈ v →
    ((∀ u j, (v.foldl (bstep P) y).2 t (c t) u j → j < c u) ↔ (¬ (∃ u j, c u ≤ j ∧ j < y.1 u ∧ DP P u j t (c t))) ∧ fr P y.1 v t = true)
  | [], _, _, _, _, _, _, _, h => by simp at h
  | s :: v, y, h1, h2, h3, _, h5, h6, hm => by
    rw [List.foldl_cons] at h6 ⊢
    by_cases e : t = s
    · subst e
      have hlt : c t < (bstep P y t).1 t := by show c t < bump y.1 t t; rw [bump_self, h1]; omega
      rw [bef_stay v _ t (c t) hlt, fr_head]
      have e2 : (bstep P y t).2 t (c t) = newB P y.1 y.2 t (c t) := by
        show (if t = t ∧ c t = y.1 t then newB P y.1 y.2 t (y.1 t) else _) = _
        rw [if_pos ⟨rfl, h1.symm⟩, h1]
      rw [e2]
      constructor
      · intro h
        refine ⟨?_, rfl⟩
        rintro ⟨u, j, q1, q2, q3⟩
        exact absurd (h u j ⟨u, j, q2, q3, .inl rfl⟩) (Nat.not_lt_of_le q1)
      · rintro ⟨h, _⟩ u j ⟨v', k', q1, q2, q3⟩
        have hk : k' < c v' := by
          by_cases z : k' < c v'
          · exact z
          · exact absurd ⟨v', k', by omega, q1, q2⟩ h
        rcases q3 with q3 | q3
        · cases q3; exact hk
        · exact h3 v' k' hk u j q3
    · have hm' : t ∈ v := by
        rcases List.mem_cons.mp hm with q | q
        · exact absurd q e
        · exact q
      have hs : y.1 s < (v.foldl (bstep P) (bstep P y s)).1 s := by
        have q := cnt_fold (fun x : Cnt × Bef => x.1) (bstep P) (fun _ _ => rfl) v (bstep P y s)
        have q : (v.foldl (bstep P) (bstep P y s)).1 = bumps (bstep P y s).1 v := q
        rw [q, bumps_count]
        show y.1 s < bump y.1 s s + _
        rw [bump_self]; omega
      obtain ⟨ss, hss⟩ := h6 s (y.1 s) hs
      obtain ⟨st, _, hst, _⟩ := id h5
      have ih := fr_bef (c := c) v (bstep P y s) (by show bump y.1 s t = _; rw [bump_ne _ e]; exact h1)
        (fun u => by
          show c u ≤ bump y.1 s u
          by_cases q : u = s
          · subst q; rw [bump_self]; exact Nat.le_succ_of_le (h2 u)
          · rw [bump_ne _ q]; exact h2 u)
        (fun u j hj u' j' hF => by
          have hF : (if u = s ∧ j = y.1 s then _ else y.2 u j) u' j' := hF
          rw [if_neg (by rintro ⟨rfl, rfl⟩; exact absurd hj (Nat.not_lt_of_le (h2 u)))] at hF
          exact h3 u j hj u' j' hF) (fun _ _ => trivial) h5 h6 hm'
      rw [ih, fr_cons_ne e, Bool.and_eq_true]
      have key : ind P y.1 t s = true ↔ ¬ DP P s (y.1 s) t (c t) := by
        unfold ind DP
        rw [h1, hst, hss]
        simp only [Bool.and_eq_true, decide_eq_true_eq, Bool.not_eq_true', not_or, not_exists, not_and, Bool.not_eq_true]
        constructor
        · rintro ⟨_, q⟩
          refine ⟨fun z => e z.symm, fun a b ha hb => ?_⟩
          cases ha; cases hb
          rw [dep_comm]; exact q
        · rintro ⟨_, q⟩
          refine ⟨e, ?_⟩
          rw [dep_comm]
          exact q ss st rfl rfl
      constructor
      · rintro ⟨q1, q2⟩
        refine ⟨?_, key.mpr fun z => q1 ⟨s, y.1 s, h2 s, by show y.1 s < bump y.1 s s; rw [bump_self]; omega, z⟩, q2⟩
        rintro ⟨u, j, z1, z2, z3⟩
        refine q1 ⟨u, j, z1, ?_, z3⟩
        show j < bump y.1 s u
        by_cases q : u = s
        · subst q; rw [bump_self]; omega
        · rw [bump_ne _ q]; exact z2
      · rintro ⟨q1, q2, q3⟩
        refine ⟨?_, q3⟩
        rintro ⟨u, j, z1, z2, z3⟩
        have z2 : j < bump y.1 s u := z2
        by_cases q : u = s
        · subst q
          rw [bump_self] at z2
          by_cases z : j = y.1 u
          · subst z; exact key.mp q2 z3
          · exact q1 ⟨u, j, z1, by omega, z3⟩
        · rw [bump_ne _ q] at z2
          exact q1 ⟨u, j, z1, z2, z3⟩
end TC

/-! TcC: the rows of what stands before, clocks and the next cuts as the program reckons them. -/
namespace TC
def sAt (P : Thr) (w : List Nat) (k : Nat) : Step := (stp P (evt w k).1 (evt w k).2).getD default
def Exi (P : Thr) (w : List Nat) : Prop := ∀ k, k < w.length → ∃ s, stp P (evt w k).1 (evt w k).2 = some s
def hangAt (P : Thr) (w : List Nat) (m k : Nat) : Bool := decide (w.getD m 0 = w.getD k 0) || dep (sAt P w m) (sAt P w k)
def rowN (P : Thr) (w : List Nat) (k : Nat) (rows : List (List Nat)) : List Nat :=
  (List.range k).filter fun j => (List.range k).any fun m => hangAt P w m k && (decide (j = m) || decide (j ∈ rows.getD m []))
def befL (P : Thr) (w : List Nat) : Nat → List (List Nat)
  | 0 => []
  | k + 1 => befL P w k ++ [rowN P w k (befL P w k)]
def row (P : Thr) (w : List Nat) (k : Nat) : List Nat := rowN P w k (befL P w k)
theorem befL_length (P : Thr) (w : List Nat) : ∀ k, (befL P w k).length = k
  | 0 => rfl
  | k + 1 => by rw [befL, List.length_append, befL_length P w k]; rfl
theorem befL_get {P : Thr} {w : List Nat} : ∀ {k m : Nat}, m < k → (befL P w k)[m]? = some (row P w m)
  | k + 1, m, h => by
    rw [befL]
    by_cases e : m < k
    · rw [List.getElem?_append_left (by rw [befL_length]; exact e)]
      exact befL_get e
    · have : m = k := by omega
      subst this
      rw [List.getElem?_append_right (by rw [befL_length]; exact Nat.le_refl _), befL_length, Nat.sub_self]
      rfl
theorem befL_getD {P : Thr} {w : List Nat} {k m : Nat} (h : m < k) : (befL P w k).getD m [] = row P w m := by
  rw [List.getD_eq_getElem?_getD, befL_get h]; rfl
theorem mem_row {P : Thr} {w : List Nat} {k j : Nat} : j ∈ row P w k ↔ j < k ∧ ∃ m, m < k ∧ hangAt P w m k = true ∧ (j = m ∨ j ∈ row P w m) := by
  unfold row rowN
  rw [List.mem_filter, List.mem_range, List.any_eq_true]
  constructor
  · rintro ⟨h1, m, hm, h2⟩
    have hm := List.mem_range.mp hm
    rw [Bool.and_eq_true, Bool.or_eq_true, decide_eq_true_eq, decide_eq_true_eq, befL_getD hm] at h2
    exact ⟨h1, m, hm, h2.1, h2.2⟩
  · rintro ⟨h1, m, hm, h2, h3⟩
    refine ⟨h1, m, List.mem_range.mpr hm, ?_⟩
    rw [Bool.and_eq_true, Bool.or_eq_true, decide_eq_true_eq, decide_eq_true_eq, befL_getD hm]
    exact ⟨h2, h3⟩
theorem range_pairwise (n : Nat) : (List.range n).Pairwise (· < ·) := List.pairwise_lt_range
theorem row_sorted (P : Thr) (w : List Nat) (k : Nat) : (row P w k).Pairwise (· < ·) := (range_pairwise k).sublist List.filter_sublist
/-- a rising list is known by its members -/
theorem sorted_uniq : ∀ {a b : List Nat}, a.Pairwise (· < ·) → b.Pairwise (· < ·) → (∀ k, k ∈ a ↔ k ∈ b) → a = b
  | [], [], _, _, _ => rfl
  | [], y :: b, _, _, h => absurd ((h y).mpr List.mem_cons_self) (by simp)
  | x :: a, [], _, _, h => absurd ((h x).mp List.mem_cons_self) (by simp)
  | x :: a, y :: b, ha, hb, h => by
    rw [List.pairwise_cons] at ha hb
    have e : x = y := by
      rcases List.mem_cons.mp ((h x).mp List.mem_cons_self) with q | q
      · exact q
      · rcases List.mem_cons.mp ((h y).mpr List.mem_cons_self) with z | z
        · exact z.symm
        · have h1 := hb.1 x q
          have h2 := ha.1 y z
          omega
    subst e
    congr 1
    refine sorted_uniq ha.2 hb.2 fun k => ?_
    constructor
    · intro hk
      rcases List.mem_cons.mp ((h k).mp (List.mem_cons_of_mem _ hk)) with q | q
      · subst q; exact absurd (ha.1 k hk) (Nat.lt_irrefl _)
      · exact q
    · intro hk
      rcases List.mem_cons.mp ((h k).mpr (List.mem_cons_of_mem _ hk)) with q | q
      · subst q; exact absurd (hb.1 k hk) (Nat.lt_irrefl _)
      · exact q

theorem sAt_some {P : Thr} {w : List Nat} (h : Exi P w) {k : Nat} (hk : k < w.length) : stp P (evt w k).1 (evt w k).2 = some (sAt P w k) := by
  obtain ⟨s, hs⟩ := h k hk
  unfold sAt; rw [hs]; rfl
theorem hang_DP {P : Thr} {w : List Nat} (h : Exi P w) {m k : Nat} (hm : m < w.length) (hk : k < w.length) : hangAt P w m k = true ↔ DP P (evt w m).1 (evt w m).2 (evt w k).1 (evt w k).2 := by
  unfold hangAt DP
  rw [Bool.or_eq_true, decide_eq_true_eq]
  have h1 := sAt_some h hm
  have h2 := sAt_some h hk
  constructor
  · rintro (q | q)
    · exact .inl q
    · exact .inr ⟨_, _, h1, h2, q⟩
  · rintro (q | ⟨a, b, ha, hb, q⟩)
    · exact .inl q
    · rw [h1] at ha; rw [h2] at hb; cases ha; cases hb
      exact .inr q
theorem bef_take_eq {P : Thr} {w : List Nat} {k : Nat} (hk : k < w.length) : (bef P w).2 (evt w k).1 (evt w k).2 = newB P (bef P (w.take k)).1 (bef P (w.take k)).2 (evt w k).1 (evt w k).2 := by
  have e : bef P w = (w.drop (k + 1)).foldl (bstep P) (bef P (w.take (k + 1))) := by
    unfold bef
    rw [← List.foldl_append, List.take_append_drop]
  have c1 : (bef P (w.take k)).1 (evt w k).1 = (evt w k).2 := by rw [bef_cnt, bumps0]; rfl
  rw [e, bef_stay]
  · rw [take_succ hk, bef_snoc]
    show (if (evt w k).1 = w.getD k 0 ∧ (evt w k).2 = (bef P (w.take k)).1 (w.getD k 0) then newB P (bef P (w.take k)).1 (bef P (w.take k)).2 (w.getD k 0) ((bef P (w.take k)).1 (w.getD k 0)) else _) = _
    have c1' : (bef P (w.take k)).1 (w.getD k 0) = (evt w k).2 := c1
    rw [c1', if_pos ⟨rfl, rfl⟩]
    rfl
  · rw [bef_cnt, bumps0, count_take_succ hk]
    show (w.take k).count (w.getD k 0) < (w.take k).count (w.getD k 0) + if w.getD k 0 = w.getD k 0 then 1 else 0
    rw [if_pos rfl]; omega
theorem bef_take_stay {P : Thr} {w : List Nat} {k : Nat} {u i : Nat} (h : i < (w.take k).count u) : (bef P (w.take k)).2 u i = (bef P w).2 u i := by
  have e : bef P w = (w.drop k).foldl (bstep P) (bef P (w.take k)) := by
    unfold bef
    rw [← List.foldl_append, List.take_append_drop]
  rw [e, bef_stay]
  rw [bef_cnt, bumps0]; exact h
/-- the rows tell what stands before -/
theorem row_bef {P : Thr} {w : List Nat} (hx : Exi P w) : ∀ (k : Nat), k < w.length → ∀ u i, (bef P w).2 (evt w k).1 (evt w k).2 u i ↔ ∃ j, j ∈ row P w k ∧ evt w j = (u, i) := by
  intro k
  induction k using Nat.strongRecOn with
  | ind k ih =>
    intro hk u i
    rw [bef_take_eq hk]
    constructor
    · rintro ⟨v, l, h1, h2, h3⟩
      rw [bef_cnt, bumps0] at h1
      obtain ⟨m, hm, em⟩ := evt_of (Nat.le_of_lt hk) h1
      have hmw := Nat.lt_trans hm hk
      have hh : hangAt P w m k = true := (hang_DP hx hmw hk).mpr (by rw [em]; exact h2)
      rcases h3 with h3 | h3
      · exact ⟨m, mem_row.mpr ⟨hm, m, hm, hh, .inl rfl⟩, by rw [em, h3]⟩
      · rw [bef_take_stay h1] at h3
        have h3' : (bef P w).2 (evt w m).1 (evt w m).2 u i := by rw [em]; exact h3
        obtain ⟨j, hj, ej⟩ := (ih m hm hmw u i).mp h3'
        have hjm := (mem_row.mp hj).1
        exact ⟨j, mem_row.mpr ⟨by omega, m, hm, hh, .inr hj⟩, ej⟩
    · rintro ⟨j, hj, ej⟩
      obtain ⟨hjk, m, hm, hh, hq⟩ := mem_row.mp hj
      have hmw := Nat.lt_trans hm hk
      have h1 : (evt w m).2 < (w.take k).count (evt w m).1 := evt_lt hm hmw
      refine ⟨(evt w m).1, (evt w m).2, by rw [bef_cnt, bumps0]; exact h1, (hang_DP hx hmw hk).mp hh, ?_⟩
      rcases hq with rfl | hq
      · left; rw [← ej]
      · right
        rw [bef_take_stay h1]
        exact (ih m hm hmw u i).mpr ⟨j, hq, ej⟩

/-! ### clocks -/
theorem nodup_down {l : List Nat} (hn : l.Nodup) (hd : ∀ i ∈ l, ∀ j, j < i → j ∈ l) : ∀ i, i ∈ l ↔ i < l.length := by
  have key : ∃ M, ∀ i, i ∈ l ↔ i < M := by
    have mx : ∀ (l' : List Nat), l' ≠ [] → ∃ m ∈ l', ∀ i ∈ l', i ≤ m := by
      intro l'
      induction l' with
      | nil => intro h; exact absurd rfl h
      | cons a r ih =>
        intro _
        by_cases e : r = []
        · subst e; exact ⟨a, List.mem_cons_self, fun i hi => by simp at hi; omega⟩
        · obtain ⟨m, hm, hle⟩ := ih e
          by_cases q : a ≤ m
          · exact ⟨m, List.mem_cons_of_mem _ hm, fun i hi => by
              rcases List.mem_cons.mp hi with z | z
              · omega
              · exact hle i z⟩
          · exact ⟨a, List.mem_cons_self, fun i hi => by
              rcases List.mem_cons.mp hi with z | z
              · omega
              · have := hle i z; omega⟩
    by_cases e : l = []
    · subst e; exact ⟨0, fun i => by simp⟩
    · obtain ⟨m, hm, hle⟩ := mx l e
      refine ⟨m + 1, fun i => ⟨fun h => by have := hle i h; omega, fun h => ?_⟩⟩
      by_cases q : i = m
      · subst q; exact hm
      · exact hd m hm i (by omega)
  obtain ⟨M, hM⟩ := key
  have hp : l.Perm (List.range M) := (List.perm_ext_iff_of_nodup hn List.nodup_range).mpr fun i => by rw [hM, List.mem_range]
  have hl : l.length = M := by rw [hp.length_eq, List.length_range]
  intro i; rw [hl, hM]
def clkAt (P : Thr) (w : List Nat) (k u : Nat) : Nat := ((row P w k ++ [k]).map fun m => w.getD m 0).count u
theorem clk_iff {P : Thr} {w : List Nat} (hx : Exi P w) {k : Nat} (hk : k < w.length) (u i : Nat) : i < clkAt P w k u ↔ upto (bef P w).2 (evt w k).1 (evt w k).2 u i := by
  have hlt : ∀ m ∈ row P w k ++ [k], m < w.length := fun m hm => by
    rcases List.mem_append.mp hm with q | q
    · have := (mem_row.mp q).1; omega
    · simp at q; omega
  have mem : ∀ i, i ∈ ((row P w k ++ [k]).filter fun m => decide (w.getD m 0 = u)).map (fun m => (evt w m).2) ↔ upto (bef P w).2 (evt w k).1 (evt w k).2 u i := by
    intro i
    rw [List.mem_map]
    constructor
    · rintro ⟨m, hm, rfl⟩
      rw [List.mem_filter, decide_eq_true_eq] at hm
      obtain ⟨hm, hu⟩ := hm
      have em : evt w m = (u, (evt w m).2) := by rw [← hu]; rfl
      rcases List.mem_append.mp hm with q | q
      · exact .inr ((row_bef hx k hk _ _).mpr ⟨m, q, em⟩)
      · simp at q
        subst q
        exact .inl em.symm
    · rintro (h | h)
      · refine ⟨k, List.mem_filter.mpr ⟨by simp, ?_⟩, (congrArg Prod.snd h).symm⟩
        have : (evt w k).1 = u := (congrArg Prod.fst h).symm
        exact decide_eq_true (show w.getD k 0 = u from this)
      · obtain ⟨j, hj, ej⟩ := (row_bef hx k hk _ _).mp h
        refine ⟨j, List.mem_filter.mpr ⟨List.mem_append_left _ hj, ?_⟩, congrArg Prod.snd ej⟩
        have : (evt w j).1 = u := congrArg Prod.fst ej
        exact decide_eq_true (show w.getD j 0 = u from this)
  have nd0 : (row P w k ++ [k]).Nodup := by
    have : (row P w k ++ [k]).Pairwise (· < ·) := by
      rw [List.pairwise_append]
      refine ⟨row_sorted P w k, List.pairwise_singleton _ _, fun a ha b hb => ?_⟩
      simp at hb; subst hb
      exact (mem_row.mp ha).1
    exact this.imp fun h => Nat.ne_of_lt h
  have nd : (((row P w k ++ [k]).filter fun m => decide (w.getD m 0 = u)).map (fun m => (evt w m).2)).Nodup := by
    unfold List.Nodup
    rw [List.pairwise_map]
    refine (nd0.filter _).imp_of_mem fun {a b} ha hb hab e => hab ?_
    rw [List.mem_filter, decide_eq_true_eq] at ha hb
    refine evt_inj (hlt a ha.1) (hlt b hb.1) (Prod.ext ?_ e)
    show w.getD a 0 = w.getD b 0
    rw [ha.2, hb.2]
  have len : clkAt P w k u = (((row P w k ++ [k]).filter fun m => decide (w.getD m 0 = u)).map (fun m => (evt w m).2)).length := by
    unfold clkAt
    rw [List.length_map, List.count_eq_countP, List.countP_map, List.countP_eq_length_filter]
    congr 2
  rw [len, ← mem, nodup_down nd]
  intro i hi j hj
  rw [mem] at hi ⊢
  have B := bef_ok P w
  have hc : (evt w k).2 < (bef P w).1 (evt w k).1 := by
    rw [bef_cnt, bumps0]
    have := evt_lt (w := w) hk hk
    rw [List.take_length] at this
    exact this
  rcases hi with hi | hi
  · have e1 : u = (evt w k).1 := congrArg Prod.fst hi
    have e2 : i = (evt w k).2 := congrArg Prod.snd hi
    subst e1 e2
    exact .inr (B.own _ _ hc j hj)
  · exact .inr (B.down _ _ hc _ _ hi j hj)
theorem eq_of_lt_iff {a b : Nat} (h : ∀ i, i < a ↔ i < b) : a = b := by
  rcases Nat.lt_trichotomy a b with q | q | q
  · have := (h a).mpr q; omega
  · exact q
  · have := (h b).mp q; omega
/-- alike words: the same clock of the same step -/
theorem clk_alike {P : Thr} {w w' : List Nat} (hx : Exi P w) (hx' : Exi P w') (he : bef P w = bef P w') {k k' : Nat} (hk : k < w.length) (hk' : k' < w'.length) (e : evt w k = evt w' k') (u : Nat) : clkAt P w k u = clkAt P w' k' u := by
  apply eq_of_lt_iff
  intro i
  rw [clk_iff hx hk, clk_iff hx' hk', e, he]

/-! ### the next cuts -/
def numM (w : List Nat) : List ((Nat × Nat) × Nat) := (List.range w.length).map fun k => (evt w k, k)
theorem lookup_map {α : Type} [BEq α] [LawfulBEq α] {f : Nat → α} : ∀ {l : List Nat} {x : α} {k : Nat}, (∀ a ∈ l, ∀ b ∈ l, f a = f b → a = b) → ((l.map fun k => (f k, k)).lookup x = some k ↔ k ∈ l ∧ f k = x)
  | [], x, k, _ => by simp
  | a :: l, x, k, h => by
    have ih := lookup_map (f := f) (l := l) (x := x) (k := k) fun a ha b hb => h a (List.mem_cons_of_mem _ ha) b (List.mem_cons_of_mem _ hb)
    rw [List.map_cons, List.lookup_cons]
    cases q : x == f a with
    | true =>
      have q : x = f a := by simpa using q
      simp only [Option.some.injEq]
      constructor
      · rintro rfl; exact ⟨List.mem_cons_self, q.symm⟩
      · rintro ⟨h1, h2⟩; exact h a List.mem_cons_self k h1 (q.symm.trans h2.symm)
    | false =>
      have q : x ≠ f a := by simpa using q
      simp only []
      rw [ih]
      constructor
      · rintro ⟨h1, h2⟩; exact ⟨List.mem_cons_of_mem _ h1, h2⟩
      · rintro ⟨h1, h2⟩
        rcases List.mem_cons.mp h1 with z | z
        · subst z; exact absurd h2.symm q
        · exact ⟨z, h2⟩
theorem num_iff {w : List Nat} {x : Nat × Nat} {k : Nat} : (numM w).lookup x = some k ↔ k < w.length ∧ evt w k = x := by
  unfold numM
  rw [lookup_map (f := evt w) fun a ha b hb => evt_inj (List.mem_range.mp ha) (List.mem_range.mp hb), List.mem_range]
/-- may the next step of t be added to a cut? -/
def mayM (P : Thr) (n : Nat) (w : List Nat) (cut : List Nat) (t : Nat) : Bool := match (numM w).lookup (t, cut.getD t 0) with
  | none => false
  | some k => (List.range n).all fun u => decide (clkAt P w k u ≤ (inc cut t).getD u 0)
def laterM (P : Thr) (n : Nat) (w : List Nat) (cut : List Nat) : List (Nat × List Nat) := ((List.range n).filter (mayM P n w cut)).map fun t => (t, inc cut t)
theorem may_alike {P : Thr} {n : Nat} {w w' : List Nat} (hx : Exi P w) (hx' : Exi P w') (he : bef P w = bef P w') (cut : List Nat) (t : Nat) : mayM P n w cut t = mayM P n w' cut t := by
  have hc : ∀ u, w.count u = w'.count u := fun u => by
    have := congrFun (congrArg Prod.fst he) u
    rw [bef_cnt, bef_cnt, bumps0, bumps0] at this
    exact this
  have half : ∀ {w w' : List Nat}, (∀ u, w.count u = w'.count u) → ∀ {x : Nat × Nat} {k}, (numM w).lookup x = some k → ∃ k', (numM w').lookup x = some k' := fun {w w'} hc x k h => by
    obtain ⟨h1, h2⟩ := num_iff.mp h
    have h3 := evt_lt (w := w) (k := w.length) h1 h1
    rw [List.take_length, h2, hc] at h3
    have h3' : x.2 < (w'.take w'.length).count x.1 := by rw [List.take_length]; exact h3
    obtain ⟨j, hj, ej⟩ := evt_of (Nat.le_refl _) h3'
    exact ⟨j, num_iff.mpr ⟨hj, ej⟩⟩
  unfold mayM
  cases h1 : (numM w).lookup (t, cut.getD t 0) with
  | none =>
    cases h2 : (numM w').lookup (t, cut.getD t 0) with
    | none => rfl
    | some k' =>
      obtain ⟨k, hk⟩ := half (fun u => (hc u).symm) h2
      rw [h1] at hk; cases hk
  | some k =>
    obtain ⟨k', h2⟩ := half hc h1
    rw [h2]
    obtain ⟨a1, a2⟩ := num_iff.mp h1
    obtain ⟨b1, b2⟩ := num_iff.mp h2
    show (List.range n).all _ = (List.range n).all _
    congr 1
    funext u
    rw [clk_alike hx hx' he a1 b1 (a2.trans b2.symm) u]
theorem later_alike {P : Thr} {n : Nat} {w w' : List Nat} (hx : Exi P w) (hx' : Exi P w') (he : bef P w = bef P w') : laterM P n w = laterM P n w' := by
  funext cut
  unfold laterM
  congr 2
  funext t
  exact may_alike hx hx' he cut t

theorem Exi.of_cnt {P : Thr} {w w' : List Nat} (h : Exi P w) (hc : ∀ u, w.count u = w'.count u) : Exi P w' := fun k hk => by
  have h3 := evt_lt (w := w') (k := w'.length) hk hk
  rw [List.take_length, ← hc] at h3
  have h3' : (evt w' k).2 < (w.take w.length).count (evt w' k).1 := by rw [List.take_length]; exact h3
  obtain ⟨j, hj, ej⟩ := evt_of (Nat.le_refl _) h3'
  obtain ⟨s, hs⟩ := h j hj
  rw [ej] at hs
  exact ⟨s, hs⟩
theorem Exi.all {P : Thr} {w : List Nat} (h : Exi P w) {u j : Nat} (hj : j < w.count u) : ∃ s, stp P u j = some s := by
  have h3' : j < (w.take w.length).count u := by rw [List.take_length]; exact hj
  obtain ⟨k, hk, ek⟩ := evt_of (Nat.le_refl _) h3'
  obtain ⟨s, hs⟩ := h k hk
  rw [ek] at hs
  exact ⟨s, hs⟩
theorem cnt_of_bef {P : Thr} {w w' : List Nat} (he : bef P w = bef P w') (u : Nat) : w.count u = w'.count u := by
  have := congrFun (congrArg Prod.fst he) u
  rw [bef_cnt, bef_cnt, bumps0, bumps0] at this
  exact this
/-- the program's test is whether the step may be pulled to the front of what is left -/
theorem may_fr {P : Thr} {n : Nat} {w x v : List Nat} (hP : P.length = n) (hx : Exi P w) (hp : Pull P c0 w x v) {cut : List Nat} (hl : cut.length = n) (hc : cf cut = bumps c0 x) (t : Nat) : mayM P n w cut t = fr P (cf cut) v t := by
  have he := hp.bef
  have hcu : ∀ u, w.count u = x.count u + v.count u := fun u => by rw [cnt_of_bef he u, List.count_append]
  have hct : ∀ u, cut.getD u 0 = x.count u := fun u => by
    have := congrFun hc u
    rw [bumps0] at this; exact this
  unfold mayM
  cases h1 : (numM w).lookup (t, cut.getD t 0) with
  | none =>
    have : t ∉ v := fun hm => by
      have h2 : 0 < v.count t := List.count_pos_iff.mpr hm
      have h3 : cut.getD t 0 < (w.take w.length).count t := by rw [List.take_length, hcu, hct]; omega
      obtain ⟨j, hj, ej⟩ := evt_of (Nat.le_refl _) h3
      rw [num_iff.mpr ⟨hj, ej⟩] at h1; cases h1
    cases hf : fr P (cf cut) v t with
    | false => rfl
    | true => exact absurd (fr_mem hf) this
  | some k =>
    obtain ⟨a1, a2⟩ := num_iff.mp h1
    have hlt : cut.getD t 0 < w.count t := by
      have := evt_lt (w := w) (k := w.length) a1 a1
      rw [List.take_length, a2] at this; exact this
    have hm : t ∈ v := by
      rw [hcu, hct] at hlt
      exact List.count_pos_iff.mp (by omega)
    obtain ⟨s, hs⟩ := hx.all hlt
    have htn : t < n := by rw [← hP]; exact stp_lt hs
    have bx : bef P (x ++ v) = v.foldl (bstep P) (bef P x) := by unfold bef; rw [List.foldl_append]
    have bc : (bef P x).1 = cf cut := by rw [bef_cnt, hc]
    have hfb := fr_bef (P := P) (c := cf cut) (t := t) v (bef P x) (by rw [bc]) (fun u => by rw [bc]; exact Nat.le_refl _) (fun u j hj u' j' hF => by
      rw [← bc] at hj ⊢
      exact (bef_ok P x).closed u j hj u' j' hF) (fun _ _ => trivial) ⟨s, _, hs, rfl⟩ (fun u j hj => by
        rw [← bx, ← he, bef_cnt, bumps0] at hj
        exact hx.all hj) hm
    rw [← bx, ← he, bc] at hfb
    have hno : ¬ ∃ u j, cf cut u ≤ j ∧ j < cf cut u ∧ DP P u j t (cf cut t) := by
      rintro ⟨u, j, q1, q2, _⟩; omega
    rw [Bool.eq_iff_iff]
    show (List.range n).all _ = true ↔ _
    have e2 : fr P (cf cut) v t = true ↔ ∀ u j, (bef P w).2 t (cf cut t) u j → j < cf cut u := by
      rw [hfb]
      exact ⟨fun h => ⟨hno, h⟩, fun h => h.2⟩
    rw [e2, List.all_eq_true]
    have ek : ∀ u i, i < clkAt P w k u ↔ upto (bef P w).2 t (cf cut t) u i := fun u i => by
      rw [clk_iff hx a1, a2]; rfl
    have hinc : ∀ u, (inc cut t).getD u 0 = bump (cf cut) t u := fun u => inc_getD (by omega)
    have B := bef_ok P w
    have hc2 : cf cut t < (bef P w).1 t := by rw [bef_cnt, bumps0]; exact hlt
    constructor
    · intro h u j hF
      have hun : u < n := by
        have h5 := B.closed _ _ hc2 _ _ hF
        rw [bef_cnt, bumps0] at h5
        obtain ⟨s', hs'⟩ := hx.all h5
        rw [← hP]; exact stp_lt hs'
      have h6 := h u (List.mem_range.mpr hun)
      rw [decide_eq_true_eq, hinc] at h6
      have h7 := (ek u j).mpr (.inr hF)
      have h8 : j < bump (cf cut) t u := Nat.lt_of_lt_of_le h7 h6
      by_cases e : u = t
      · subst e
        rw [bump_self] at h8
        by_cases z : j = cf cut u
        · subst z
          -- a step does not stand before itself
          exfalso
          have h9 : cf cut u + 1 < clkAt P w k u + 1 := by omega
          have h10 := (ek u (cf cut u)).mp (by omega)
          have key : (bef P w).2 (evt w k).1 (evt w k).2 (evt w k).1 (evt w k).2 := by rw [a2]; exact hF
          obtain ⟨j, hj, ej⟩ := (row_bef hx k a1 _ _).mp key
          have hjk := (mem_row.mp hj).1
          have := evt_inj (by omega) a1 ej
          omega
        · omega
      · rw [bump_ne _ e] at h8; exact h8
    · intro h u _
      rw [decide_eq_true_eq, hinc]
      refine Nat.le_of_not_lt fun q => ?_
      have h7 := (ek u (bump (cf cut) t u)).mp q
      rcases h7 with h7 | h7
      · have e1 : u = t := congrArg Prod.fst h7
        have e3 : bump (cf cut) t u = cf cut t := congrArg Prod.snd h7
        subst e1
        rw [bump_self] at e3; omega
      · have h8 := h u _ h7
        by_cases e : u = t
        · subst e; rw [bump_self] at h8; omega
        · rw [bump_ne _ e] at h8; omega
theorem later_fr {P : Thr} {n : Nat} {w x v : List Nat} (hP : P.length = n) (hx : Exi P w) (hp : Pull P c0 w x v) {cut : List Nat} (hl : cut.length = n) (hc : cf cut = bumps c0 x) : laterM P n w cut = ((List.range n).filter (fr P (cf cut) v)).map fun t => (t, inc cut t) := by
  unfold laterM
  congr 2
  funext t
  exact may_fr hP hx hp hl hc t
end TC

/-! TcD: runs, the first run, all first runs, the cuts that are found, and what alike runs pass. -/
namespace TC
theorem nxt_lt {P : Thr} {d : List Nat} {t : Nat} {s : Step} (h : nxt P d t = some s) : t < P.length := stp_lt h
theorem poss_some {P : Thr} {e : Env} {d : List Nat} {t : Nat} (h : poss P e d t = true) : ∃ s, nxt P d t = some s ∧ en s e = true := by
  unfold poss at h
  cases q : nxt P d t with
  | none => rw [q] at h; cases h
  | some s => rw [q] at h; exact ⟨s, rfl, h⟩
def nx (P : Thr) (d : List Nat) (t : Nat) : Step := (nxt P d t).getD default
def play (P : Thr) : Env → List Nat → List Nat → Env × List Nat
  | e, d, [] => (e, d)
  | e, d, t :: w => play P (app e (nx P d t)) (inc d t) w
def okw (P : Thr) : Env → List Nat → List Nat → Bool
  | _, _, [] => true
  | e, d, t :: w => poss P e d t && okw P (app e (nx P d t)) (inc d t) w
def possL (P : Thr) (e : Env) (d : List Nat) : List Nat := (List.range d.length).filter (poss P e d)
theorem play_append {P : Thr} : ∀ (x v : List Nat) (e : Env) (d : List Nat), play P e d (x ++ v) = play P (play P e d x).1 (play P e d x).2 v
  | [], _, _, _ => rfl
  | t :: x, v, e, d => by
    show play P _ _ (x ++ v) = _
    rw [play_append x v]; rfl
theorem okw_append {P : Thr} : ∀ (x v : List Nat) (e : Env) (d : List Nat), okw P e d (x ++ v) = (okw P e d x && okw P (play P e d x).1 (play P e d x).2 v)
  | [], _, _, _ => by simp [okw, play]
  | t :: x, v, e, d => by
    show (poss P e d t && okw P _ _ (x ++ v)) = _
    rw [okw_append x v]
    show _ = ((poss P e d t && okw P _ _ x) && _)
    rw [Bool.and_assoc]; rfl
theorem play_length {P : Thr} : ∀ (w : List Nat) (e : Env) (d : List Nat), (play P e d w).2.length = d.length
  | [], _, _ => rfl
  | t :: w, e, d => by
    show (play P _ _ w).2.length = _
    rw [play_length w, inc_length]
/-- the same as a fold over counts -/
def astep (P : Thr) (x : Env × Cnt × Bool) (t : Nat) : Env × Cnt × Bool := match stp P t (x.2.1 t) with
  | some s => (app x.1 s, bump x.2.1 t, x.2.2 && en s x.1)
  | none => (x.1, bump x.2.1 t, false)
theorem astep_cnt (P : Thr) (x : Env × Cnt × Bool) (t : Nat) : (astep P x t).2.1 = bump x.2.1 t := by
  unfold astep; split <;> rfl
theorem astep_comm {P : Thr} (x : Env × Cnt × Bool) (a b : Nat) (h : ind P x.2.1 a b = true) : astep P (astep P x a) b = astep P (astep P x b) a := by
  obtain ⟨s, u, hs, hu, hd⟩ := ind_some h
  have hne := ind_ne h
  have e1 : astep P x a = (app x.1 s, bump x.2.1 a, x.2.2 && en s x.1) := by unfold astep; rw [hs]
  have e2 : astep P x b = (app x.1 u, bump x.2.1 b, x.2.2 && en u x.1) := by unfold astep; rw [hu]
  have e3 : astep P (astep P x a) b = (app (app x.1 s) u, bump (bump x.2.1 a) b, (x.2.2 && en s x.1) && en u (app x.1 s)) := by
    rw [e1]; unfold astep
    show (match stp P b (bump x.2.1 a b) with | some s' => _ | none => _) = _
    rw [bump_ne _ (Ne.symm hne), hu]
  have e4 : astep P (astep P x b) a = (app (app x.1 u) s, bump (bump x.2.1 b) a, (x.2.2 && en u x.1) && en s (app x.1 u)) := by
    rw [e2]; unfold astep
    show (match stp P a (bump x.2.1 b a) with | some s' => _ | none => _) = _
    rw [bump_ne _ hne, hs]
  rw [e3, e4, app_comm _ hd, bump_comm, en_app _ hd, en_app _ (by rw [dep_comm]; exact hd)]
  congr 2
  cases x.2.2 <;> cases en s x.1 <;> cases en u x.1 <;> rfl
theorem fold_false {P : Thr} : ∀ (w : List Nat) (x : Env × Cnt × Bool), x.2.2 = false → (w.foldl (astep P) x).2.2 = false
  | [], _, h => h
  | t :: w, x, h => by
    refine fold_false w _ ?_
    unfold astep
    split
    · show (x.2.2 && _) = false
      rw [h]; rfl
    · rfl
theorem fold_ok {P : Thr} : ∀ (w : List Nat) (e : Env) (d : List Nat), d.length = P.length → (okw P e d w = true ↔ (w.foldl (astep P) (e, cf d, true)).2.2 = true) ∧
    (okw P e d w = true → w.foldl (astep P) (e, cf d, true) = ((play P e d w).1, cf (play P e d w).2, true))
  | [], _, _, _ => ⟨by simp [okw], fun _ => rfl⟩
  | t :: w, e, d, hl => by
    cases q : nxt P d t with
    | none =>
      have q' : stp P t (cf d t) = none := q
      have e1 : astep P (e, cf d, true) t = (e, bump (cf d) t, false) := by unfold astep; rw [q']
      have e2 : poss P e d t = false := by unfold poss; rw [q]
      refine ⟨?_, fun h => ?_⟩
      · rw [List.foldl_cons, e1, fold_false w _ rfl]
        simp [okw, e2]
      · simp [okw, e2] at h
    | some s =>
      have q' : stp P t (cf d t) = some s := q
      have e1 : astep P (e, cf d, true) t = (app e s, bump (cf d) t, en s e) := by unfold astep; rw [q']; rfl
      have e2 : poss P e d t = en s e := by unfold poss; rw [q]
      have e3 : nx P d t = s := by unfold nx; rw [q]; rfl
      have hlt : t < d.length := by rw [hl]; exact nxt_lt q
      have ih := fold_ok w (app e s) (inc d t) (by rw [inc_length]; exact hl)
      rw [cf_inc hlt] at ih
      rw [List.foldl_cons, e1]
      show ((poss P e d t && okw P (app e (nx P d t)) (inc d t) w) = true ↔ _) ∧ ((poss P e d t && okw P (app e (nx P d t)) (inc d t) w) = true → _ = ((play P (app e (nx P d t)) (inc d t) w).1, cf (play P (app e (nx P d t)) (inc d t) w).2, true))
      rw [e2, e3]
      cases z : en s e with
      | true =>
        refine ⟨?_, fun h => ih.2 ?_⟩
        · rw [Bool.true_and]; exact ih.1
        · rw [Bool.true_and] at h; exact h
      | false =>
        refine ⟨?_, fun h => ?_⟩
        · rw [fold_false w _ rfl]; simp
        · simp at h
/-- alike words: a run is one, and leaves the same -/
theorem Pull.run {P : Thr} {w x v : List Nat} {e : Env} {d : List Nat} (hl : d.length = P.length) (h : Pull P (cf d) w x v) (hw : okw P e d w = true) : okw P e d (x ++ v) = true ∧ play P e d (x ++ v) = play P e d w := by
  have hf := h.fold (fun x : Env × Cnt × Bool => x.2.1) (astep P) (astep_cnt P) (fun x a b q => astep_comm x a b q) (e, cf d, true) rfl
  have h1 := fold_ok w e d hl
  have h2 := fold_ok (x ++ v) e d hl
  have h3 : okw P e d (x ++ v) = true := by
    rw [h2.1, ← hf]; exact h1.1.mp hw
  refine ⟨h3, ?_⟩
  have e1 := h1.2 hw
  have e2 := h2.2 h3
  rw [hf, e2] at e1
  refine Prod.ext (congrArg (fun z : Env × Cnt × Bool => z.1) e1) (cf_ext (by rw [play_length, play_length]) ?_)
  exact congrArg (fun z : Env × Cnt × Bool => z.2.1) e1
/-- the steps of a run exist -/
theorem okw_exi {P : Thr} {e : Env} {d : List Nat} (hl : d.length = P.length) (hd : cf d = c0) {w : List Nat} (h : okw P e d w = true) : Exi P w := by
  have key : ∀ (w : List Nat) (e : Env) (d : List Nat), d.length = P.length → okw P e d w = true → ∀ k, k < w.length → ∃ s, stp P (w.getD k 0) (cf d (w.getD k 0) + (w.take k).count (w.getD k 0)) = some s := by
    intro w
    induction w with
    | nil => intro _ _ _ _ k hk; simp at hk
    | cons t w ih =>
      intro e d hl h k hk
      have h : (poss P e d t && okw P (app e (nx P d t)) (inc d t) w) = true := h
      rw [Bool.and_eq_true] at h
      obtain ⟨s, hs, _⟩ := poss_some h.1
      cases k with
      | zero =>
        refine ⟨s, ?_⟩
        rw [← hs]
        show stp P t (cf d t + 0) = nxt P d t
        rfl
      | succ k =>
        have hlt : t < d.length := by rw [hl]; exact nxt_lt hs
        obtain ⟨s', hs'⟩ := ih _ _ (by rw [inc_length]; exact hl) h.2 k (by simpa using hk)
        refine ⟨s', ?_⟩
        rw [cf_inc hlt] at hs'
        show stp P (w.getD k 0) (cf d (w.getD k 0) + ((t :: w.take k).count (w.getD k 0))) = _
        rw [← hs', List.count_cons]
        congr 1
        unfold bump
        by_cases q : w.getD k 0 = t
        · rw [if_pos q, q]; simp; omega
        · rw [if_neg q]
          have : (t == w.getD k 0) = false := beq_eq_false_iff_ne.mpr fun z => q z.symm
          rw [this]; simp
  intro k hk
  obtain ⟨s, hs⟩ := key w e d hl h k hk
  rw [hd] at hs
  exact ⟨s, by rw [← hs]; show stp P (w.getD k 0) _ = stp P (w.getD k 0) _; congr 1; show _ = 0 + _; rw [Nat.zero_add]; rfl⟩

/-! ### how many steps are left -/
def remL : Thr → List Nat → Nat
  | s :: P, k :: d => (s.length - k) + remL P d
  | _, _ => 0
theorem rem_inc : ∀ {P : Thr} {d : List Nat} {t : Nat} {s : Step}, d.length = P.length → nxt P d t = some s → remL P (inc d t) + 1 = remL P d
  | [], [], t, s, _, h => by simp [nxt, stp] at h
  | l :: P, k :: d, 0, s, _, h => by
    have h : l[k]? = some s := by simpa [nxt, stp] using h
    have hk := (List.getElem?_eq_some_iff.mp h).1
    show (l.length - (k + 1)) + remL P d + 1 = (l.length - k) + remL P d
    omega
  | l :: P, k :: d, t + 1, s, hl, h => by
    have ih := rem_inc (P := P) (d := d) (t := t) (s := s) (by simpa using hl) (by simpa [nxt, stp] using h)
    show (l.length - k) + remL P (inc d t) + 1 = (l.length - k) + remL P d
    omega

/-! ### the first run -/
theorem filter_head {n : Nat} {p : Nat → Bool} {t : Nat} {r : List Nat} (h : (List.range n).filter p = t :: r) : p t = true ∧ t < n ∧ ∀ o, o < t → p o = false := by
  have hm : t ∈ (List.range n).filter p := by rw [h]; exact List.mem_cons_self
  rw [List.mem_filter, List.mem_range] at hm
  refine ⟨hm.2, hm.1, fun o ho => ?_⟩
  cases q : p o with
  | false => rfl
  | true =>
    have ho' : o ∈ (List.range n).filter p := List.mem_filter.mpr ⟨List.mem_range.mpr (by omega), q⟩
    have hp : ((List.range n).filter p).Pairwise (· < ·) := (range_pairwise n).sublist List.filter_sublist
    rw [h] at ho' hp
    rcases List.mem_cons.mp ho' with z | z
    · omega
    · have := (List.pairwise_cons.mp hp).1 o z; omega
abbrev Lat := List Nat → List (Nat × List Nat)
def firstM (lat : Lat) (last : List Nat) : Nat → List Nat → List Nat
  | 0, _ => []
  | f + 1, cut => if cut = last then [] else match lat cut with
    | r :: _ => r.1 :: firstM lat last f r.2
    | [] => []
/-- what a run has to do with its cuts -/
structure RunOk (P : Thr) (e0 : Env) (n : Nat) (w : List Nat) (last : List Nat) : Prop where
  hP : P.length = n
  ok : okw P e0 (List.replicate n 0) w = true
  ll : last.length = n
  lc : cf last = bumps c0 w
theorem cf_zero (n : Nat) : cf (List.replicate n 0) = c0 := by
  funext t
  show (List.replicate n 0).getD t 0 = 0
  rw [List.getD_eq_getElem?_getD, List.getElem?_replicate]
  split <;> rfl
theorem RunOk.exi {P : Thr} {e0 : Env} {n : Nat} {w last : List Nat} (h : RunOk P e0 n w last) : Exi P w := okw_exi (by rw [List.length_replicate]; exact h.hP.symm) (cf_zero n) h.ok
/-- a cut on the way: x has been pulled out, v is left -/
structure At (P : Thr) (n : Nat) (w : List Nat) (cut x v : List Nat) : Prop where
  pull : Pull P c0 w x v
  len : cut.length = n
  cnt : cf cut = bumps c0 x
theorem At.first (P : Thr) (n : Nat) (w : List Nat) : At P n w (List.replicate n 0) [] w := ⟨.nil, List.length_replicate, cf_zero n⟩
section
variable {P : Thr} {e0 : Env} {n : Nat} {w last : List Nat}
theorem RunOk.later (R : RunOk P e0 n w last) {cut x v : List Nat} (a : At P n w cut x v) : laterM P n w cut = ((List.range n).filter (fr P (cf cut) v)).map fun t => (t, inc cut t) := later_fr R.hP R.exi a.pull a.len a.cnt
theorem RunOk.last_iff (R : RunOk P e0 n w last) {cut x v : List Nat} (a : At P n w cut x v) : cut = last ↔ v = [] := by
  have hc : ∀ u, w.count u = x.count u + v.count u := fun u => by rw [cnt_of_bef a.pull.bef u, List.count_append]
  constructor
  · rintro rfl
    cases v with
    | nil => rfl
    | cons t v =>
      have h1 := hc t
      have h2 := congrFun R.lc t
      rw [a.cnt, bumps0, bumps0] at h2
      rw [List.count_cons_self] at h1
      omega
  · rintro rfl
    refine cf_ext (by rw [a.len, R.ll]) ?_
    rw [a.cnt, R.lc]
    funext u
    rw [bumps0, bumps0, hc u]; simp
theorem At.bump_lt (R : RunOk P e0 n w last) {cut x v : List Nat} (a : At P n w cut x v) {t : Nat} (h : fr P (cf cut) v t = true) : t < n ∧ ∃ s, nxt P cut t = some s := by
  have hm := fr_mem h
  have hc : ∀ u, w.count u = x.count u + v.count u := fun u => by rw [cnt_of_bef a.pull.bef u, List.count_append]
  have h1 : cf cut t < w.count t := by
    rw [a.cnt, bumps0, hc]
    have : 0 < v.count t := List.count_pos_iff.mpr hm
    omega
  obtain ⟨s, hs⟩ := R.exi.all h1
  exact ⟨by rw [← R.hP]; exact stp_lt hs, s, hs⟩
theorem At.next (R : RunOk P e0 n w last) {cut x v : List Nat} (a : At P n w cut x v) {t : Nat} (h : fr P (cf cut) v t = true) : At P n w (inc cut t) (x ++ [t]) (v.erase t) := by
  obtain ⟨ht, s, hs⟩ := a.bump_lt R h
  refine ⟨.snoc a.pull (by rw [← a.cnt]; exact h), by rw [inc_length]; exact a.len, ?_⟩
  rw [cf_inc (by rw [a.len]; exact ht), a.cnt]
  unfold bumps; rw [List.foldl_append]; rfl
theorem RunOk.mem_later (R : RunOk P e0 n w last) {cut x v : List Nat} (a : At P n w cut x v) {r : Nat × List Nat} : r ∈ laterM P n w cut ↔ fr P (cf cut) v r.1 = true ∧ r.2 = inc cut r.1 := by
  rw [R.later a, List.mem_map]
  constructor
  · rintro ⟨t, ht, rfl⟩
    exact ⟨(List.mem_filter.mp ht).2, rfl⟩
  · rintro ⟨h1, h2⟩
    exact ⟨r.1, List.mem_filter.mpr ⟨List.mem_range.mpr (a.bump_lt R h1).1, h1⟩, Prod.ext rfl h2.symm⟩
theorem RunOk.later_ne (R : RunOk P e0 n w last) {cut x v : List Nat} (a : At P n w cut x v) (hne : cut ≠ last) : laterM P n w cut ≠ [] := by
  intro h
  cases v with
  | nil => exact hne ((R.last_iff a).mpr rfl)
  | cons t v =>
    have : (t, inc cut t) ∈ laterM P n w cut := (R.mem_later a).mpr ⟨fr_head .., rfl⟩
    rw [h] at this; cases this
theorem RunOk.nf (R : RunOk P e0 n w last) : ∀ (f : Nat) (cut x v : List Nat), At P n w cut x v → v.length ≤ f → NF P (cf cut) v (firstM (laterM P n w) last (f + 1) cut) := by
  intro f
  induction f with
  | zero =>
    intro cut x v a hf
    have hv : v = [] := List.eq_nil_of_length_eq_zero (by omega)
    have := (R.last_iff a).mpr hv
    unfold firstM
    rw [if_pos this, hv]
    exact .nil
  | succ f ih =>
    intro cut x v a hf
    unfold firstM
    by_cases e : cut = last
    · rw [if_pos e, (R.last_iff a).mp e]
      exact .nil
    · rw [if_neg e]
      have hne := R.later_ne a e
      have hl := R.later a
      cases q : (List.range n).filter (fr P (cf cut) v) with
      | nil => rw [q] at hl; exact absurd hl hne
      | cons t r =>
        rw [q] at hl
        rw [hl]
        show NF P (cf cut) v (t :: firstM (laterM P n w) last (f + 1) (inc cut t))
        obtain ⟨h1, h2, h3⟩ := filter_head q
        have a' := a.next R h1
        have hlen := List.length_erase_of_mem (fr_mem h1)
        have hpos : 0 < v.length := List.length_pos_of_mem (fr_mem h1)
        refine .cons h1 h3 ?_
        rw [← cf_inc (by rw [a.len]; exact h2)]
        exact ih _ _ _ a' (by omega)
/-- the first run of a run, as the program tells it -/
def frun (P : Thr) (n : Nat) (w last : List Nat) : List Nat := firstM (laterM P n w) last (w.length + 1) (List.replicate n 0)
theorem RunOk.frun_nf (R : RunOk P e0 n w last) : NF P c0 w (frun P n w last) := by
  have := R.nf w.length _ _ _ (At.first P n w) (Nat.le_refl _)
  rw [cf_zero] at this
  exact this
theorem firstM_fuel (R : RunOk P e0 n w last) : ∀ (f g : Nat) (cut x v : List Nat), At P n w cut x v → v.length ≤ f → v.length ≤ g → firstM (laterM P n w) last (f + 1) cut = firstM (laterM P n w) last (g + 1) cut := fun f g cut x v a hf hg =>
  (R.nf f cut x v a hf).uniq (R.nf g cut x v a hg)
end
end TC

/-! TcE: all first runs; all whole runs. -/
namespace TC
def barM (P : Thr) (d B : List Nat) (t : Nat) : List Nat :=
  (List.range d.length).filter fun o => decide (o ≠ t) && ((nxt P d o).isSome && ((decide (o ∈ B) || decide (o < t)) && !dep (nx P d o) (nx P d t)))
def goM (P : Thr) : Nat → Env → List Nat → List Nat → List Nat → List (List Nat × List Nat)
  | 0, _, _, _, _ => []
  | f + 1, e, d, B, way => (if possL P e d = [] then [(way, d)] else []) ++
      ((possL P e d).filter fun t => !decide (t ∈ B)).flatMap fun t => goM P f (app e (nx P d t)) (inc d t) (barM P d B t) (way ++ [t])
/-- no further step -/
def stuckAt (P : Thr) (s : Env × List Nat) : Prop := possL P s.1 s.2 = []
theorem mem_possL {P : Thr} {e : Env} {d : List Nat} (hl : d.length = P.length) {t : Nat} : t ∈ possL P e d ↔ poss P e d t = true := by
  unfold possL
  rw [List.mem_filter, List.mem_range]
  refine ⟨fun h => h.2, fun h => ⟨?_, h⟩⟩
  obtain ⟨s, hs, _⟩ := poss_some h
  rw [hl]; exact nxt_lt hs
theorem bar_sleepy {P : Thr} {d B : List Nat} {t : Nat} {s : Step} (hl : d.length = P.length) (hs : nxt P d t = some s) : (fun o => decide (o ∈ barM P d B t)) = sleepy P (cf d) (fun o => decide (o ∈ B)) t := by
  have hst : stp P t (cf d t) = some s := hs
  have enx : nx P d t = s := by unfold nx; rw [hs]; rfl
  funext o
  unfold sleepy
  rw [Bool.eq_iff_iff, decide_eq_true_eq]
  unfold barM
  rw [List.mem_filter, List.mem_range]
  simp only [Bool.and_eq_true, decide_eq_true_eq, Bool.or_eq_true, Bool.not_eq_true']
  constructor
  · rintro ⟨h1, h2, h3, h4, h5⟩
    refine ⟨h4, ?_⟩
    obtain ⟨u, hu⟩ := Option.isSome_iff_exists.mp h3
    have hu' : stp P o (cf d o) = some u := hu
    have enu : nx P d o = u := by unfold nx; rw [hu]; rfl
    unfold ind
    rw [hst, hu', decide_eq_true h2]
    rw [enx, enu] at h5
    simp [h5]
  · rintro ⟨h4, hi⟩
    obtain ⟨u, s', h6, h7, h8⟩ := ind_some hi
    rw [hst] at h7; cases h7
    have hu : nxt P d o = some u := h6
    have enu : nx P d o = u := by unfold nx; rw [hu]; rfl
    exact ⟨by rw [hl]; exact nxt_lt hu, ind_ne hi, by rw [hu]; rfl, h4, by rw [enx, enu]; exact h8⟩
theorem go_mem {P : Thr} : ∀ (f : Nat) (e : Env) (d B way : List Nat), d.length = P.length → remL P d < f → ∀ (y dd : List Nat),
    (y, dd) ∈ goM P f e d B way ↔ ∃ u, y = way ++ u ∧ okw P e d u = true ∧ stuckAt P (play P e d u) ∧ good P (cf d) (fun o => decide (o ∈ B)) u = true ∧ dd = (play P e d u).2 := by
  intro f
  induction f with
  | zero => intro e d B way _ h; omega
  | succ f ih =>
    intro e d B way hl hf y dd
    unfold goM
    rw [List.mem_append, List.mem_flatMap]
    have step : ∀ t, poss P e d t = true → (inc d t).length = P.length ∧ remL P (inc d t) < f ∧ (fun o => decide (o ∈ barM P d B t)) = sleepy P (cf d) (fun o => decide (o ∈ B)) t ∧ cf (inc d t) = bump (cf d) t := fun t ht => by
      obtain ⟨s, hs, _⟩ := poss_some ht
      have hr := rem_inc hl hs
      exact ⟨by rw [inc_length]; exact hl, by omega, bar_sleepy hl hs, cf_inc (by rw [hl]; exact nxt_lt hs)⟩
    constructor
    · rintro (h | ⟨t, ht, h⟩)
      · by_cases q : possL P e d = []
        · rw [if_pos q] at h
          have h : (y, dd) = (way, d) := by simpa using h
          cases h
          exact ⟨[], by simp, rfl, q, rfl, rfl⟩
        · rw [if_neg q] at h; cases h
      · rw [List.mem_filter] at ht
        obtain ⟨h1, h2⟩ := ht
        have hp := (mem_possL hl).mp h1
        obtain ⟨s1, s2, s3, s4⟩ := step t hp
        obtain ⟨u, rfl, h3, h4, h5, h6⟩ := (ih _ _ _ _ s1 s2 y dd).mp h
        rw [s3, s4] at h5
        refine ⟨t :: u, by simp, ?_, h4, ?_, h6⟩
        · show (poss P e d t && _) = true
          rw [hp, h3]; rfl
        · show (!(decide (t ∈ B)) && _) = true
          rw [h2, h5]; rfl
    · rintro ⟨u, rfl, h3, h4, h5, h6⟩
      cases u with
      | nil =>
        left
        have q : possL P e d = [] := h4
        have h6 : dd = d := h6
        rw [if_pos q, h6]; simp
      | cons t u =>
        right
        have h3 : (poss P e d t && okw P (app e (nx P d t)) (inc d t) u) = true := h3
        rw [Bool.and_eq_true] at h3
        have h5 : (!(decide (t ∈ B)) && good P (bump (cf d) t) (sleepy P (cf d) (fun o => decide (o ∈ B)) t) u) = true := h5
        rw [Bool.and_eq_true] at h5
        obtain ⟨s1, s2, s3, s4⟩ := step t h3.1
        refine ⟨t, List.mem_filter.mpr ⟨(mem_possL hl).mpr h3.1, h5.1⟩, (ih _ _ _ _ s1 s2 _ _).mpr ⟨u, by simp, h3.2, h4, ?_, h6⟩⟩
        rw [s3, s4]; exact h5.2
theorem go_nodup {P : Thr} : ∀ (f : Nat) (e : Env) (d B way : List Nat), d.length = P.length → remL P d < f → ((goM P f e d B way).map (·.1)).Nodup := by
  intro f
  induction f with
  | zero => intro e d B way _ h; omega
  | succ f ih =>
    intro e d B way hl hf
    have step : ∀ t, poss P e d t = true → (inc d t).length = P.length ∧ remL P (inc d t) < f := fun t ht => by
      obtain ⟨s, hs, _⟩ := poss_some ht
      have hr := rem_inc hl hs
      exact ⟨by rw [inc_length]; exact hl, by omega⟩
    unfold goM
    by_cases q : possL P e d = []
    · rw [if_pos q, q]
      show [way].Nodup
      simp
    · rw [if_neg q, List.nil_append, List.map_flatMap]
      unfold List.Nodup
      rw [List.pairwise_flatMap]
      refine ⟨fun t ht => ?_, ?_⟩
      · obtain ⟨s1, s2⟩ := step t ((mem_possL hl).mp (List.mem_filter.mp ht).1)
        exact ih _ _ _ _ s1 s2
      · have hs : ((possL P e d).filter fun t => !decide (t ∈ B)).Pairwise (· < ·) := ((range_pairwise _).sublist List.filter_sublist).sublist List.filter_sublist
        refine hs.imp_of_mem fun {a b} ha hb hab x hx y hy => ?_
        obtain ⟨a1, a2⟩ := step a ((mem_possL hl).mp (List.mem_filter.mp ha).1)
        obtain ⟨b1, b2⟩ := step b ((mem_possL hl).mp (List.mem_filter.mp hb).1)
        obtain ⟨⟨x', dx⟩, hx2, rfl⟩ := List.mem_map.mp hx
        obtain ⟨⟨y', dy⟩, hy2, rfl⟩ := List.mem_map.mp hy
        obtain ⟨u, e1, _⟩ := (go_mem _ _ _ _ _ a1 a2 _ _).mp hx2
        obtain ⟨v, e2, _⟩ := (go_mem _ _ _ _ _ b1 b2 _ _).mp hy2
        show x' ≠ y'
        rw [e1, e2, List.append_assoc, List.append_assoc]
        intro z
        have z := List.append_cancel_left z
        injection z with z _
        omega

/-! ### whole runs -/
theorem stuck_ex {P : Thr} : ∀ (f : Nat) (e : Env) (d : List Nat), d.length = P.length → remL P d < f → ∃ u, okw P e d u = true ∧ stuckAt P (play P e d u) := by
  intro f
  induction f with
  | zero => intro e d _ h; omega
  | succ f ih =>
    intro e d hl hf
    by_cases q : possL P e d = []
    · exact ⟨[], rfl, q⟩
    · obtain ⟨t, ht⟩ := List.exists_mem_of_ne_nil _ q
      have hp := (mem_possL hl).mp ht
      obtain ⟨s, hs, _⟩ := poss_some hp
      have hr := rem_inc hl hs
      obtain ⟨u, h1, h2⟩ := ih (app e (nx P d t)) (inc d t) (by rw [inc_length]; exact hl) (by omega)
      refine ⟨t :: u, ?_, h2⟩
      show (poss P e d t && _) = true
      rw [hp, h1]; rfl
/-- one turn: the longer rows -/
def longerM (P : Thr) (e0 : Env) (d0 : List Nat) (rows : List (List Nat)) : List (List Nat) := rows.flatMap fun r => (possL P (play P e0 d0 r).1 (play P e0 d0 r).2).map fun t => r ++ [t]
def endsM (P : Thr) (e0 : Env) (d0 : List Nat) (rows : List (List Nat)) : List (List Nat) := rows.filter fun r => decide (possL P (play P e0 d0 r).1 (play P e0 d0 r).2 = [])
def wholeM (P : Thr) (e0 : Env) (d0 : List Nat) : Nat → List (List Nat) → List (List Nat) → List (List Nat)
  | 0, _, acc => acc
  | f + 1, rows, acc => if rows = [] then acc else wholeM P e0 d0 f (longerM P e0 d0 rows) (acc ++ endsM P e0 d0 rows)
/-- rows of one level -/
structure Rows (P : Thr) (e0 : Env) (d0 : List Nat) (rows : List (List Nat)) (m : Nat) : Prop where
  ok : ∀ r ∈ rows, okw P e0 d0 r = true
  rem : ∀ r ∈ rows, remL P (play P e0 d0 r).2 + 1 = m
theorem Rows.next {P : Thr} {e0 : Env} {d0 : List Nat} (hl : d0.length = P.length) {rows : List (List Nat)} {m : Nat} (h : Rows P e0 d0 rows (m + 1)) : Rows P e0 d0 (longerM P e0 d0 rows) m := by
  have key : ∀ r' ∈ longerM P e0 d0 rows, ∃ r ∈ rows, ∃ t, r' = r ++ [t] ∧ poss P (play P e0 d0 r).1 (play P e0 d0 r).2 t = true := fun r' hr' => by
    obtain ⟨r, hr, h2⟩ := List.mem_flatMap.mp hr'
    obtain ⟨t, ht, rfl⟩ := List.mem_map.mp h2
    exact ⟨r, hr, t, rfl, (mem_possL (by rw [play_length]; exact hl)).mp ht⟩
  constructor
  · intro r' hr'
    obtain ⟨r, hr, t, rfl, hp⟩ := key r' hr'
    rw [okw_append, h.ok r hr]
    show (true && (poss P _ _ t && true)) = true
    rw [hp]; rfl
  · intro r' hr'
    obtain ⟨r, hr, t, rfl, hp⟩ := key r' hr'
    obtain ⟨s, hs, _⟩ := poss_some hp
    have h1 := h.rem r hr
    have h2 := rem_inc (by rw [play_length]; exact hl) hs
    rw [play_append]
    show remL P (inc (play P e0 d0 r).2 t) + 1 = m
    omega
theorem mem_wholeM {P : Thr} {e0 : Env} {d0 : List Nat} (hl : d0.length = P.length) : ∀ (m : Nat) (rows acc : List (List Nat)), Rows P e0 d0 rows m → ∀ f, m ≤ f → ∀ y,
    y ∈ wholeM P e0 d0 f rows acc ↔ y ∈ acc ∨ ∃ r ∈ rows, ∃ u, y = r ++ u ∧ okw P (play P e0 d0 r).1 (play P e0 d0 r).2 u = true ∧ stuckAt P (play P e0 d0 y) := by
  intro m
  induction m with
  | zero =>
    intro rows acc h f _ y
    have hr : rows = [] := by
      cases rows with
      | nil => rfl
      | cons r _ => have := h.rem r List.mem_cons_self; omega
    subst hr
    cases f <;> simp [wholeM]
  | succ m ih =>
    intro rows acc h f hf y
    obtain ⟨f, rfl⟩ : ∃ g, f = g + 1 := ⟨f - 1, by omega⟩
    unfold wholeM
    by_cases q : rows = []
    · rw [if_pos q, q]; simp
    · rw [if_neg q, ih _ _ (h.next hl) f (by omega) y, List.mem_append]
      constructor
      · rintro ((z | z) | ⟨r', hr', u, rfl, h1, h2⟩)
        · exact .inl z
        · right
          unfold endsM at z
          rw [List.mem_filter, decide_eq_true_eq] at z
          exact ⟨y, z.1, [], by simp, rfl, z.2⟩
        · right
          obtain ⟨r, hr, h3⟩ := List.mem_flatMap.mp hr'
          obtain ⟨t, ht, rfl⟩ := List.mem_map.mp h3
          have hp := (mem_possL (by rw [play_length]; exact hl)).mp ht
          refine ⟨r, hr, t :: u, by simp, ?_, h2⟩
          rw [play_append] at h1
          show (poss P _ _ t && _) = true
          rw [hp]; exact h1
      · rintro (z | ⟨r, hr, u, rfl, h1, h2⟩)
        · exact .inl (.inl z)
        · cases u with
          | nil =>
            left; right
            rw [List.append_nil] at h2 ⊢
            exact List.mem_filter.mpr ⟨hr, decide_eq_true h2⟩
          | cons t u =>
            right
            have h1 : (poss P _ _ t && okw P _ _ u) = true := h1
            rw [Bool.and_eq_true] at h1
            refine ⟨r ++ [t], List.mem_flatMap.mpr ⟨r, hr, List.mem_map.mpr ⟨t, (mem_possL (by rw [play_length]; exact hl)).mpr h1.1, rfl⟩⟩, u, by simp, ?_, h2⟩
            rw [play_append]; exact h1.2
end TC

/-! TcF: the cuts that are found, those that avoid a condition, the least way to one that meets it. -/
namespace TC
abbrev Shown := List (List Nat × Env)
def keysM (sh : Shown) : List (List Nat) := sh.map (·.1)
def addM (P : Thr) (cut : List Nat) (e : Env) (sh : Shown) (r : Nat × List Nat) : Shown := if r.2 ∈ keysM sh then sh else sh ++ [(r.2, app e (nx P cut r.1))]
def findM (P : Thr) (lat : Lat) : Nat → Nat → Shown → Shown
  | 0, _, sh => sh
  | f + 1, pl, sh => match sh[pl]? with
    | none => sh
    | some ce => findM P lat f (pl + 1) ((lat ce.1).foldl (addM P ce.1 ce.2) sh)
theorem pw_all {α : Type} {R : α → α → Prop} : ∀ {l : List α}, (∀ a b, a ∈ l → b ∈ l → R a b) → l.Pairwise R
  | [], _ => .nil
  | a :: l, h => .cons (fun b hb => h a b List.mem_cons_self (List.mem_cons_of_mem _ hb)) (pw_all fun x y hx hy => h x y (List.mem_cons_of_mem _ hx) (List.mem_cons_of_mem _ hy))
def zeroL (n : Nat) : List Nat := List.replicate n 0
def mea (P : Thr) (n : Nat) (l : Shown) : Nat := (l.map fun ce => (n + 1) ^ remL P ce.1).sum
theorem mea_append (P : Thr) (n : Nat) (a b : Shown) : mea P n (a ++ b) = mea P n a + mea P n b := by unfold mea; rw [List.map_append, List.sum_append]
theorem mea_pos {P : Thr} {n : Nat} {ce : List Nat × Env} {l : Shown} (h : ce ∈ l) : 1 ≤ mea P n l := by
  induction l with
  | nil => cases h
  | cons a l ih =>
    unfold mea
    rw [List.map_cons, List.sum_cons]
    rcases List.mem_cons.mp h with rfl | h
    · have : 1 ≤ (n + 1) ^ remL P ce.1 := Nat.pos_of_ne_zero (by simp)
      omega
    · have := ih h; unfold mea at this; omega
theorem keysM_append (a b : Shown) : keysM (a ++ b) = keysM a ++ keysM b := List.map_append
/-- what a fold of additions leaves -/
theorem add_fold {P : Thr} {cut : List Nat} {e : Env} : ∀ (rs : List (Nat × List Nat)) (sh : Shown), ∃ new : Shown, rs.foldl (addM P cut e) sh = sh ++ new ∧ new.length ≤ rs.length ∧
    (∀ ce ∈ new, ∃ r ∈ rs, ce = (r.2, app e (nx P cut r.1))) ∧ (∀ r ∈ rs, r.2 ∈ keysM (sh ++ new)) ∧ ((keysM sh).Nodup → (keysM (sh ++ new)).Nodup)
  | [], sh => ⟨[], by simp, by simp, by simp, by simp, by simp⟩
  | r :: rs, sh => by
    obtain ⟨new, h1, h2, h3, h4, h5⟩ := add_fold (P := P) (cut := cut) (e := e) rs (addM P cut e sh r)
    rw [List.foldl_cons]
    by_cases q : r.2 ∈ keysM sh
    · have e1 : addM P cut e sh r = sh := by unfold addM; rw [if_pos q]
      rw [e1] at h1 h4 h5 ⊢
      refine ⟨new, h1, by rw [List.length_cons]; omega, fun ce hce => ?_, fun r' hr' => ?_, h5⟩
      · obtain ⟨r', hr', z⟩ := h3 ce hce
        exact ⟨r', List.mem_cons_of_mem _ hr', z⟩
      · rcases List.mem_cons.mp hr' with rfl | hr'
        · rw [keysM_append]; exact List.mem_append_left _ q
        · exact h4 r' hr'
    · have e1 : addM P cut e sh r = sh ++ [(r.2, app e (nx P cut r.1))] := by unfold addM; rw [if_neg q]
      rw [e1] at h1 h4 h5 ⊢
      rw [List.append_assoc] at h1 h4 h5
      refine ⟨[(r.2, app e (nx P cut r.1))] ++ new, h1, by simp; omega, fun ce hce => ?_, fun r' hr' => ?_, fun hn => h5 ?_⟩
      · rcases List.mem_append.mp hce with hce | hce
        · exact ⟨r, List.mem_cons_self, by simpa using hce⟩
        · obtain ⟨r', hr', z⟩ := h3 ce hce
          exact ⟨r', List.mem_cons_of_mem _ hr', z⟩
      · rcases List.mem_cons.mp hr' with rfl | hr'
        · rw [keysM_append, keysM_append]
          exact List.mem_append_right _ (List.mem_append_left _ (by simp [keysM]))
        · exact h4 r' hr'
      · rw [keysM_append]
        rw [List.nodup_append]
        refine ⟨hn, by simp [keysM], fun a ha b hb z => ?_⟩
        have hb : b = r.2 := by simpa [keysM] using hb
        subst hb z
        exact q ha
section
variable {P : Thr} {e0 : Env} {n : Nat} {w last : List Nat}
abbrev envAt (P : Thr) (e0 : Env) (n : Nat) (x : List Nat) : Env := (play P e0 (zeroL n) x).1
/-- what holds of the cuts found so far -/
structure FOk (P : Thr) (e0 : Env) (n : Nat) (w : List Nat) (pl : Nat) (sh : Shown) : Prop where
  at' : ∀ ce ∈ sh, ∃ x v, At P n w ce.1 x v ∧ ce.2 = envAt P e0 n x
  srt : sh.Pairwise fun a b => a.1.sum ≤ b.1.sum
  near : ∀ ci, sh[pl]? = some ci → ∀ ce ∈ sh, ce.1.sum ≤ ci.1.sum + 1
  clo : ∀ i, i < pl → ∀ ce, sh[i]? = some ce → ∀ r ∈ laterM P n w ce.1, r.2 ∈ keysM sh
  zero : zeroL n ∈ keysM sh
  nd : (keysM sh).Nodup
  le : pl ≤ sh.length
theorem FOk.start (P : Thr) (e0 : Env) (n : Nat) (w : List Nat) : FOk P e0 n w 0 [(zeroL n, e0)] where
  at' := fun ce h => by
    have h : ce = (zeroL n, e0) := by simpa using h
    subst h
    exact ⟨[], w, At.first P n w, rfl⟩
  srt := List.pairwise_singleton _ _
  near := fun ci h ce hce => by
    have h : (zeroL n, e0) = ci := by simpa using h
    have hce : ce = (zeroL n, e0) := by simpa using hce
    subst h hce
    exact Nat.le_succ _
  clo := fun i h => absurd h (Nat.not_lt_zero _)
  zero := by simp [keysM]
  nd := by simp [keysM]
  le := Nat.zero_le _
theorem inc_sum {d : List Nat} {t : Nat} (h : t < d.length) : (inc d t).sum = d.sum + 1 := by
  unfold inc
  induction d generalizing t with
  | nil => simp at h
  | cons a d ih =>
    cases t with
    | zero => simp; omega
    | succ t =>
      have := ih (t := t) (by simpa using h)
      simp only [List.getD_cons_succ, List.set_cons_succ, List.sum_cons] at this ⊢
      omega
theorem FOk.step (R : RunOk P e0 n w last) {pl : Nat} {sh : Shown} (F : FOk P e0 n w pl sh) {ce : List Nat × Env} (h : sh[pl]? = some ce) :
    FOk P e0 n w (pl + 1) ((laterM P n w ce.1).foldl (addM P ce.1 ce.2) sh) ∧ mea P n (((laterM P n w ce.1).foldl (addM P ce.1 ce.2) sh).drop (pl + 1)) + 1 ≤ mea P n (sh.drop pl) := by
  obtain ⟨new, h1, h2, h3, h4, h5⟩ := add_fold (P := P) (cut := ce.1) (e := ce.2) (laterM P n w ce.1) sh
  rw [h1]
  have hlt : pl < sh.length := (List.getElem?_eq_some_iff.mp h).1
  have hce : ce ∈ sh := List.mem_of_getElem? h
  obtain ⟨x, v, a, he⟩ := F.at' ce hce
  -- each new one is one step further
  have hn : ∀ c ∈ new, c.1.sum = ce.1.sum + 1 ∧ remL P c.1 + 1 = remL P ce.1 ∧ ∃ x v, At P n w c.1 x v ∧ c.2 = envAt P e0 n x := fun c hc => by
    obtain ⟨r, hr, rfl⟩ := h3 c hc
    obtain ⟨q1, q2⟩ := (R.mem_later a).mp hr
    obtain ⟨ht, s, hs⟩ := a.bump_lt R q1
    have a' := a.next R q1
    refine ⟨?_, ?_, x ++ [r.1], v.erase r.1, ?_, ?_⟩
    · show r.2.sum = _
      rw [q2]; exact inc_sum (by rw [a.len]; exact ht)
    · show remL P r.2 + 1 = _
      rw [q2]; exact rem_inc (by rw [a.len]; exact R.hP.symm) hs
    · show At P n w r.2 _ _
      rw [q2]; exact a'
    · show app ce.2 (nx P ce.1 r.1) = (play P e0 (zeroL n) (x ++ [r.1])).1
      rw [play_append]
      show _ = app (play P e0 (zeroL n) x).1 (nx P (play P e0 (zeroL n) x).2 r.1)
      rw [he]
      congr 1
      -- the counts behind x are the cut
      have hpl : Pull P (cf (zeroL n)) w x v := by
        rw [zeroL, cf_zero]; exact a.pull
      have hx : okw P e0 (zeroL n) (x ++ v) = true := (hpl.run (by rw [zeroL, List.length_replicate]; exact R.hP.symm) R.ok).1
      have hx1 : okw P e0 (zeroL n) x = true := by rw [okw_append, Bool.and_eq_true] at hx; exact hx.1
      have hf := (fold_ok x e0 (zeroL n) (by rw [zeroL, List.length_replicate]; exact R.hP.symm)).2 hx1
      have hc : cf (play P e0 (zeroL n) x).2 = bumps c0 x := by
        have q := cnt_fold (fun z : Env × Cnt × Bool => z.2.1) (astep P) (astep_cnt P) x (e0, cf (zeroL n), true)
        have q : (x.foldl (astep P) (e0, cf (zeroL n), true)).2.1 = bumps (cf (zeroL n)) x := q
        rw [hf] at q
        rw [zeroL, cf_zero] at q
        exact q
      have : (play P e0 (zeroL n) x).2 = ce.1 := cf_ext (by rw [play_length, a.len, zeroL, List.length_replicate]) (by rw [hc, a.cnt])
      rw [this]
  have hdrop : (sh ++ new).drop (pl + 1) = sh.drop (pl + 1) ++ new := by rw [List.drop_append_of_le_length (by omega)]
  have hd0 : sh.drop pl = ce :: sh.drop (pl + 1) := by
    rw [List.drop_eq_getElem_cons hlt]
    have : sh[pl] = ce := by rw [List.getElem?_eq_getElem hlt] at h; exact Option.some.inj h
    rw [this]
  refine ⟨⟨fun c hc => ?_, ?_, fun ci hci c hc => ?_, fun i hi c hc r hr => ?_, ?_, h5 F.nd, ?_⟩, ?_⟩
  · rcases List.mem_append.mp hc with hc | hc
    · exact F.at' c hc
    · exact (hn c hc).2.2
  · rw [List.pairwise_append]
    refine ⟨F.srt, ?_, fun c hc b hb => ?_⟩
    · exact pw_all fun a b ha hb => by rw [(hn a ha).1, (hn b hb).1]; exact Nat.le_refl _
    · rw [(hn b hb).1]; exact F.near ce h c hc
  · have hge : ce.1.sum ≤ ci.1.sum := by
      have hp : (sh ++ new).Pairwise fun a b => a.1.sum ≤ b.1.sum := by
        rw [List.pairwise_append]
        refine ⟨F.srt, ?_, fun c hc b hb => ?_⟩
        · exact pw_all fun a b ha hb => by rw [(hn a ha).1, (hn b hb).1]; exact Nat.le_refl _
        · rw [(hn b hb).1]; exact F.near ce h c hc
      have h6 : (sh ++ new)[pl]? = some ce := by rw [List.getElem?_append_left hlt]; exact h
      obtain ⟨l1, e1⟩ := List.getElem?_eq_some_iff.mp h6
      obtain ⟨l2, e2⟩ := List.getElem?_eq_some_iff.mp hci
      have := List.pairwise_iff_getElem.mp hp pl (pl + 1) l1 l2 (Nat.lt_succ_self _)
      rw [e1, e2] at this
      exact this
    rcases List.mem_append.mp hc with hc | hc
    · have := F.near ce h c hc; omega
    · have := (hn c hc).1; omega
  · by_cases q : i < pl
    · rw [List.getElem?_append_left (by omega)] at hc
      have := F.clo i q c hc r hr
      rw [keysM_append]; exact List.mem_append_left _ this
    · have : i = pl := by omega
      subst this
      rw [List.getElem?_append_left hlt, h] at hc
      cases hc
      exact h4 r hr
  · rw [keysM_append]; exact List.mem_append_left _ F.zero
  · rw [List.length_append]; omega
  · rw [hdrop, hd0, mea_append]
    have e1 : mea P n (ce :: sh.drop (pl + 1)) = (n + 1) ^ remL P ce.1 + mea P n (sh.drop (pl + 1)) := by unfold mea; rw [List.map_cons, List.sum_cons]
    rw [e1]
    have key : mea P n new + 1 ≤ (n + 1) ^ remL P ce.1 := by
      cases hnew : new with
      | nil =>
        show 0 + 1 ≤ _
        exact Nat.pos_of_ne_zero (by simp)
      | cons c0' rest =>
        have hc0 := (hn c0' (by rw [hnew]; exact List.mem_cons_self)).2.1
        obtain ⟨m, hm⟩ : ∃ m, remL P ce.1 = m + 1 := ⟨remL P c0'.1, hc0.symm⟩
        have hsum : ∀ l : Shown, (∀ c ∈ l, c ∈ new) → mea P n l = l.length * (n + 1) ^ m := by
          intro l
          induction l with
          | nil => intro _; simp [mea]
          | cons b l ih =>
            intro hb
            have hb1 := (hn b (hb b List.mem_cons_self)).2.1
            have : remL P b.1 = m := by omega
            have ih := ih fun c hc => hb c (List.mem_cons_of_mem _ hc)
            unfold mea at ih ⊢
            rw [List.map_cons, List.sum_cons, ih, this, List.length_cons, Nat.add_mul, Nat.one_mul, Nat.add_comm]
        rw [← hnew, hsum new fun _ h => h, hm, Nat.pow_succ]
        have hl : new.length ≤ n := by
          refine Nat.le_trans h2 ?_
          unfold laterM
          rw [List.length_map]
          refine Nat.le_trans (List.length_filter_le _ _) ?_
          rw [List.length_range]; exact Nat.le_refl _
        have hp : 1 ≤ (n + 1) ^ m := Nat.pos_of_ne_zero (by simp)
        have := Nat.mul_le_mul_right ((n + 1) ^ m) hl
        rw [Nat.mul_comm ((n + 1) ^ m) (n + 1), Nat.add_mul, Nat.one_mul]
        omega
    omega
/-- all that is found -/
def foundM (P : Thr) (e0 : Env) (n : Nat) (w : List Nat) : Shown := findM P (laterM P n w) ((n + 1) ^ remL P (zeroL n)) 0 [(zeroL n, e0)]
theorem find_end (R : RunOk P e0 n w last) : ∀ (f pl : Nat) (sh : Shown), FOk P e0 n w pl sh → mea P n (sh.drop pl) ≤ f → FOk P e0 n w (findM P (laterM P n w) f pl sh).length (findM P (laterM P n w) f pl sh) := by
  intro f
  induction f with
  | zero =>
    intro pl sh F h
    have : sh.length ≤ pl := by
      refine Nat.le_of_not_lt fun q => ?_
      have := mea_pos (P := P) (n := n) (l := sh.drop pl) (ce := sh[pl]) (by rw [List.drop_eq_getElem_cons q]; exact List.mem_cons_self)
      omega
    have e : sh.length = pl := Nat.le_antisymm this F.le
    show FOk P e0 n w sh.length sh
    rw [e]; exact F
  | succ f ih =>
    intro pl sh F h
    unfold findM
    cases q : sh[pl]? with
    | none =>
      have : sh.length ≤ pl := List.getElem?_eq_none_iff.mp q
      have e : sh.length = pl := Nat.le_antisymm this F.le
      show FOk P e0 n w sh.length sh
      rw [e]; exact F
    | some ce =>
      obtain ⟨F', hm⟩ := F.step R q
      exact ih _ _ F' (by omega)
theorem found_ok (R : RunOk P e0 n w last) : FOk P e0 n w (foundM P e0 n w).length (foundM P e0 n w) :=
  find_end R _ _ _ (FOk.start P e0 n w) (by show mea P n [(zeroL n, e0)] ≤ _; unfold mea; simp)
end
def envOf (sh : Shown) (cut : List Nat) : Env := (sh.lookup cut).getD []
theorem lookup_mem {sh : Shown} {cut : List Nat} (h : cut ∈ keysM sh) : ∃ e, sh.lookup cut = some e ∧ (cut, e) ∈ sh := by
  induction sh with
  | nil => simp [keysM] at h
  | cons a sh ih =>
    obtain ⟨c, e⟩ := a
    rw [List.lookup_cons]
    cases q : cut == c with
    | true =>
      have : cut = c := by simpa using q
      subst this
      exact ⟨e, rfl, List.mem_cons_self⟩
    | false =>
      have hne : cut ≠ c := by simpa using q
      have : cut ∈ keysM sh := by
        rcases List.mem_cons.mp (show cut ∈ c :: keysM sh from h) with z | z
        · exact absurd z hne
        · exact z
      obtain ⟨e', h1, h2⟩ := ih this
      exact ⟨e', h1, List.mem_cons_of_mem _ h2⟩

/-! ### avoiding -/
def insK (l : List (List Nat)) (c : List Nat) : List (List Nat) := if c ∈ l then l else l ++ [c]
def avStep (lat : Lat) (last : List Nat) (meets : List Nat → Bool) (found : List (List Nat)) (cut : List Nat) : List (List Nat) :=
  if ((decide (cut = last) || (lat cut).any fun r => decide (r.2 ∈ found)) && !meets cut) = true then insK found cut else found
def avoidM (lat : Lat) (last : List Nat) (meets : List Nat → Bool) (order : List (List Nat)) : List (List Nat) := order.reverse.foldl (avStep lat last meets) []
theorem mem_insK {l : List (List Nat)} {c x : List Nat} : x ∈ insK l c ↔ x ∈ l ∨ x = c := by
  unfold insK
  by_cases h : c ∈ l
  · rw [if_pos h]
    exact ⟨.inl, fun z => z.elim id fun e => e ▸ h⟩
  · rw [if_neg h]; simp
theorem av_keep {lat : Lat} {last : List Nat} {meets : List Nat → Bool} : ∀ (l : List (List Nat)) (f : List (List Nat)) {x : List Nat}, x ∈ f → x ∈ l.foldl (avStep lat last meets) f
  | [], _, _, h => h
  | c :: l, f, x, h => by
    refine av_keep l _ ?_
    unfold avStep
    split
    · exact mem_insK.mpr (.inl h)
    · exact h
/-- each avoiding cut is the last, or has a next one that avoids; it does not meet -/
theorem av_next {lat : Lat} {last : List Nat} {meets : List Nat → Bool} : ∀ (l : List (List Nat)) (f : List (List Nat)), (∀ x ∈ f, meets x = false ∧ (x = last ∨ ∃ r ∈ lat x, r.2 ∈ f)) →
    ∀ x ∈ l.foldl (avStep lat last meets) f, meets x = false ∧ (x = last ∨ ∃ r ∈ lat x, r.2 ∈ l.foldl (avStep lat last meets) f)
  | [], _, h, x, hx => h x hx
  | c :: l, f, h, x, hx => by
    refine av_next l _ (fun y hy => ?_) x hx
    unfold avStep at hy ⊢
    by_cases q : ((decide (c = last) || (lat c).any fun r => decide (r.2 ∈ f)) && !meets c) = true
    · rw [if_pos q] at hy ⊢
      rcases mem_insK.mp hy with z | rfl
      · obtain ⟨h1, h2⟩ := h y z
        exact ⟨h1, h2.imp id fun ⟨r, hr, z⟩ => ⟨r, hr, mem_insK.mpr (.inl z)⟩⟩
      · simp only [Bool.and_eq_true, Bool.or_eq_true, decide_eq_true_eq, List.any_eq_true, Bool.not_eq_true'] at q
        exact ⟨q.2, q.1.imp id fun ⟨r, hr, z⟩ => ⟨r, hr, mem_insK.mpr (.inl z)⟩⟩
    · rw [if_neg q] at hy ⊢
      exact h y hy
theorem avoid_next {lat : Lat} {last : List Nat} {meets : List Nat → Bool} {order : List (List Nat)} : ∀ x ∈ avoidM lat last meets order, meets x = false ∧ (x = last ∨ ∃ r ∈ lat x, r.2 ∈ avoidM lat last meets order) :=
  av_next order.reverse [] (fun _ h => by cases h)
/-- a condition met at the end is avoided by none -/
theorem avoid_none {lat : Lat} {last : List Nat} {meets : List Nat → Bool} {order : List (List Nat)} (h : meets last = true) : avoidM lat last meets order = [] := by
  unfold avoidM
  generalize order.reverse = l
  induction l with
  | nil => rfl
  | cons c l ih =>
    rw [List.foldl_cons]
    have : avStep lat last meets [] c = [] := by
      unfold avStep
      by_cases e : c = last
      · subst e; simp [h]
      · simp [e]
    rw [this]; exact ih

/-! ### the least way to a cut that meets -/
def lexN : List Nat → List Nat → Bool
  | [], [] => false
  | [], _ :: _ => true
  | _ :: _, [] => false
  | a :: l, b :: m => if a = b then lexN l m else decide (a < b)
def min2 (a b : List Nat) : List Nat := if lexN b a = true then b else a
def minL (a : List Nat) (l : List (List Nat)) : List Nat := l.foldl min2 a
def putM : List (List Nat × List Nat) → List Nat → List Nat → List (List Nat × List Nat)
  | [], k, v => [(k, v)]
  | (a, b) :: l, k, v => if a = k then (a, v) :: l else (a, b) :: putM l k v
/-- a level: ways with their cuts -/
abbrev Lvl := List (List Nat × List Nat)
def lessStep (way : List Nat) (least : List (List Nat × List Nat)) (r : Nat × List Nat) : List (List Nat × List Nat) :=
  putM least r.2 (min2 ((least.lookup r.2).getD (way ++ [r.1])) (way ++ [r.1]))
def leastM (lat : Lat) (level : Lvl) : List (List Nat × List Nat) := level.foldl (fun least wc => (lat wc.2).foldl (lessStep wc.1) least) []
def nextLvl (lat : Lat) (level : Lvl) : Lvl := (leastM lat level).map fun p => (p.2, p.1)
def someM (lat : Lat) (meets : List Nat → Bool) : Nat → Lvl → Option (List Nat)
  | 0, _ => none
  | f + 1, level => if level = [] then none else match (level.filter fun wc => meets wc.2).map (·.1) with
    | a :: l => some (minL a l)
    | [] => someM lat meets f (nextLvl lat level)
theorem mem_putM {l : List (List Nat × List Nat)} {k v x : List Nat} : x ∈ (putM l k v).map (·.1) ↔ x ∈ l.map (·.1) ∨ x = k := by
  induction l with
  | nil => simp [putM]
  | cons a l ih =>
    obtain ⟨a, b⟩ := a
    unfold putM
    by_cases e : a = k
    · rw [if_pos e]; subst e
      rw [List.map_cons, List.map_cons, List.mem_cons]
      constructor
      · rintro (h | h)
        · exact .inl (.inl h)
        · exact .inl (.inr h)
      · rintro ((h | h) | h)
        · exact .inl h
        · exact .inr h
        · exact .inl h
    · rw [if_neg e, List.map_cons, List.mem_cons, ih, List.map_cons, List.mem_cons, or_assoc]
theorem mem_lessFold {way : List Nat} {x : List Nat} : ∀ (rs : List (Nat × List Nat)) (least : List (List Nat × List Nat)), x ∈ (rs.foldl (lessStep way) least).map (·.1) ↔ x ∈ least.map (·.1) ∨ ∃ r ∈ rs, x = r.2
  | [], least => by simp
  | r :: rs, least => by
    rw [List.foldl_cons, mem_lessFold rs]
    unfold lessStep
    rw [mem_putM]
    simp only [List.mem_cons, exists_eq_or_imp, or_assoc]
theorem mem_leastM {lat : Lat} {x : List Nat} (level : Lvl) : x ∈ (leastM lat level).map (·.1) ↔ ∃ wc ∈ level, ∃ r ∈ lat wc.2, x = r.2 := by
  have key : ∀ (level : Lvl) (least : List (List Nat × List Nat)), x ∈ (level.foldl (fun least wc => (lat wc.2).foldl (lessStep wc.1) least) least).map (·.1) ↔ x ∈ least.map (·.1) ∨ ∃ wc ∈ level, ∃ r ∈ lat wc.2, x = r.2 := by
    intro level
    induction level with
    | nil => intro least; simp
    | cons wc level ih =>
      intro least
      rw [List.foldl_cons, ih, mem_lessFold]
      simp only [List.mem_cons, exists_eq_or_imp, or_assoc]
  unfold leastM
  rw [key]; simp
theorem mem_nextLvl {lat : Lat} {x : List Nat} (level : Lvl) : x ∈ (nextLvl lat level).map (·.2) ↔ ∃ wc ∈ level, ∃ r ∈ lat wc.2, x = r.2 := by
  rw [← mem_leastM]
  unfold nextLvl
  rw [List.map_map]; rfl
def everyM (lat : Lat) (last : List Nat) (av : List (List Nat)) : Nat → List Nat → List Nat
  | 0, _ => []
  | f + 1, cut => if cut = last then [] else match (lat cut).filter fun r => decide (r.2 ∈ av) with
    | r :: _ => r.1 :: everyM lat last av f r.2
    | [] => []

section
variable {P : Thr} {e0 : Env} {n : Nat} {w last : List Nat}
/-- a row of next cuts to the last one -/
inductive Chain (lat : Lat) (last : List Nat) : List Nat → Nat → Prop
  | nil : Chain lat last last 0
  | cons {cut : List Nat} {r : Nat × List Nat} {m : Nat} : cut ≠ last → r ∈ lat cut → r.2.sum = cut.sum + 1 → Chain lat last r.2 m → Chain lat last cut (m + 1)
theorem RunOk.chain (R : RunOk P e0 n w last) : ∀ (v cut x : List Nat), At P n w cut x v → Chain (laterM P n w) last cut v.length := by
  intro v
  induction v with
  | nil =>
    intro cut x a
    rw [(R.last_iff a).mpr rfl]
    exact .nil
  | cons t v ih =>
    intro cut x a
    have h1 := fr_head P (cf cut) t v
    have a' := a.next R h1
    rw [List.erase_cons_head] at a'
    have hlt := (a.bump_lt R h1).1
    refine .cons (r := (t, inc cut t)) (fun e => ?_) ((R.mem_later a).mpr ⟨h1, rfl⟩) (inc_sum (by rw [a.len]; exact hlt)) (ih _ _ a')
    have := (R.last_iff a).mp e
    cases this
/-- if no way meets the condition, the first cut avoids it -/
theorem some_none {lat : Lat} {meets : List Nat → Bool} : ∀ (m : Nat) (cut : List Nat), Chain lat last cut m → ∀ (f : Nat) (level : Lvl), m < f → cut ∈ level.map (·.2) → someM lat meets f level = none →
    ∃ cs : List (List Nat), cs.head? = some cut ∧ cs.getLast? = some last ∧ (∀ c ∈ cs, meets c = false) ∧ (∀ i a b, cs[i]? = some a → cs[i + 1]? = some b → ∃ r ∈ lat a, r.2 = b ∧ b.sum = a.sum + 1) := by
  intro m
  induction m with
  | zero =>
    intro cut h f level hf hm hn
    cases h
    obtain ⟨f, rfl⟩ : ∃ g, f = g + 1 := ⟨f - 1, by omega⟩
    unfold someM at hn
    obtain ⟨wc, hwc, ewc⟩ := List.mem_map.mp hm
    have hne : level ≠ [] := fun z => by rw [z] at hwc; cases hwc
    rw [if_neg hne] at hn
    refine ⟨[last], rfl, rfl, fun c hc => ?_, fun i a b h1 h2 => by simp at h2⟩
    have hc : c = last := by simpa using hc
    subst hc
    cases q : meets c with
    | false => rfl
    | true =>
      have : wc.1 ∈ (level.filter fun wc => meets wc.2).map (·.1) := List.mem_map.mpr ⟨wc, List.mem_filter.mpr ⟨hwc, by rw [ewc]; exact q⟩, rfl⟩
      cases z : (level.filter fun wc => meets wc.2).map (·.1) with
      | nil => rw [z] at this; cases this
      | cons a l => rw [z] at hn; cases hn
  | succ m ih =>
    intro cut h f level hf hm hn
    cases h with
    | @cons _ r _ h1 h2 h3 h4 =>
      obtain ⟨f, rfl⟩ : ∃ g, f = g + 1 := ⟨f - 1, by omega⟩
      unfold someM at hn
      obtain ⟨wc, hwc, ewc⟩ := List.mem_map.mp hm
      have hne : level ≠ [] := fun z => by rw [z] at hwc; cases hwc
      rw [if_neg hne] at hn
      have hmt : meets cut = false := by
        cases q : meets cut with
        | false => rfl
        | true =>
          have : wc.1 ∈ (level.filter fun wc => meets wc.2).map (·.1) := List.mem_map.mpr ⟨wc, List.mem_filter.mpr ⟨hwc, by rw [ewc]; exact q⟩, rfl⟩
          cases z : (level.filter fun wc => meets wc.2).map (·.1) with
          | nil => rw [z] at this; cases this
          | cons a l => rw [z] at hn; cases hn
      cases z : (level.filter fun wc => meets wc.2).map (·.1) with
      | cons a l => rw [z] at hn; cases hn
      | nil =>
        rw [z] at hn
        obtain ⟨cs, q1, q2, q3, q4⟩ := ih r.2 h4 f (nextLvl lat level) (by omega) ((mem_nextLvl level).mpr ⟨wc, hwc, r, by rw [ewc]; exact h2, rfl⟩) hn
        refine ⟨cut :: cs, rfl, ?_, fun c hc => ?_, fun i a b g1 g2 => ?_⟩
        · cases cs with
          | nil => cases q1
          | cons d cs => rw [List.getLast?_cons_cons]; exact q2
        · rcases List.mem_cons.mp hc with rfl | hc
          · exact hmt
          · exact q3 c hc
        · cases i with
          | zero =>
            have g1 : cut = a := by simpa using g1
            have g2 : cs[0]? = some b := by simpa using g2
            rw [← List.head?_eq_getElem?, q1] at g2
            cases g2
            subst g1
            exact ⟨r, h2, rfl, h3⟩
          | succ i => exact q4 i a b (by simpa using g1) (by simpa using g2)
theorem avoid_chain {lat : Lat} {meets : List Nat → Bool} {order : List (List Nat)} (hs : order.Pairwise fun a b => a.sum ≤ b.sum) (hclo : ∀ c ∈ order, ∀ r ∈ lat c, r.2 ∈ order) :
    ∀ (cs : List (List Nat)) (cut : List Nat), cs.head? = some cut → cs.getLast? = some last → (∀ c ∈ cs, meets c = false) → (∀ i a b, cs[i]? = some a → cs[i + 1]? = some b → ∃ r ∈ lat a, r.2 = b ∧ b.sum = a.sum + 1) →
      cut ∈ order → cut ∈ avoidM lat last meets order := by
  intro cs
  induction cs with
  | nil => intro cut h; cases h
  | cons c cs ih =>
    intro cut h1 h2 h3 h4 hm
    have h1 : c = cut := by simpa using h1
    subst h1
    have hmc := h3 c List.mem_cons_self
    -- where it stands in the order
    obtain ⟨pre, post, hord⟩ := List.append_of_mem hm
    have hrev : order.reverse = post.reverse ++ c :: pre.reverse := by rw [hord]; simp
    unfold avoidM
    rw [hrev, List.foldl_append, List.foldl_cons]
    refine av_keep _ _ ?_
    cases cs with
    | nil =>
      have h2 : c = last := by simpa using h2
      unfold avStep
      rw [if_pos (by rw [hmc, decide_eq_true h2]; rfl)]
      exact mem_insK.mpr (.inr rfl)
    | cons d cs =>
      obtain ⟨r, hr, hrd, hsum⟩ := h4 0 c d rfl rfl
      have hd := ih d rfl (by rw [List.getLast?_cons_cons] at h2; exact h2) (fun x hx => h3 x (List.mem_cons_of_mem _ hx)) (fun i a b g1 g2 => h4 (i + 1) a b (by simpa using g1) (by simpa using g2)) (by rw [← hrd]; exact hclo c hm r hr)
      -- d stands behind c: it was met before
      have hdp : d ∈ post.reverse.foldl (avStep lat last meets) [] := by
        unfold avoidM at hd
        rw [hrev, List.foldl_append, List.foldl_cons] at hd
        refine Classical.byContradiction fun hno => ?_
        -- what is found later stands at or ahead of c
        have back : ∀ (l : List (List Nat)) (f : List (List Nat)), d ∈ l.foldl (avStep lat last meets) f → d ∈ f ∨ d ∈ l := by
          intro l
          induction l with
          | nil => intro f h; exact .inl h
          | cons b l ihl =>
            intro f h
            rw [List.foldl_cons] at h
            rcases ihl _ h with z | z
            · unfold avStep at z
              split at z
              · rcases mem_insK.mp z with z | rfl
                · exact .inl z
                · exact .inr List.mem_cons_self
              · exact .inl z
            · exact .inr (List.mem_cons_of_mem _ z)
        rw [← List.foldl_cons (f := avStep lat last meets) (b := post.reverse.foldl (avStep lat last meets) [])] at hd
        rcases back _ _ hd with z | z
        · exact hno z
        · have hle : d.sum ≤ c.sum := by
            rcases List.mem_cons.mp z with rfl | z
            · exact Nat.le_refl _
            · rw [hord, List.pairwise_append] at hs
              exact hs.2.2 d (List.mem_reverse.mp z) c List.mem_cons_self
          omega
      unfold avStep
      rw [if_pos]
      · exact mem_insK.mpr (.inr rfl)
      · rw [hmc]
        simp only [Bool.not_false, Bool.and_true, Bool.or_eq_true, List.any_eq_true, decide_eq_true_eq]
        exact .inr ⟨r, hr, by rw [hrd]; exact hdp⟩
end
end TC

/-! TcG: what the law asks, of the functions alone. -/
namespace TC
def lastM (n : Nat) (w : List Nat) : List Nat := (List.range n).map fun t => w.count t
def clocksL (P : Thr) (n : Nat) (w : List Nat) : List (List Nat) := (List.range w.length).map fun k => (List.range n).map (clkAt P w k)
def byT (w : List Nat) (rows : List (List Nat)) (t : Nat) : List (List Nat) := ((List.range rows.length).filter fun k => decide (w.getD k 0 = t)).map fun k => rows.getD k []
def frunM (P : Thr) (n : Nat) (w : List Nat) : List Nat := frun P n w (lastM n w)
def listedM (P : Thr) (e0 : Env) (n : Nat) : List (List Nat × List Nat) := goM P (remL P (zeroL n) + 1) e0 (zeroL n) [] []
def wholeL (P : Thr) (e0 : Env) (n : Nat) : List (List Nat) := wholeM P e0 (zeroL n) (remL P (zeroL n) + 1) [[]] []
def meetsM (P : Thr) (e0 : Env) (n : Nat) (w : List Nat) (x : Nat) (v : Int) (cut : List Nat) : Bool := decide (v ≤ eget (envOf (foundM P e0 n w) cut) x)
def someR (P : Thr) (e0 : Env) (n : Nat) (w : List Nat) (x : Nat) (v : Int) : Option (List Nat) := someM (laterM P n w) (meetsM P e0 n w x v) (remL P (zeroL n) + 2) [([], zeroL n)]
def avR (P : Thr) (e0 : Env) (n : Nat) (w : List Nat) (x : Nat) (v : Int) : List (List Nat) := avoidM (laterM P n w) (lastM n w) (meetsM P e0 n w x v) (keysM (foundM P e0 n w))
def everyR (P : Thr) (e0 : Env) (n : Nat) (w : List Nat) (x : Nat) (v : Int) : Option (List Nat) := if zeroL n ∈ avR P e0 n w x v then some (everyM (laterM P n w) (lastM n w) (avR P e0 n w x v) (remL P (zeroL n) + 1) (zeroL n)) else none
/-- a whole run -/
structure Whole (P : Thr) (e0 : Env) (n : Nat) (w : List Nat) : Prop where
  ok : okw P e0 (zeroL n) w = true
  stuck : stuckAt P (play P e0 (zeroL n) w)
section
variable {P : Thr} {e0 : Env} {n : Nat} {w : List Nat}
theorem zeroL_length (n : Nat) : (zeroL n).length = n := List.length_replicate
theorem cf_zeroL (n : Nat) : cf (zeroL n) = c0 := cf_zero n
theorem runOk_of (hP : P.length = n) (h : okw P e0 (zeroL n) w = true) : RunOk P e0 n w (lastM n w) := by
  have hx : Exi P w := okw_exi (by rw [zeroL_length]; exact hP.symm) (cf_zeroL n) h
  refine ⟨hP, h, by rw [lastM, List.length_map, List.length_range], ?_⟩
  funext t
  rw [bumps0]
  show (lastM n w).getD t 0 = _
  unfold lastM
  rw [List.getD_eq_getElem?_getD, List.getElem?_map]
  by_cases q : t < n
  · rw [List.getElem?_range q]; rfl
  · rw [List.getElem?_eq_none (by rw [List.length_range]; omega)]
    show 0 = _
    refine (Nat.eq_zero_of_not_pos fun z => q ?_).symm
    obtain ⟨s, hs⟩ := hx.all (u := t) (j := 0) z
    rw [← hP]; exact stp_lt hs
theorem rem_play : ∀ (w : List Nat) (e : Env) (d : List Nat), d.length = P.length → okw P e d w = true → w.length + remL P (play P e d w).2 = remL P d
  | [], _, _, _, _ => by simp [play]
  | t :: w, e, d, hl, h => by
    have h : (poss P e d t && okw P (app e (nx P d t)) (inc d t) w) = true := h
    rw [Bool.and_eq_true] at h
    obtain ⟨s, hs, _⟩ := poss_some h.1
    have h1 := rem_inc hl hs
    have h2 := rem_play w (app e (nx P d t)) (inc d t) (by rw [inc_length]; exact hl) h.2
    show w.length + 1 + remL P (play P (app e (nx P d t)) (inc d t) w).2 = _
    omega
theorem mem_listed (hP : P.length = n) {y : List Nat} : y ∈ (listedM P e0 n).map (·.1) ↔ Whole P e0 n y ∧ NF P c0 y y := by
  rw [List.mem_map]
  have hl : (zeroL n).length = P.length := by rw [zeroL_length]; exact hP.symm
  constructor
  · rintro ⟨⟨y', dd⟩, h, rfl⟩
    obtain ⟨u, e1, h1, h2, h3, _⟩ := (go_mem _ _ _ _ _ hl (Nat.lt_succ_self _) _ _).mp h
    have e1 : y' = u := by simpa using e1
    subst e1
    refine ⟨⟨h1, h2⟩, ?_⟩
    have h3 : good P (cf (zeroL n)) (fun o => decide (o ∈ ([] : List Nat))) y' = true := h3
    have e : (fun o => decide (o ∈ ([] : List Nat))) = fun _ => false := by funext o; simp
    rw [e, cf_zeroL] at h3
    exact (good_nf _ _).mp h3
  · rintro ⟨⟨h1, h2⟩, h3⟩
    refine ⟨(y, (play P e0 (zeroL n) y).2), (go_mem _ _ _ _ _ hl (Nat.lt_succ_self _) _ _).mpr ⟨y, by simp, h1, h2, ?_, rfl⟩, rfl⟩
    have e : (fun o => decide (o ∈ ([] : List Nat))) = fun _ => false := by funext o; simp
    rw [e, cf_zeroL]
    exact (good_nf _ _).mpr h3
theorem listed_nodup (hP : P.length = n) : ((listedM P e0 n).map (·.1)).Nodup := go_nodup _ _ _ _ _ (by rw [zeroL_length]; exact hP.symm) (Nat.lt_succ_self _)
theorem mem_whole (hP : P.length = n) {y : List Nat} : y ∈ wholeL P e0 n ↔ Whole P e0 n y := by
  have hl : (zeroL n).length = P.length := by rw [zeroL_length]; exact hP.symm
  unfold wholeL
  have R0 : Rows P e0 (zeroL n) [[]] (remL P (zeroL n) + 1) := by
    refine ⟨fun r hr => ?_, fun r hr => ?_⟩
    · have : r = [] := by simpa using hr
      subst this; rfl
    · have : r = [] := by simpa using hr
      subst this; rfl
  rw [mem_wholeM hl _ _ _ R0 _ (Nat.le_refl _)]
  constructor
  · rintro (h | ⟨r, hr, u, e, h1, h2⟩)
    · cases h
    · have : r = [] := by simpa using hr
      subst this
      have e : y = u := by simpa using e
      subst e
      exact ⟨h1, h2⟩
  · rintro ⟨h1, h2⟩
    exact .inr ⟨[], List.mem_cons_self, y, by simp, h1, h2⟩
theorem whole_ne (hP : P.length = n) : ∃ y, y ∈ wholeL P e0 n := by
  obtain ⟨u, h1, h2⟩ := stuck_ex (P := P) (remL P (zeroL n) + 1) e0 (zeroL n) (by rw [zeroL_length]; exact hP.symm) (Nat.lt_succ_self _)
  exact ⟨u, (mem_whole hP).mpr ⟨h1, h2⟩⟩

/-- a run and its first one -/
structure Twin (P : Thr) (e0 : Env) (n : Nat) (w o : List Nat) : Prop where
  listed : o ∈ (listedM P e0 n).map (·.1)
  ok : okw P e0 (zeroL n) o = true
  play : play P e0 (zeroL n) o = play P e0 (zeroL n) w
  bef : bef P w = bef P o
theorem twin (hP : P.length = n) (h : Whole P e0 n w) : Twin P e0 n w (frunM P n w) := by
  have R := runOk_of hP h.ok
  have N := R.frun_nf
  have hp : Pull P (cf (zeroL n)) w (frun P n w (lastM n w)) [] := by rw [cf_zeroL]; exact N.pull
  have hr := hp.run (by rw [zeroL_length]; exact hP.symm) h.ok
  rw [List.append_nil] at hr
  have hb := N.pull.bef
  rw [List.append_nil] at hb
  refine ⟨(mem_listed hP).mpr ⟨⟨hr.1, ?_⟩, N.idem⟩, hr.1, hr.2, hb⟩
  have := h.stuck
  unfold stuckAt at this ⊢
  rw [show TC.play P e0 (zeroL n) (frunM P n w) = TC.play P e0 (zeroL n) w from hr.2]
  exact this
theorem frun_listed (hP : P.length = n) {y : List Nat} (h : y ∈ (listedM P e0 n).map (·.1)) : frunM P n y = y := by
  obtain ⟨h1, h2⟩ := (mem_listed hP).mp h
  exact (runOk_of hP h1.ok).frun_nf.uniq h2
/-- just one of those that are listed has the same first run -/
theorem filter_one {α : Type} {l : List α} {p : α → Bool} {o : α} (hn : l.Nodup) (hm : o ∈ l) (hp : ∀ y ∈ l, p y = true ↔ y = o) : l.filter p = [o] := by
  induction l with
  | nil => cases hm
  | cons a l ih =>
    rw [List.nodup_cons] at hn
    rw [List.filter_cons]
    by_cases e : a = o
    · subst e
      rw [if_pos ((hp a List.mem_cons_self).mpr rfl)]
      congr 1
      rw [List.filter_eq_nil_iff]
      intro y hy q
      have := (hp y (List.mem_cons_of_mem _ hy)).mp q
      subst this
      exact hn.1 hy
    · have : ¬ p a = true := fun q => e ((hp a List.mem_cons_self).mp q)
      rw [if_neg this]
      refine ih hn.2 ?_ fun y hy => hp y (List.mem_cons_of_mem _ hy)
      rcases List.mem_cons.mp hm with z | z
      · exact absurd z.symm e
      · exact z
theorem same_one (hP : P.length = n) (h : Whole P e0 n w) {l : List (List Nat)} (hl : l.Perm ((listedM P e0 n).map (·.1))) : (l.filter fun y => decide (frunM P n w = frunM P n y)) = [frunM P n w] := by
  have T := twin hP h
  refine filter_one (hl.symm.nodup (listed_nodup hP)) (hl.symm.mem_iff.mp T.listed) fun y hy => ?_
  rw [decide_eq_true_eq, frun_listed hP (hl.mem_iff.mp hy)]
  exact ⟨fun z => z.symm, fun z => z.symm⟩

/-! ### clocks by thread -/
theorem posT_evt (w : List Nat) (t : Nat) : ∀ k, k ≤ w.length → (((List.range k).filter fun k => decide (w.getD k 0 = t)).map fun k => (evt w k).2) = List.range ((w.take k).count t)
  | 0, _ => by simp
  | k + 1, h => by
    have ih := posT_evt w t k (by omega)
    rw [List.range_succ, List.filter_append, List.map_append, ih, count_take_succ (by omega)]
    by_cases e : w.getD k 0 = t
    · rw [if_pos e.symm, List.range_succ, List.filter_cons, if_pos (by simpa using e)]
      simp only [List.filter_nil, List.map_cons, List.map_nil]
      congr 2
      show (w.take k).count (w.getD k 0) = _
      rw [e]
    · rw [if_neg fun z => e z.symm, List.filter_cons, if_neg (by simpa using e)]
      simp
theorem byT_alike {w' : List Nat} (hx : Exi P w) (hx' : Exi P w') (he : bef P w = bef P w') (t : Nat) : byT w (clocksL P n w) t = byT w' (clocksL P n w') t := by
  have form : ∀ w : List Nat, byT w (clocksL P n w) t = ((List.range w.length).filter fun k => decide (w.getD k 0 = t)).map fun k => (List.range n).map (clkAt P w k) := fun w => by
    unfold byT
    have hl : (clocksL P n w).length = w.length := by unfold clocksL; rw [List.length_map, List.length_range]
    rw [hl]
    refine List.map_congr_left fun k hk => ?_
    have hk := List.mem_range.mp (List.mem_filter.mp hk).1
    unfold clocksL
    rw [List.getD_eq_getElem?_getD, List.getElem?_map, List.getElem?_range hk]; rfl
  rw [form, form]
  have p1 := posT_evt w t w.length (Nat.le_refl _)
  have p2 := posT_evt w' t w'.length (Nat.le_refl _)
  rw [List.take_length] at p1 p2
  have hl1 := congrArg List.length p1
  have hl2 := congrArg List.length p2
  rw [List.length_map, List.length_range] at hl1 hl2
  have hc := cnt_of_bef he t
  refine List.ext_getElem (by rw [List.length_map, List.length_map]; omega) fun i h1 h2 => ?_
  rw [List.getElem_map, List.getElem_map]
  rw [List.length_map] at h1 h2
  have g1 : ∀ (w : List Nat) (p : (((List.range w.length).filter fun k => decide (w.getD k 0 = t)).map fun k => (evt w k).2) = List.range (w.count t)) (h : i < ((List.range w.length).filter fun k => decide (w.getD k 0 = t)).length),
      evt w ((List.range w.length).filter fun k => decide (w.getD k 0 = t))[i] = (t, i) ∧ ((List.range w.length).filter fun k => decide (w.getD k 0 = t))[i] < w.length := fun w p h => by
    have hm := List.getElem_mem h
    rw [List.mem_filter, List.mem_range, decide_eq_true_eq] at hm
    refine ⟨Prod.ext hm.2 ?_, hm.1⟩
    have q : (((List.range w.length).filter fun k => decide (w.getD k 0 = t)).map fun k => (evt w k).2)[i]? = (List.range (w.count t))[i]? := by rw [p]
    have hlen := congrArg List.length p
    rw [List.length_map, List.length_range] at hlen
    rw [List.getElem?_map, List.getElem?_eq_getElem h, List.getElem?_range (by omega)] at q
    exact Option.some.inj q
  obtain ⟨a1, a2⟩ := g1 w p1 h1
  obtain ⟨b1, b2⟩ := g1 w' p2 h2
  congr 1
  funext u
  exact clk_alike hx hx' he a2 b2 (a1.trans b1.symm) u

/-! ### what alike runs pass -/
theorem lastM_alike {w' : List Nat} (he : bef P w = bef P w') : lastM n w = lastM n w' := by
  unfold lastM
  refine List.map_congr_left fun t _ => ?_
  exact cnt_of_bef he t
theorem found_alike {w' : List Nat} (hx : Exi P w) (hx' : Exi P w') (he : bef P w = bef P w') : foundM P e0 n w = foundM P e0 n w' := by
  unfold foundM; rw [later_alike hx hx' he]
theorem some_alike {w' : List Nat} (hx : Exi P w) (hx' : Exi P w') (he : bef P w = bef P w') (x : Nat) (v : Int) : someR P e0 n w x v = someR P e0 n w' x v := by
  have hm : meetsM P e0 n w x v = meetsM P e0 n w' x v := by funext c; unfold meetsM; rw [found_alike hx hx' he]
  unfold someR
  rw [later_alike hx hx' he, hm]
theorem av_alike {w' : List Nat} (hx : Exi P w) (hx' : Exi P w') (he : bef P w = bef P w') (x : Nat) (v : Int) : avR P e0 n w x v = avR P e0 n w' x v := by
  have hm : meetsM P e0 n w x v = meetsM P e0 n w' x v := by funext c; unfold meetsM; rw [found_alike hx hx' he]
  unfold avR
  rw [later_alike hx hx' he, hm, lastM_alike he, found_alike hx hx' he]
theorem every_alike {w' : List Nat} (hx : Exi P w) (hx' : Exi P w') (he : bef P w = bef P w') (x : Nat) (v : Int) : everyR P e0 n w x v = everyR P e0 n w' x v := by
  unfold everyR
  rw [av_alike hx hx' he, later_alike hx hx' he, lastM_alike he]
theorem keys_srt (R : RunOk P e0 n w (lastM n w)) : (keysM (foundM P e0 n w)).Pairwise fun a b => a.sum ≤ b.sum := by
  unfold keysM
  rw [List.pairwise_map]
  exact (found_ok R).srt
theorem keys_clo (R : RunOk P e0 n w (lastM n w)) : ∀ c ∈ keysM (foundM P e0 n w), ∀ r ∈ laterM P n w c, r.2 ∈ keysM (foundM P e0 n w) := by
  intro c hc r hr
  obtain ⟨ce, hce, rfl⟩ := List.mem_map.mp hc
  obtain ⟨i, hi, e⟩ := List.mem_iff_getElem.mp hce
  exact (found_ok R).clo i hi ce (by rw [List.getElem?_eq_getElem hi, e]) r hr
/-- what every alike run passes some passes -/
theorem not_both (hP : P.length = n) (h : okw P e0 (zeroL n) w = true) (x : Nat) (v : Int) (h1 : everyR P e0 n w x v = none) (h2 : someR P e0 n w x v = none) : False := by
  have R := runOk_of hP h
  have ch := R.chain w _ _ (At.first P n w)
  have hlen := rem_play w e0 (zeroL n) (by rw [zeroL_length]; exact hP.symm) h
  obtain ⟨cs, q1, q2, q3, q4⟩ := some_none (meets := meetsM P e0 n w x v) w.length _ ch (remL P (zeroL n) + 2) [([], zeroL n)] (by omega) (by simp [zeroL]) h2
  have hm : zeroL n ∈ avR P e0 n w x v := avoid_chain (last := lastM n w) (keys_srt R) (keys_clo R) cs _ q1 q2 q3 q4 (found_ok R).zero
  unfold everyR at h1
  rw [if_pos hm] at h1
  cases h1
theorem last_env (hP : P.length = n) (h : okw P e0 (zeroL n) w = true) : envOf (foundM P e0 n w) (lastM n w) = envAt P e0 n w := by
  have R := runOk_of hP h
  have mem : ∀ (m : Nat) (cut : List Nat), Chain (laterM P n w) (lastM n w) cut m → cut ∈ keysM (foundM P e0 n w) → lastM n w ∈ keysM (foundM P e0 n w) := by
    intro m cut hc
    induction hc with
    | nil => exact id
    | cons _ h2 _ _ ih => exact fun hm => ih (keys_clo R _ hm _ h2)
  have hl := mem _ _ (R.chain w _ _ (At.first P n w)) (found_ok R).zero
  obtain ⟨e, h1, h2⟩ := lookup_mem hl
  unfold envOf
  rw [h1]
  obtain ⟨x, u, a, he⟩ := (found_ok R).at' _ h2
  have a : At P n w (lastM n w) x u := a
  have he : e = envAt P e0 n x := he
  have hu := (R.last_iff a).mp rfl
  subst hu
  show e = _
  rw [he]
  have hp : Pull P (cf (zeroL n)) w x [] := by rw [cf_zeroL]; exact a.pull
  have hr := (hp.run (by rw [zeroL_length]; exact hP.symm) h).2
  rw [List.append_nil] at hr
  unfold envAt
  rw [hr]
/-- a condition that holds at the end is passed by every alike run -/
theorem end_every (hP : P.length = n) (h : okw P e0 (zeroL n) w = true) (x : Nat) (v : Int) (hv : v ≤ eget (envAt P e0 n w) x) : everyR P e0 n w x v = none := by
  unfold everyR avR
  rw [avoid_none]
  · simp
  · unfold meetsM
    rw [last_env hP h]
    exact decide_eq_true hv
end
end TC

set_option maxHeartbeats 8000000
/-! TxA: a generator expression over anything that PI serves, its parts by the layer's judgements: the generator's own context, its turns. -/
namespace GX
open PySem PySem.Spec PyProof.Rows L2 GenW

/-- while the generator sleeps: a list that its consumer fills (some S), or nothing changes (none) -/
def SleptO (o : Option Addr) (v : Value) (s s' : Shared) : Prop := match o with
  | some S => Slept S v s s'
  | none => s'.os = s.os ∧ AllBare s'.gens ∧ ∀ b u, s.heap.get? b = some u → s'.heap.get? b = some u
def GIO (X : Cx) (o : Option Addr) (ys : List V) (σ : L2.St) (H : Hp) (s : Shared) : Prop := match o with
  | some S => GI X S [] ys σ H s
  | none => Inv X [] σ H s
def ApO (X : Cx) (o : Option Addr) : Prop := ∀ S, o = some S → Apart X S ∧ ∀ p ∈ X.pn, p.1 ≠ S
section
variable {X : Cx} {o : Option Addr} {ys : List V} {σ σ' : L2.St} {H H' : Hp} {s s' : Shared}
/-- the invariant with the consumer's pins -/
theorem GIO.inv (h : GIO X o ys σ H s) : ∃ pins, Inv X pins σ H s ∧ ∀ σ' H' s', Inv X pins σ' H' s' → GIO X o ys σ' H' s' := by
  cases o with
  | none => exact ⟨[], h, fun _ _ _ q => q⟩
  | some S =>
    obtain ⟨acc, c, r, I⟩ := h
    exact ⟨_, I, fun _ _ _ q => ⟨acc, c, r, q⟩⟩
theorem GIO.woken {x : V} {v : Value} (ha : ApO X o) (h : GIO X o ys σ H s) (rv : RelV x v) (z : SleptO o v s s') : GIO X o (ys ++ [x]) σ H s' := by
  cases o with
  | none =>
    obtain ⟨z1, z2, z3⟩ := z
    have I : Inv X [] σ H s := h
    exact I.call' (ch := []) z1 (Un.kept z3) (I.hok.kept z3) z2 fun b q => absurd q (by simp)
  | some S =>
    obtain ⟨a1, a2⟩ := ha S rfl
    exact GI.woken a2 (fun p hp => absurd hp (by simp)) a1 h rv z
/-- the consumer's list, as it stands -/
def LstO (o : Option Addr) (ys : List V) (H : Hp) (s : Shared) : Prop := ∀ S, o = some S → H S = none ∧ ∃ (acc : Array Value) (c : Nat), Vals ys acc.toList ∧ s.heap.get? S = some (lstObj acc c)
theorem GIO.lst (h : GIO X o ys σ H s) : LstO o ys H s := by
  rintro S rfl
  obtain ⟨h1, _, _, h2⟩ := GI.at h
  exact ⟨h1, h2⟩
end

/-- the generator's context: its frame over the frames that run, from the state at which it was made -/
abbrev gxc (X : Cx) (s : Shared) (H : Hp) (cenv : Env) (Aw : Around) (fp : List Addr) (pn : List (Addr × Obj)) : Cx :=
  { X with A := Aw.deeper cenv, s_0 := s, H_0 := H, env := cenv, outer := X.stack, stack := cenv :: X.stack, ex := fp, fn := fun _ => false, calm := true, pn := pn, xe := fun _ _ => False }
theorem over_gx {A : Around} {elt tg iter : Expr} {ifs : List Expr} {scope : Scope} {pos : Pos} {it acc : Value} {env : Env} :
    A.over (.compLoop (.GeneratorExp elt [⟨tg, iter, ifs, 0⟩] scope pos) 0 it acc env) [] = A.deeper env := by
  obtain ⟨hd, d, fr, gs, u⟩ := A
  rfl
theorem over_gs {A : Around} {elt tg iter : Expr} {ifs : List Expr} {scope : Scope} {pos : Pos} {it acc : Value} {env : Env} :
    A.over (.compStart (.GeneratorExp elt [⟨tg, iter, ifs, 0⟩] scope pos) 0 it acc env) [] = A.deeper env := by
  obtain ⟨hd, d, fr, gs, u⟩ := A
  rfl

/-! ### the turns -/
/-- what is wanted of a turn: W, its measure; Wt at a yield -/
def GTurn (J : It) (g : TG) (tt : TT) (te : TE) (vs : List Nat) (σ0 : L2.St) (W : Nat → List V → Nat → Hp → Prop) (Cn : V → Prop) (Wt : List V → V → Hp → Prop) (Fin : List V → Hp → Prop) : Prop :=
  ∀ i ys m H, W i ys m H → (J.stop i H ∧ Fin ys H) ∨ (J.go i H ∧ 0 < m ∧ ∃ Nx : List V → Hp → Prop, (∀ ys' H', Nx ys' H' → ∃ m', m' < m ∧ W (i + 1) ys' m' H') ∧ ∀ x H', J.yld i H x H' → g x σ0 H' fun σ2 H2 => wipe σ2 vs = σ0 ∧ tt σ2 H2 fun b H3 =>
    if b = true then te σ2 H3 fun y H4 => Wt ys y H4 ∧ ys.length < sizeLine ∧ (Cn y → Nx (ys ++ [y]) H4) else Nx ys H3)
def RX (X : Cx) (o : Option Addr) (σ0 : L2.St) (Fin : List V → Hp → Prop) : GenEnd := fun _ _ r s => r = .ok .next ∧ ∃ ys H, GIO X o ys σ0 H s ∧ Fin ys H
def YX (X : Cx) (o : Option Addr) (Cn : V → Prop) (Wt : List V → V → Hp → Prop) : Protocol := fun _ _ v s kap =>
  ∃ ys x σ H, RelV x v ∧ GIO X o ys σ H s ∧ Wt ys x H ∧ ys.length < sizeLine ∧ (Cn x → ∀ s', SleptO o v s s' → kap (.send .none) s')
theorem seg_gx {X : Cx} {o : Option Addr} {Aw : Around} {elt tg iter : Expr} {ifs : List Expr} {scope : Scope} {pos : Pos} {it : Addr} {fp : List Addr} {tn : Nat → Heap → Prop} {J : It} {g : TG} {tt : TT} {te : TE} {vs : List Nat} {σ0 : L2.St}
    {W : Nat → List V → Nat → Hp → Prop} {Cn : V → Prop} {Wt : List V → V → Hp → Prop} {Fin : List V → Hp → Prop}
    (hA : X.A = Aw.deeper X.env) (hc : X.calm = true) (hxe : X.xe = fun _ _ => False) (hco : X.env.scope.isCoroutine = false) (hap : ApO X o)
    (T : Turn X.prog X.w X.K tg J fp it tn) (hst : ∀ b ∈ fp, b ≠ X.env.locals ∧ b ∉ X.fs ∧ (b ∈ X.ex ∨ X.s_0.heap.objs.size ≤ b) ∧ (∀ x c, X.env.cells.lookup x = some c → c ≠ b) ∧ (∀ p ∈ X.pn, p.1 ≠ b) ∧ (∀ S, o = some S → S ≠ b))
    (pg : PG X tg g) (pt : PTs X ifs tt) (pe : PE X elt te) (turn : GTurn J g tt te vs σ0 W Cn Wt Fin) :
    ∀ (m i : Nat) (ys : List V) (s₀ s : Shared) (H : Hp), GIO X o ys σ0 H s → tn i s.heap → (∀ b ∈ fp, H b = none) → W i ys m H → ∀ n, m ≤ n →
      Seg (model X.prog X.w) Aw (RX X o σ0 Fin) (YX X o Cn Wt) n s₀ (.compLoop (.GeneratorExp elt [⟨tg, iter, ifs, 0⟩] scope pos) 0 (.ref it) .none X.env)
        ((model X.prog X.w).den (.compLoop (.GeneratorExp elt [⟨tg, iter, ifs, 0⟩] scope pos) 0 (.ref it) .none X.env)) [] s := by
  intro m
  induction m using Nat.strongRecOn with
  | ind m ih =>
    intro i ys s₀ s H hI hst' hfp hW n hn
    have stat : ∀ {pins : List (Addr × Obj)} {H' : Hp}, (∀ b ∈ fp, H' b = none) → (∀ p ∈ pins, ∀ b ∈ fp, p.1 ≠ b) → ∀ b ∈ fp, FpOk X pins H' b := fun {pins H'} hn hp b hb => by
      obtain ⟨h1, h2, h3, h4, h5, _⟩ := hst b hb
      refine ⟨hn b hb, h1, h2, h3, h4, fun p hpp => ?_⟩
      rcases List.mem_append.mp hpp with q | q
      · exact h5 p q
      · exact hp p q b hb
    show Seg _ Aw _ _ n s₀ _ ((compTurn (.GeneratorExp elt [⟨tg, iter, ifs, 0⟩] scope pos) 0 (.ref it) .none X.env).onRaise (leaving X.env)) [] s
    rw [compTurn_gen, Sem.onRaise_eq_wrap]
    refine seg_bind_wrap (wpAny_standAt ?_)
    have noX : ∀ {α : Type} {t : Sem α} {Q : α → Shared → Prop} {E : Value → Shared → Prop} {s : Shared}, wpAny (model X.prog X.w) X.A t Q X.xe s → wpAny (model X.prog X.w) (Aw.over (.compLoop (.GeneratorExp elt [⟨tg, iter, ifs, 0⟩] scope pos) 0 (.ref it) .none X.env) []) t Q E s := fun {α t Q E s} h => by
      rw [over_gx, ← hA]
      refine wpAny_mono h (fun _ _ q => q) fun e s' q => ?_
      rw [hxe] at q
      exact q.elim
    -- the consumer's pins
    have pinsOf : ∃ pins, Inv X pins σ0 H s ∧ (∀ σ' H' s', Inv X pins σ' H' s' → GIO X o ys σ' H' s') ∧ ∀ p ∈ pins, ∀ b ∈ fp, p.1 ≠ b := by
      cases o with
      | none => exact ⟨[], hI, fun _ _ _ q => q, fun p hp => absurd hp (by simp)⟩
      | some S =>
        obtain ⟨acc, c, r, I⟩ := hI
        refine ⟨_, I, fun _ _ _ q => ⟨acc, c, r, q⟩, fun p hp b hb => ?_⟩
        rcases List.mem_cons.mp hp with q | q
        · rw [q]
          exact (hst b hb).2.2.2.2.2 S rfl
        · exact absurd q (by simp)
    obtain ⟨pins, I, back, hpf⟩ := pinsOf
    rcases turn i ys m H hW with ⟨stop, hF⟩ | ⟨go, hm0, Nx, hNx, step⟩
    · refine seg_bind_wrap (noX (T.done X rfl rfl rfl hc i pins s σ0 H X.xe I (stat hfp hpf) hst' stop |> fun h => wpAny_mono h (fun r s1 ⟨hr, I1⟩ => ?_) fun _ _ e => e))
      subst hr
      exact seg_end (.ok .next) ⟨rfl, ys, H, back _ _ _ I1, hF⟩
    · refine seg_bind_wrap (noX (T.item X rfl rfl rfl hc i pins s σ0 H X.xe I (stat hfp hpf) hst' go |> fun h => wpAny_mono h (fun r s1 ⟨u, hr, h1⟩ => ?_) fun _ _ e => e))
      subst hr
      refine seg_bind_wrap (noX (wpAny_mono h1 (fun _ s2 ⟨x, H2, I2, r2, y2, st2, n2⟩ => ?_) fun _ _ e => e))
      have I2' := I2.pinned (stat n2 hpf) (T.obj _ _ st2)
      refine seg_bind_wrap (noX (wpAny_mono (pg.run _ s2 σ0 H2 x u _ I2' r2 (step x H2 y2)) (fun _ s3 ⟨σ3, H3, I3, hw3, q3⟩ => ?_) fun _ _ e => e))
      refine seg_bind_wrap (noX (wpAny_mono (pt.run _ s3 σ3 H3 _ I3 q3) (fun b s4 ⟨H4, I4, q4⟩ => ?_) fun _ _ e => e))
      -- the slots of the turn are forgotten
      have hl : σ0.length = σ3.length := by rw [← hw3, wipe_length]
      have hk : ∀ (j : Nat) v, σ0[j]? = some (some v) → σ3[j]? = some (some v) := fun j v e => by
        rw [← hw3] at e
        exact (wipe_some e).1
      have pinK : ∀ {s' : Shared} {H' : Hp} {σ' : L2.St}, Inv X (pins ++ pinsAt fp s2.heap) σ' H' s' → tn (i + 1) s'.heap ∧ ∀ b ∈ fp, H' b = none := fun {s' H' σ'} I' => by
        have pin' : ∀ b ∈ fp, ∀ ob, s2.heap.get? b = some ob → s'.heap.get? b = some ob ∧ H' b = none := fun b hb ob e =>
          let z := I'.pin (b, ob) (List.mem_append_right _ (List.mem_append_right _ (mem_pinsAt hb e)))
          ⟨z.1, z.2.1⟩
        refine ⟨T.keep _ _ _ st2 fun b hb ob e => (pin' b hb ob e).1, fun b hb => ?_⟩
        obtain ⟨ob, e, _⟩ := T.obj _ _ st2 b hb
        exact (pin' b hb ob e).2
      cases b with
      | false =>
        simp only [Bool.false_eq_true, if_false] at q4 ⊢
        obtain ⟨m', hm, w'⟩ := hNx _ _ q4
        obtain ⟨t4, n4⟩ := pinK I4
        exact seg_again rfl (ih m' hm (i + 1) ys s₀ s4 H4 (back _ _ _ (I4.unpinned.weak hl hk)) t4 n4 w' n (by omega))
      | true =>
        simp only [if_true] at q4 ⊢
        have hy : ∀ v, yieldOut X.env v = yieldValue v := fun v => by simp only [yieldOut, hco, Bool.false_eq_true, if_false]
        simp only [hy]
        rw [Sem.bind_eq_wrap', Sem.bind_eq_wrap', Sem.wrap_wrap, Sem.wrap_wrap]
        refine seg_wrap (noX (wpAny_mono (pe.run _ s4 σ3 H4 _ I4 q4) (fun v s5 ⟨y, H5, I5, r5, hWt, hlen, nx⟩ => ?_) fun _ _ e => e))
        obtain ⟨t5, n5⟩ := pinK I5
        obtain ⟨n', rfl⟩ : ∃ n', n = n' + 1 := ⟨n - 1, by omega⟩
        have G5 : GIO X o ys σ0 H5 s5 := back _ _ _ (I5.unpinned.weak hl hk)
        refine seg_at (seg_yield rfl rfl rfl ⟨ys, y, σ0, H5, r5, G5, hWt, hlen, fun hcn s'' hal => ?_⟩)
        obtain ⟨m', hm, w'⟩ := hNx _ _ (nx hcn)
        have G6 := G5.woken hap r5 hal
        have keepF : ∀ b ∈ fp, ∀ ob, s5.heap.get? b = some ob → s''.heap.get? b = some ob := fun b hb ob e => by
          cases o with
          | none => exact hal.2.2 b ob e
          | some S => exact Slept.keep hal b ob (fun q => (hst b hb).2.2.2.2.2 S rfl q.symm) e
        exact seg_again rfl (ih m' hm (i + 1) (ys ++ [y]) s'' s'' H5 G6 (T.keep _ _ _ t5 keepF) n5 w' n' (by omega))
end GX

set_option maxHeartbeats 8000000
/-! TxB: a generator expression is made. -/
namespace GX
open PySem PySem.Spec PyProof.Rows L2 GenW
theorem lt_of_succ {a b c : Nat} (h : b = a + 1) (q : b < c) : a < c := by omega
section
variable {X : Cx} {pins : List (Addr × Obj)} {σ : L2.St} {H : Hp} {s s' : Shared}
/-- the generator's frame as it starts -/
theorem gx_start {scope : Scope} {own : List (Str × Nat)} {fp : List Addr} {cenv : Env} {Aw : Around} {pn : List (Addr × Obj)} {code : Value} {m0 : Str → Option Value} (I : Inv X pins σ H s) (ok : BlkOk X.N X.env.scope scope own) (nocell : ∀ y ∈ scope.names, y.2 ≠ .cell) (hN : X.N.Nodup)
    (hfp : ∀ b ∈ fp, FpOk X pins H b ∧ b < s.heap.objs.size) (hAf : Aw.frames = some X.stack) (hAh : Aw.handled = none) (hcenv : cenv = genEnv scope (cloFrom X.env.cells scope.names []) s.heap.objs.size code builtinsNs X.env)
    (hos : s'.os = s.os) (hb : AllBare s'.gens) (kp : ∀ b o, s.heap.get? b = some o → s'.heap.get? b = some o) (hns : s'.heap.Ns s.heap.objs.size m0)
    (hpn : ∀ p ∈ pn, s'.heap.get? p.1 = some p.2 ∧ s.heap.objs.size < p.1 ∧ ∀ v, p.2.data ≠ .cell v) :
    Inv (gxc X s H cenv Aw fp pn) [] (wipe σ (own.map (·.2))) H s' := by
  have hfree : ∀ y ∈ scope.names, y.2 = .free → ∃ c, X.env.cells.lookup y.1 = some c := fun y hy e => by
    rcases ok.free y hy e with k | k
    · exact I.ok.has _ (.inl k)
    · exact I.ok.has _ (.inr k)
  have hL : cenv.locals = s.heap.objs.size := by rw [hcenv]; rfl
  have hcl : cenv.cells = cloFrom X.env.cells scope.names [] := by rw [hcenv]; rfl
  have hsc : cenv.scope = scope := by rw [hcenv]; rfl
  have cm : ∀ {y c}, (y, c) ∈ cloFrom X.env.cells scope.names [] → X.env.cells.lookup y = some c ∧ c < s.heap.objs.size := fun {y c} hm => by
    rcases cloFrom_mem hm with hm | ⟨h1, rfl⟩
    · cases hm
    · obtain ⟨c, hc⟩ := hfree _ h1 rfl
      rw [hc]
      obtain ⟨w, z⟩ := I.cell _ _ hc
      exact ⟨rfl, z.lt⟩
  have mem : ∀ {y c}, cenv.cells.lookup y = some c → X.env.cells.lookup y = some c ∧ c < s.heap.objs.size := fun {y c} e => by
    rw [hcl] at e
    exact cm (PySem.mem_of_lookup e)
  have look : ∀ {y}, scope.names.lookup y = some .free → ∃ c, cenv.cells.lookup y = some c ∧ X.env.cells.lookup y = some c := fun {y} hl => by
    have hy : (y, NameKind.free) ∈ scope.names := PySem.mem_of_lookup hl
    obtain ⟨c', e'⟩ := mem_lookup (cloFrom_has (cells := X.env.cells) (acc := []) hy)
    rw [← hcl] at e'
    exact ⟨c', e', (mem e').1⟩
  have hks : ∀ {y k}, scope.names.lookup y = some k → k ≠ .cell := fun {y k} e => nocell _ (PySem.mem_of_lookup e)
  have okB : (gxc X s H cenv Aw fp pn).Ok := by
    refine ⟨I.ok.mod, by show cenv.scope.kind = _; rw [hsc]; exact ok.kind, by show cenv.globals = _; rw [hcenv]; exact I.ok.glob, by show cenv.builtins = _; rw [hcenv]; rfl, by show s.heap.objs.size ≤ cenv.locals; rw [hL]; exact Nat.le_refl _,
      fun y z c e1 e2 => ?_, fun y hy => ?_, fun y c z e => ?_, fun _ => hAh, Around.frames_deeper hAf, .inr ⟨rfl, ?_⟩, fun b hb => ⟨?_, fun y c e z => ?_⟩, I.bs, Nat.le_trans I.ok.bsz I.sz, fun b o e hb => ?_, fun b hb z => ?_, I.stack, I.stkFree⟩
    · exact I.ok.inj y z c (mem e1).1 (mem e2).1
    · have key : ∀ k, cenv.scope.names.lookup y = some k → (k = .cell ∨ k = .free) → ∃ c, cenv.cells.lookup y = some c := fun k hk hk' => by
        rw [hsc] at hk
        rcases hk' with rfl | rfl
        · exact absurd rfl (hks hk)
        · obtain ⟨c, h1, _⟩ := look hk
          exact ⟨c, h1⟩
      rcases hy with hy | hy
      · exact key _ hy (.inl rfl)
      · exact key _ hy (.inr rfl)
    · cases z
    · show cenv.frame = some cenv.locals
      rw [hcenv]; rfl
    · show b ≠ cenv.locals
      rw [hL]; exact Nat.ne_of_lt (hfp b hb).2
    · have e : cenv.cells.lookup y = some c := e
      exact (hfp b hb).1.2.2.2.2.1 y c (mem e).1 z
    · rcases (hfp b hb).1.2.2.2.1 with z | z
      · exact I.ok.noex b o e z
      · exact absurd (Nat.lt_of_lt_of_le (Heap.lt_size e) (Nat.le_trans I.ok.bsz z)) (Nat.lt_irrefl _)
    · rcases List.mem_cons.mp (I.stkSub b z) with z | z
      · exact (hfp b hb).1.2.1 z
      · exact (hfp b hb).1.2.2.1 z
  refine ⟨okB, hos, hb, Un.kept kp, ⟨m0, ?_, fun i y av e1 e2 e3 => ?_⟩, fun y c e => ?_, ?_, fun y c e => ?_, fun p hp => ?_, I.hok.kept kp, by rw [wipe_length]; exact I.len⟩
  · show Heap.Ns _ cenv.locals _
    rw [hL]; exact hns
  · obtain ⟨e2, hne⟩ := wipe_some e2
    have hfr : scope.names.lookup y = some .free ∧ cenv.kindOf y = some .free := by
      have key : ∀ k, cenv.scope.names.lookup y = some k → k = .local ∨ k = .cell ∨ k = .free → scope.names.lookup y = some .free ∧ cenv.kindOf y = some .free := fun k hk hk' => by
        have hk0 := hk
        rw [hsc] at hk
        have no : ¬ (k = .local ∨ k = .cell) := fun hh => by
          rcases ok.own _ (PySem.mem_of_lookup hk) hh with e' | e'
          · obtain ⟨p, hp, hpy⟩ := List.mem_map.mp e'
            have e3 := ok.ix p hp
            have : p.1 = y := hpy
            rw [this] at e3
            exact hne (List.mem_map.mpr ⟨p, hp, nodup_ix hN e3 e1⟩)
          · exact e' (List.mem_of_getElem? e1)
        rcases hk' with rfl | rfl | rfl
        · exact absurd (.inl rfl) no
        · exact absurd (.inr rfl) no
        · exact ⟨hk, hk0⟩
      have e3 : Vis cenv.scope y := e3
      rcases e3 with e3 | e3 | e3
      · exact key _ e3 (.inl rfl)
      · exact key _ e3 (.inr (.inl rfl))
      · exact key _ e3 (.inr (.inr rfl))
    obtain ⟨m, hn, hl⟩ := I.loc
    have hvis : Vis X.env.scope y := (ok.free _ (PySem.mem_of_lookup hfr.1) rfl).elim (fun k => .inr (.inl k)) (fun k => .inr (.inr k))
    obtain ⟨w, r, q⟩ := hl i y av e1 e2 hvis
    refine ⟨w, r, .inr ⟨.inr hfr.2, ?_⟩⟩
    obtain ⟨c, h1, h2⟩ := look hfr.1
    rcases q with ⟨k, _⟩ | ⟨_, c', e', z⟩
    · have k : X.env.scope.names.lookup y = some .local := k
      rcases ok.free _ (PySem.mem_of_lookup hfr.1) rfl with k' | k' <;> rw [show X.env.scope.names.lookup y = _ from k'] at k <;> cases k
    · rw [h2] at e'; cases e'
      exact ⟨c, h1, z.keeps kp⟩
  · have e : cenv.cells.lookup y = some c := e
    obtain ⟨w, z⟩ := I.cell y c (mem e).1
    exact ⟨w, z.keeps kp⟩
  · show H cenv.locals = none
    rw [hL]; exact I.hok.fresh (Nat.le_refl _)
  · have e : cenv.cells.lookup y = some c := e
    exact I.freeC y c (mem e).1
  · have hp : p ∈ pn := by simpa using hp
    obtain ⟨h1, h2, h3⟩ := hpn p hp
    refine ⟨h1, I.hok.fresh (Nat.le_of_lt h2), ?_, fun hf => ?_, h3⟩
    · show p.1 ≠ cenv.locals
      rw [hL]; exact Nat.ne_of_gt h2
    · have hz := I.stkSub p.1 hf
      rcases List.mem_cons.mp hz with z | z
      · have := I.lt
        rw [← z] at this
        exact absurd (Nat.lt_trans this h2) (Nat.lt_irrefl _)
      · exact I.nofs (Nat.le_of_lt h2) z
/-- pins more in the generator's context -/
theorem gx_pins {s0 : Shared} {H0 : Hp} {cenv : Env} {Aw : Around} {fp : List Addr} {pn pins' : List (Addr × Obj)} (I : Inv (gxc X s0 H0 cenv Aw fp pn) [] σ H s)
    (h : ∀ p ∈ pins', s.heap.get? p.1 = some p.2 ∧ H p.1 = none ∧ p.1 ≠ cenv.locals ∧ p.1 ∉ frs X.stack ∧ ∀ v, p.2.data ≠ .cell v) : Inv (gxc X s0 H0 cenv Aw fp pn) pins' σ H s :=
  I.pins_of fun p hp => h p hp
/-- back in the context in which the generator was made -/
theorem gx_back {s0 : Shared} {H0 : Hp} {cenv : Env} {Aw : Around} {fp : List Addr} {pn pins' : List (Addr × Obj)} {σ' : L2.St} (I0 : Inv X pins σ H0 s0) (hfp : ∀ b ∈ fp, FpOk X pins H0 b) (I : Inv (gxc X s0 H0 cenv Aw fp pn) pins' σ' H s) : Inv X pins σ H s :=
  I0.call' (ch := fp) I.os I.base I.hok I.bare fun b hb => ⟨(hfp b hb).2.2.2.1, (hfp b hb).2.1, (hfp b hb).2.2.2.2.1, (hfp b hb).2.2.2.2.2⟩

/-! ### the generator is there, not yet begun -/
def RXo (X : Cx) (pins : List (Addr × Obj)) (σ : L2.St) (a : Addr) (g : Nat) (o : Option Addr) (Fin : List V → Hp → Prop) : GenEnd := fun _ _ r s => r = .ok .next ∧ s.heap.IsGen a g ∧ ∃ ys H, Inv X pins σ H s ∧ LstO o ys H s ∧ Fin ys H
def YXo (X : Cx) (pins : List (Addr × Obj)) (σ : L2.St) (a : Addr) (g : Nat) (o : Option Addr) (Cn : V → Prop) (Wt : List V → V → Hp → Prop) : Protocol := fun _ _ v s kap =>
  s.heap.IsGen a g ∧ ∃ ys x H, RelV x v ∧ Inv X pins σ H s ∧ LstO o ys H s ∧ Wt ys x H ∧ ys.length < sizeLine ∧ (Cn x → ∀ s', SleptO o v s s' → kap (.send .none) s')
/-- the generator at a: what its turns are worth, whoever draws -/
def GReady (X : Cx) (k : Nat) (pins : List (Addr × Obj)) (σ : L2.St) (H : Hp) (a : Addr) (s : Shared) (m : Nat) (Cn : V → Prop) (Wt : List V → V → Hp → Prop) (Fin : List V → Hp → Prop) : Prop :=
  ∃ (g : Nat) (c : Code), s.heap.IsGen a g ∧ s.gens[g]? = some (.fresh c) ∧ Inv X pins σ H s ∧
    ∀ (Aw : Around) (o : Option Addr) (s2 : Shared), Room k Aw → Aw.frames = some X.stack → (∀ S, o = some S → s.heap.objs.size ≤ S ∧ ∃ c, s2.heap.get? S = some (lstObj #[] c)) → (∀ b u, s.heap.get? b = some u → s2.heap.get? b = some u) → s2.os = s.os → AllBare s2.gens →
      Seg (model X.prog X.w) Aw (RXo X pins σ a g o Fin) (YXo X pins σ a g o Cn Wt) m s2 c ((model X.prog X.w).den c) [] s2
/-- its start: the loop follows -/
theorem seg_gstart {P : Program} {w : World} {K : PySem.W.Frag} {Aw : Around} {R : GenEnd} {Y : Protocol} {n : Nat} {s₀ s : Shared} {elt tg iter : Expr} {ifs : List Expr} {scope : Scope} {pos : Pos} {it : Addr} {fp : List Addr} {J : It} {tn : Nat → Heap → Prop} {cenv : Env}
    (T : Turn P w K tg J fp it tn) (st : tn 0 s.heap)
    (loop : Seg (model P w) Aw R Y n s₀ (.compLoop (.GeneratorExp elt [⟨tg, iter, ifs, 0⟩] scope pos) 0 (.ref it) .none cenv) ((model P w).den (.compLoop (.GeneratorExp elt [⟨tg, iter, ifs, 0⟩] scope pos) 0 (.ref it) .none cenv)) [] s) :
    Seg (model P w) Aw R Y n s₀ (.compStart (.GeneratorExp elt [⟨tg, iter, ifs, 0⟩] scope pos) 0 (.ref it) .none cenv)
      ((model P w).den (.compStart (.GeneratorExp elt [⟨tg, iter, ifs, 0⟩] scope pos) 0 (.ref it) .none cenv)) [] s := by
  show Seg _ Aw _ _ n s₀ _ ((compStart (.GeneratorExp elt [⟨tg, iter, ifs, 0⟩] scope pos) 0 (.ref it) .none cenv).onRaise (leaving cenv)) [] s
  unfold compStart
  rw [Sem.onRaise_eq_wrap]
  show Seg _ Aw _ _ n s₀ _ ((ask >>= _).wrap _ _ _ _) [] s
  refine seg_bind_wrap (wpAny_askSetting ?_)
  split
  · exact seg_again rfl loop
  · first
      | exact seg_bind_wrap (wpAny_rule (seg_bind_wrap (wpAny_standAt (seg_bind_wrap (T.self _ 0 s _ _ st (seg_again rfl loop))))))
      | (refine seg_bind_wrap (wpAny_rule ?_); show Seg _ Aw _ _ n s₀ _ ((standAt iter.pos >>= _).wrap _ _ _ _) [] s; exact seg_bind_wrap (wpAny_standAt (seg_bind_wrap (T.self _ 0 s _ _ st (seg_again rfl loop)))))
end

section
variable {X : Cx} {pins : List (Addr × Obj)} {σ : L2.St} {H : Hp} {s : Shared}
/-- what the reading of the generator's parts asks: the walk, then W, Wt, Fin with what is wanted of them -/
def tGen (wi : TI) (g : TG) (tt : TT) (te : TE) (vs : List Nat) (P : Addr) (Cn : V → Prop) (R : Nat → (List V → V → Hp → Prop) → (List V → Hp → Prop) → Hp → Prop) : L2.St → Hp → Prop := fun σ H => wi σ H fun J H1 => GxR.TabG H1 P ∧
  ∀ H2, GxR.Tabbed P H1 H2 → ∃ (W : Nat → List V → Nat → Hp → Prop) (Wt : List V → V → Hp → Prop) (Fin : List V → Hp → Prop) (m : Nat), W 0 [] m H2 ∧ GTurn J g tt te vs (wipe σ vs) W Cn Wt Fin ∧ R m Wt Fin H2
theorem gx_make {c P : Addr} {elt tg iter : Expr} {ifs : List Expr} {gpos : Pos} {scope : Scope} {own : List (Str × Nat)} {wi : TI} {g : TG} {tt : TT} {te : TE} {k : Nat} {Q' : Value → Shared → Prop} {Cn : V → Prop} {R : Nat → (List V → V → Hp → Prop) → (List V → Hp → Prop) → Hp → Prop}
    (hcalm : X.calm = true) (hr : Room k X.A) (TB : GxR.TabB X.base X.mg c P) (hcode : X.env.code = .ref c) (hN : X.N.Nodup) (hi : PI X tg iter wi) (ok : BlkOk X.N X.env.scope scope own) (hco : scope.isCoroutine = false) (nocell : ∀ y ∈ scope.names, y.2 ≠ .cell) (hdot : scope.names.lookup (".0" : Str) = some NameKind.local)
    (hg : ∀ (s : Shared) (H : Hp) (C : Addr) (cl : List (Str × Addr)) (code : Value) (Aw : Around) (fp : List Addr) (pn : List (Addr × Obj)), Room k Aw → PG (gxc X s H (genEnv scope cl C code builtinsNs X.env) Aw fp pn) tg g)
    (ht : ∀ (s : Shared) (H : Hp) (C : Addr) (cl : List (Str × Addr)) (code : Value) (Aw : Around) (fp : List Addr) (pn : List (Addr × Obj)), Room k Aw → PTs (gxc X s H (genEnv scope cl C code builtinsNs X.env) Aw fp pn) ifs tt)
    (he : ∀ (s : Shared) (H : Hp) (C : Addr) (cl : List (Str × Addr)) (code : Value) (Aw : Around) (fp : List Addr) (pn : List (Addr × Obj)), Room k Aw → PE (gxc X s H (genEnv scope cl C code builtinsNs X.env) Aw fp pn) elt te)
    (hs : ∀ v, genFold iter X.env v = pure v) (I : Inv X pins σ H s) (h : tGen wi g tt te (own.map (·.2)) P Cn R σ H)
    (hQ : ∀ m Wt Fin H2 a s5, R m Wt Fin H2 → GReady X k pins σ H2 a s5 m Cn Wt Fin → Q' (.ref a) s5) :
    wpAny (model X.prog X.w) X.A (eval (.GeneratorExp elt [⟨tg, iter, ifs, 0⟩] scope gpos) X.env) Q' X.xe s := by
  have hfree : ∀ y ∈ scope.names, y.2 = .free → ∃ c, X.env.cells.lookup y.1 = some c := fun y hy e => by
    rcases ok.free y hy e with k | k
    · exact I.ok.has _ (.inl k)
    · exact I.ok.has _ (.inr k)
  refine wpAny_GeneratorExp_make hco (closure_ok hfree) nocell hdot ok.kind (by have := hr.dp; omega) ?_ hs
  refine thn (hi.run pins s σ H _ I h) fun xv s1 hx => thn hx fun itv s2 h2 => ?_
  obtain ⟨it, fp, tn, J, H2, e, I2, T, st2, f2, ⟨ps, hP, htr⟩, q⟩ := h2
  subst e
  refine ⟨I2.nolimit, ?_⟩
  have hPs : s2.heap.get? P = some { cls := .none, data := .fields ps } := I2.hok P _ hP
  have cd : PySem.W.CodeHd s2.heap c P := TB.code.keeps fun b u e => I2.bk b u e
  have hPfp : ∀ b ∈ fp, b ≠ P := fun b hb z => by
    have := (f2 b hb).1
    rw [z, hP] at this
    cases this
  have hcP : cStatics ≠ P := fun e => by
    obtain ⟨_, hns, _⟩ := I2.nolimit
    obtain ⟨o', es, ep, ho, hd, _⟩ := hns
    rw [e, hPs] at ho
    cases ho
    cases hd
  have cont : ∀ (code : Value) (h3 : Heap) (tk : Nat) (more : Array Value), Heap.ExtBut P s2.heap h3 → s2.heap.objs.size ≤ h3.objs.size → h3.get? P = some { cls := .none, data := .fields (ps ++ more) } → TriplesOk (ps ++ more).toList →
      wpAny (model X.prog X.w) X.A (builtinsFor X.env.globals X.env.builtins) (fun bi s₄ =>
        ∀ h', h'.Ns s₄.heap.objs.size (fun y => if y = ".0" then some (.ref it) else none) → Heap.SameBut s₄.heap.objs.size (s₄.heap.push { cls := .type "frame", data := .dict #[] }) h' →
          Q' (.ref h'.objs.size) { s₄ with
            gens := s₄.gens.push (.fresh (.compStart (.GeneratorExp elt [⟨tg, iter, ifs, 0⟩] scope gpos) 0 (.ref it) .none (genEnv scope (cloFrom X.env.cells scope.names []) s₄.heap.objs.size code bi X.env))),
            toks := s₄.toks + 1 + 1 + 1,
            heap := h'.push { cls := .type "generator", data := .fields #[.int s₄.gens.size 0, .str "<genexpr>" (s₄.toks + 1), .str (X.env.qual ++ "<genexpr>") (s₄.toks + 1 + 1)] } }) X.xe { s2 with heap := h3, toks := tk } := by
    intro code h3 tk more hx hsz hP3 ht3
    obtain ⟨bm, ob, e1, e2, e3, e4, e5, e6, e7, e8⟩ := TB.bm
    have keep3 : ∀ b u, b ≠ P → s2.heap.get? b = some u → h3.get? b = some u := fun b u hb e => hx b u hb e
    refine wpAny_builtinsFor (m := X.mg) (by rw [I2.ok.glob]; exact (I2.mod.glob.keeps I2.bk).extBut hx TB.gP) e1 e2 (keep3 _ _ e4 (I2.bk _ _ e5)) e6 e7 e8 ?_
    intro h' hns hsb
    -- the state in which the table has grown
    have I3 : Inv X pins σ (upd H2 P (.tbl (ps ++ more))) { s2 with heap := h3, toks := tk } := by
      have J := GxR.inv_tab (more := more) (h' := h3) (g' := s2.gens) (d' := s2.drawn) (t' := tk) I2 hP keep3 hP3 I2.bare
      exact J
    generalize hH3 : upd H2 P (.tbl (ps ++ more)) = H3 at I3
    have htab : GxR.Tabbed P H2 H3 := ⟨⟨ps ++ more, by rw [← hH3, upd_same], ht3⟩, fun b hb => by rw [← hH3, upd_ne hb]⟩
    generalize hs3 : ({ s2 with heap := h3, toks := tk } : Shared) = s3 at I3 hns hsb ⊢
    have e3h : s3.heap = h3 := by rw [← hs3]
    obtain ⟨W, Wt, Fin, m, w0, turn, hR⟩ := q H3 htab
    have st3 : tn 0 s3.heap := T.keep _ _ _ st2 fun b hb ob e => by rw [e3h]; exact keep3 b ob (hPfp b hb) e
    have f3 : ∀ b ∈ fp, FpOk X pins H3 b ∧ b < s3.heap.objs.size := fun b hb => by
      obtain ⟨ob, e, _⟩ := T.obj _ _ st3 b hb
      refine ⟨⟨?_, (f2 b hb).2⟩, Heap.lt_size e⟩
      rw [← hH3, upd_ne (hPfp b hb)]
      exact (f2 b hb).1
    have hsz' : h'.objs.size = s3.heap.objs.size + 1 := by rw [hsb.1, Heap.size_push]
    have kp' : ∀ b u, s3.heap.get? b = some u → h'.get? b = some u := fun b u e => hsb.extBut b u (Nat.ne_of_lt (Heap.lt_size e)) (Heap.get?_push_of_some _ e)
    refine hQ m Wt Fin H3 _ _ hR ⟨s3.gens.size, _, ⟨_, _, _, Heap.get?_push_size _ rfl, rfl, rfl, rfl⟩, Array.getElem?_push_size .., ?_, ?_⟩
    · exact I3.call' (ch := []) rfl (Un.kept fun b u e => Heap.get?_push_of_some _ (kp' b u e)) (I3.hok.kept fun b u e => Heap.get?_push_of_some _ (kp' b u e)) (I3.bare.push rfl) fun b z => absurd z (by simp)
    · intro Aw o s5 hrw hfr hSo hk5 hos5 hba5
      generalize hgo : ({ cls := .type "generator", data := .fields #[.int s3.gens.size 0, .str "<genexpr>" (s3.toks + 1), .str (X.env.qual ++ "<genexpr>") (s3.toks + 1 + 1)] } : Obj) = go at hSo hk5 ⊢
      have hgod : ∀ v, go.data ≠ .cell v := fun v z => by rw [← hgo] at z; cases z
      have hpush : ∀ h : Heap, (h.push go).get? h.objs.size = some go := fun h => by rw [← hgo]; exact Heap.get?_push_size _ rfl
      have ega : s5.heap.get? h'.objs.size = some go := hk5 _ _ (hpush h')
      have k5 : ∀ b u, s3.heap.get? b = some u → s5.heap.get? b = some u := fun b u e => hk5 b u (Heap.get?_push_of_some _ (kp' b u e))
      have hns5 : s5.heap.Ns s3.heap.objs.size (fun y => if y = ".0" then some (.ref it) else none) := hns.keeps fun b u e => hk5 b u (Heap.get?_push_of_some _ e)
      have Ig : Inv (gxc X s3 H3 (genEnv scope (cloFrom X.env.cells scope.names []) s3.heap.objs.size code builtinsNs X.env) Aw fp [(h'.objs.size, go)]) [] (wipe σ (own.map (·.2))) H3 s5 :=
        gx_start I3 ok nocell hN f3 hfr hrw.hd rfl hos5 hba5 k5 hns5 fun p hp => by
          rw [List.mem_singleton.mp hp]
          refine ⟨ega, ?_, hgod⟩
          show s3.heap.objs.size < h'.objs.size
          rw [hsz']; exact Nat.lt_succ_self _
      have hgen : ∀ h : Heap, h.get? h'.objs.size = some go → h.IsGen h'.objs.size s3.gens.size := fun h e => ⟨go, _, _, e, by rw [← hgo], by rw [← hgo], by rw [← hgo]⟩
      have hSlt : ∀ S, o = some S → h'.objs.size < S := fun S hS => by
        obtain ⟨h1, _⟩ := hSo S hS
        have h1 : (h'.push go).objs.size ≤ S := h1
        rw [Heap.size_push] at h1
        exact h1
      have hap : ApO (gxc X s3 H3 (genEnv scope (cloFrom X.env.cells scope.names []) s3.heap.objs.size code builtinsNs X.env) Aw fp [(h'.objs.size, go)]) o := fun S hS => by
        have h1 := hSlt S hS
        have h2 : s3.heap.objs.size < S := lt_of_succ hsz' h1
        refine ⟨⟨Nat.le_of_lt h2, Nat.ne_of_gt h2, fun x cc e z => ?_⟩, fun p hp => ?_⟩
        · obtain ⟨v, zz⟩ := Ig.cell x cc e
          have e : (cloFrom X.env.cells scope.names []).lookup x = some cc := e
          rcases cloFrom_mem (PySem.mem_of_lookup e) with hm | ⟨hm1, hm2⟩
          · cases hm
          · obtain ⟨c', hc'⟩ := hfree _ hm1 rfl
            rw [hc'] at hm2
            have hm2 : cc = c' := hm2
            obtain ⟨v', z'⟩ := I3.cell _ _ hc'
            have := z'.lt
            rw [← hm2, z] at this
            exact absurd (Nat.lt_trans this h2) (Nat.lt_irrefl _)
        · rw [List.mem_singleton.mp hp]
          exact Nat.ne_of_lt h1
      have GIg : GIO (gxc X s3 H3 (genEnv scope (cloFrom X.env.cells scope.names []) s3.heap.objs.size code builtinsNs X.env) Aw fp [(h'.objs.size, go)]) o [] (wipe σ (own.map (·.2))) H3 s5 := by
        cases o with
        | none => exact Ig
        | some S =>
          obtain ⟨h1, cc, e⟩ := hSo S rfl
          have h2 := hSlt S rfl
          have h3 : s3.heap.objs.size < S := lt_of_succ hsz' h2
          refine ⟨#[], cc, .nil, gx_pins Ig fun p hp => ?_⟩
          rcases List.mem_cons.mp hp with z | z
          · rw [z]
            refine ⟨e, I3.hok.fresh (Nat.le_of_lt h3), Nat.ne_of_gt h3, fun hf => ?_, fun v q => by cases q⟩
            rcases List.mem_cons.mp (I3.stkSub S hf) with z | z
            · have := I3.lt
              rw [← z] at this
              exact absurd (Nat.lt_trans this h3) (Nat.lt_irrefl _)
            · exact I3.nofs (Nat.le_of_lt h3) z
          · exact absurd z (by simp)
      have hst : ∀ b ∈ fp, b ≠ s3.heap.objs.size ∧ b ∉ frs X.stack ∧ (b ∈ fp ∨ s3.heap.objs.size ≤ b) ∧ (∀ x c, (cloFrom X.env.cells scope.names []).lookup x = some c → c ≠ b) ∧ (∀ p ∈ [(h'.objs.size, go)], p.1 ≠ b) ∧ (∀ S, o = some S → S ≠ b) := fun b hb => by
        obtain ⟨q1, q2⟩ := f3 b hb
        refine ⟨Nat.ne_of_lt q2, Ig.ok.exfs b hb, .inl hb, fun x c e => (Ig.ok.exf b hb).2 x c e, fun p hp => ?_, fun S hS => ?_⟩
        · rw [List.mem_singleton.mp hp]
          show h'.objs.size ≠ b
          exact Nat.ne_of_gt (Nat.lt_of_lt_of_le q2 (Nat.le_of_lt (Nat.lt_of_lt_of_eq (Nat.lt_succ_self _) hsz'.symm)))
        · exact Nat.ne_of_gt (Nat.lt_trans q2 (lt_of_succ hsz' (hSlt S hS)))
      have loop := seg_gx (X := gxc X s3 H3 (genEnv scope (cloFrom X.env.cells scope.names []) s3.heap.objs.size code builtinsNs X.env) Aw fp [(h'.objs.size, go)]) (o := o) (Aw := Aw) (iter := iter) (ifs := ifs) (scope := scope) (pos := gpos) (Wt := Wt) (Fin := Fin)
        rfl rfl rfl hco hap T hst (hg _ _ _ _ _ _ _ _ hrw) (ht _ _ _ _ _ _ _ _ hrw) (he _ _ _ _ _ _ _ _ hrw) turn m 0 [] s5 s5 H3 GIg (T.keep _ _ _ st3 fun b hb ob e => k5 b ob e) (fun b hb => (f3 b hb).1.1) w0 m (Nat.le_refl _)
      have start := seg_gstart T (T.keep _ _ _ st3 fun b hb ob e => k5 b ob e) loop
      refine seg_imp (fun n s₀ r s6 hR6 => ?_) (fun n s₀ v s6 kap kap' hkk hY => ?_) m start
      · obtain ⟨r1, ys, H6, G6, hF⟩ := hR6
        have L6 := G6.lst
        obtain ⟨pins6, I6, _⟩ := G6.inv
        exact ⟨r1, hgen _ (I6.pin (h'.objs.size, go) (List.mem_append_left _ (List.mem_singleton.mpr rfl))).1, ys, H6, gx_back I3 (fun b hb => (f3 b hb).1) I6, L6, hF⟩
      · obtain ⟨ys, x, σ6, H6, rv, G6, hw, hl, hal⟩ := hY
        have L6 := G6.lst
        obtain ⟨pins6, I6, _⟩ := G6.inv
        exact ⟨hgen _ (I6.pin (h'.objs.size, go) (List.mem_append_left _ (List.mem_singleton.mpr rfl))).1, ys, x, H6, rv, gx_back I3 (fun b hb => (f3 b hb).1) I6, L6, hw, hl, fun hc s' z => hkk _ _ (hal hc s' z)⟩
  cases hf : codeAmong gpos ps.toList with
  | none =>
    refine wpAny_genexprCodeX hcode (cd.code hPs htr) (cd.tab hPs) hf fun c' h' tk hx hge hlt hco' _ htab' _ => ?_
    obtain ⟨o1, vs, f1, tf, fl, tg1, inF, tx, tt1, op, _, _, _, _, _, _, _, _, _, htr', _⟩ := hco'
    exact cont _ h' tk _ hx (Nat.le_trans hge (Nat.le_of_lt hlt)) htab'.2 htr'
  | some cv =>
    refine wpAny_genexprCode_hit hcode (cd.code hPs htr) hf ?_
    have := cont cv s2.heap s2.toks #[] (Heap.ExtBut.refl _ _) (Nat.le_refl _) (by rw [hPs]; simp) (by simpa using htr)
    exact this
end
end GX

set_option maxHeartbeats 8000000
/-! TxC: what draws from a generator expression: collect, any, all. -/
namespace GX
open PySem PySem.Spec PyProof.Rows L2 GenW

theorem goes_imp {M : Model} {A : Around} {R R' : GenEnd} {Y Y' : Protocol} (hR : ∀ n s₀ r s, R n s₀ r s → R' n s₀ r s)
    (hY : ∀ n s₀ v s kap kap', (∀ r s', kap r s' → kap' r s') → Y n s₀ v s kap → Y' n s₀ v s kap') {n : Nat} {gs : GenState} {r : Resume} {s : Shared} (h : gs.Goes M A R Y n r s) : gs.Goes M A R' Y' n r s := by
  cases gs with
  | fresh c => exact ⟨h.1, seg_imp hR hY n h.2⟩
  | suspended k l c p fs cl => exact seg_imp hR hY n h
  | running => exact h.elim
  | finished => exact h.elim
section
variable {X : Cx} {pins : List (Addr × Obj)} {σ : L2.St} {H : Hp} {s s' : Shared}
theorem inv_gens {gn : Array GenState} (I : Inv X pins σ H s) (hb : AllBare gn) : Inv X pins σ H { s with gens := gn } :=
  I.call' (ch := []) rfl (Un.kept fun _ _ e => e) (I.hok.kept fun _ _ e => e) hb fun b z => absurd z (by simp)

/-- the form that next_genG asks -/
def RXp (X : Cx) (pins : List (Addr × Obj)) (σ : L2.St) (a : Addr) (g : Nat) (o : Option Addr) (Fin : List V → Hp → Prop) : GenEnd := fun n s₀ r s1 =>
  ((r = .ok (.ret .none) ∨ r = .ok .next) ∧ (fun (_ : Nat) (_ s1 : Shared) => s1.heap.IsGen a g ∧ ∃ ys H, Inv X pins σ H s1 ∧ LstO o ys H s1 ∧ Fin ys H) n s₀ s1) ∨ ∃ e, r = .error e ∧ (fun (_ : Value) (_ : Shared) => False) e s1
/-- drawn from, it may be drawn from again -/
def GoX (X : Cx) (pins : List (Addr × Obj)) (σ : L2.St) (a : Addr) (g : Nat) (o : Option Addr) (Cn : V → Prop) (Wt : List V → V → Hp → Prop) (Fin : List V → Hp → Prop) (A : Around) (n : Nat) (s : Shared) : Prop :=
  s.heap.IsGen a g ∧ s.heap.NoLimit ∧ ∃ gs, s.gens[g]? = some gs ∧ gs.Goes (model X.prog X.w) A (RXp X pins σ a g o Fin) (YXo X pins σ a g o Cn Wt) n (.send .none) (s.setGen g .running)
theorem next_gx {a : Addr} {g n : Nat} {o : Option Addr} {Cn : V → Prop} {Wt : List V → V → Hp → Prop} {Fin : List V → Hp → Prop} {A : Around} {Q : Option Value → Shared → Prop} {E : Value → Shared → Prop} (hh : A.handled = none) (hd : A.depth < recursionLimit)
    (h : GoX X pins σ a g o Cn Wt Fin A.in1 n s)
    (hY : ∀ v s1 ys x H, RelV x v → Inv X pins σ H s1 → LstO o ys H s1 → Wt ys x H → ys.length < sizeLine → (Cn x → ∀ s2, SleptO o v s1 s2 → s2.gens = s1.gens → ∃ n', n = n' + 1 ∧ GoX X pins σ a g o Cn Wt Fin A.in1 n' s2) → Q (some v) s1)
    (hN : ∀ s1 ys H, Inv X pins σ H s1 → LstO o ys H s1 → Fin ys H → Q none s1) : wpAny (model X.prog X.w) A (pyNext (.ref a)) Q E s := by
  obtain ⟨hg, hl, gs, hgs, hgo⟩ := h
  have hgl : g < s.gens.size := (Array.getElem?_eq_some_iff.mp hgs).1
  refine wpAny_gsz (n := g + 1) hgl (next_genG (A := A) (F := fun _ _ s1 => s1.heap.IsGen a g ∧ ∃ ys H, Inv X pins σ H s1 ∧ LstO o ys H s1 ∧ Fin ys H) (Er := fun _ _ => False) (Y := YXo X pins σ a g o Cn Wt) hh hl hd hg hgs hgo (fun v s₁ gs' hbare hv => ?_) (fun s₁ hp h' hk => ?_) fun e s₁ he => he.elim)
  · intro hsz
    obtain ⟨hg1, ys, x, H1, rv, I1, L1, hw, hlen, hal⟩ := hv
    refine hY v (s₁.setGen g gs') ys x H1 rv (inv_gens I1 (allBare_setGen I1.bare hbare)) L1 hw hlen fun hcn s2 hsl hge => ?_
    have sl1 : ∀ s3 : Shared, s3.heap = s2.heap → s3.os = s2.os → AllBare s3.gens → SleptO o v s₁ s3 := fun s3 e1 e2 e3 => by
      cases o with
      | none =>
        obtain ⟨z1, z2, z3⟩ := hsl
        exact ⟨e2.trans z1, e3, fun b u e => by rw [e1]; exact z3 b u e⟩
      | some S =>
        obtain ⟨z1, z2, z3, z4⟩ := hsl
        exact ⟨e2.trans z1, e3, fun b u hb e => by rw [e1]; exact z3 b u hb e, fun acc c e => by rw [e1]; exact z4 acc c e⟩
    have keepA : ∀ b u, (∀ acc c, u ≠ lstObj acc c) → s₁.heap.get? b = some u → s2.heap.get? b = some u := fun b u hne e => by
      cases o with
      | none => exact hsl.2.2 b u e
      | some S =>
        refine Slept.keep hsl b u (fun z => ?_) e
        obtain ⟨_, acc, c, _, e2⟩ := L1 S rfl
        rw [z] at e
        have e : s₁.heap.get? S = some u := e
        have e2 : s₁.heap.get? S = some (lstObj acc c) := e2
        rw [e2] at e
        exact hne acc c (Option.some.inj e).symm
    have bare2 : AllBare s2.gens := by
      cases o with
      | none => exact hsl.2.1
      | some S => exact Slept.bare hsl
    have hkap := hal hcn (s2.setGen g .running) (sl1 _ rfl rfl (allBare_setGen bare2 rfl))
    cases n with
    | zero => exact hkap.elim
    | succ m =>
      refine ⟨m, rfl, ?_, ?_, gs', ?_, hkap⟩
      · obtain ⟨ob, nm, qn, ho, hc, hdd, r⟩ := hg1
        exact ⟨ob, nm, qn, keepA a ob (fun acc c z => by rw [z] at hdd; cases hdd) ho, hc, hdd, r⟩
      · obtain ⟨mc, hns, hnn⟩ := I1.nolimit
        refine ⟨mc, ?_, hnn⟩
        obtain ⟨ob, es, ep, ho, hdd, r⟩ := hns
        exact ⟨ob, es, ep, keepA _ ob (fun acc c z => by rw [z] at hdd; cases hdd) ho, hdd, r⟩
      · rw [hge]
        have hsz' : g + 1 ≤ (s₁.setGen g gs').gens.size := hsz
        have q : (s₁.setGen g gs').gens.size = s₁.gens.size := setGen_size _ _ _
        exact setGen_at (by omega)
  · intro hsz
    obtain ⟨hg1, ys, H1, I1, L1, hF⟩ := hp
    have I2 : Inv X pins σ H1 { s₁.setGen g .finished with heap := h' } := I1.call' (ch := []) rfl (Un.kept hk) (I1.hok.kept hk) (allBare_setGen I1.bare rfl) fun b z => absurd z (by simp)
    refine hN _ ys H1 I2 (fun S hS => ?_) hF
    obtain ⟨q1, acc, c, q2, q3⟩ := L1 S hS
    exact ⟨q1, acc, c, q2, hk _ _ q3⟩
/-- the first draw -/
theorem GReady.go {k m : Nat} {Cn : V → Prop} {Wt : List V → V → Hp → Prop} {Fin : List V → Hp → Prop} {a : Addr} (h : GReady X k pins σ H a s m Cn Wt Fin) : ∃ g, s.heap.IsGen a g ∧ Inv X pins σ H s ∧ ∀ (A : Around) (o : Option Addr) (s2 : Shared), Room k A → A.frames = some X.stack → (∀ S, o = some S → s.heap.objs.size ≤ S ∧ ∃ c, s2.heap.get? S = some (lstObj #[] c)) →
    (∀ b u, s.heap.get? b = some u → s2.heap.get? b = some u) → s2.os = s.os → s2.gens = s.gens → GoX X pins σ a g o Cn Wt Fin A m s2 := by
  obtain ⟨g, c, hg, hgs, I, hseg⟩ := h
  refine ⟨g, hg, I, fun A o s2 hr hf hS hk ho hge => ?_⟩
  obtain ⟨ob, nm, qn, hoo, r⟩ := hg
  refine ⟨⟨ob, nm, qn, hk _ _ hoo, r⟩, I.nolimit.keeps hk, .fresh c, by rw [hge]; exact hgs, ?_⟩
  refine ⟨rfl, ?_⟩
  refine seg_imp (fun n s₀ r s6 hR6 => ?_) (fun _ _ _ _ _ _ hkk hY => ?_) m (hseg A o (s2.setGen g .running) hr hf (fun S z => hS S z) (fun b u e => hk b u e) ho (allBare_setGen (by rw [hge]; exact I.bare) rfl))
  · obtain ⟨r1, r2, ys, H6, I6, L6, hF⟩ := hR6
    exact .inl ⟨.inr r1, r2, ys, H6, I6, L6, hF⟩
  · obtain ⟨y1, ys, x, H6, rv, I6, L6, hw, hl, hal⟩ := hY
    exact ⟨y1, ys, x, H6, rv, I6, L6, hw, hl, fun hc s' z => hkk _ _ (hal hc s' z)⟩

/-! ### collect -/
theorem extend_gx {a S : Addr} {g : Nat} {Wt : List V → V → Hp → Prop} {Fin : List V → Hp → Prop} {A : Around} {R : Result → Shared → Prop} {res : Value} (hh : A.handled = none) (hd : A.depth < recursionLimit)
    (hend : ∀ s1 ys H, Inv X pins σ H s1 → LstO (some S) ys H s1 → Fin ys H → R (.ok (.ret res)) s1) :
    ∀ (n : Nat) (s : Shared), GoX X pins σ a g (some S) (fun _ => True) Wt Fin A.in1.in1 n s → codeAny (model X.prog X.w) A (.builtin "list.extend.loop" ⟨[.ref S, .ref a, res], []⟩) R s := by
  intro n
  induction n with
  | zero =>
    intro s h
    refine codeAny_builtin F.entry_extend_loop ?_
    rw [Around.under_plainId F.plain_extend_loop _]
    show wpAny _ A.in1 (pyNext (.ref a) >>= _) _ _ s
    refine wpAny_bind (next_gx (A := A.in1) hh hd h (fun v s1 ys x H rv I L hw hl hal => ?_) fun s1 ys H I L hF => ?_)
    · obtain ⟨hS0, acc, c, ra, eS⟩ := L S rfl
      obtain ⟨n', hn, _⟩   := hal trivial { s1 with heap := s1.heap.update S (Obj.mapSeq (·.push v)) } (Slept.push eS I.bare) rfl
      exact absurd hn (by omega)
    · exact wpAny_pure (hend s1 ys H I L hF)
  | succ n ih =>
    intro s h
    refine codeAny_builtin F.entry_extend_loop ?_
    rw [Around.under_plainId F.plain_extend_loop _]
    show wpAny _ A.in1 (pyNext (.ref a) >>= _) _ _ s
    refine wpAny_bind (next_gx (A := A.in1) hh hd h (fun v s1 ys x H rv I L hw hl hal => ?_) fun s1 ys H I L hF => ?_)
    · obtain ⟨hS0, acc, c, ra, eS⟩ := L S rfl
      have hsz : acc.size = ys.length := by
        have e1 := ra.length
        have e2 : acc.toList.length = acc.size := by simp
        omega
      show wpAny _ A.in1 (updateSeq S (·.push v) >>= _) _ _ _
      refine wpAny_bind ?_
      refine wpAny_updateSeq eS rfl (wpAny_pure ⟨plainId_quiet F.plain_extend_loop _, ?_⟩) (by rw [hsz]; exact Nat.le_of_lt hl) (by show (acc.push v).size ≤ sizeLine + 1; rw [Array.size_push]; omega)
      obtain ⟨n', hn, hg⟩   := hal trivial { s1 with heap := s1.heap.update S (Obj.mapSeq (·.push v)) } (Slept.push eS I.bare) rfl
      have : n' = n := by omega
      subst this
      exact ih _ hg
    · exact wpAny_pure (hend s1 ys H I L hF)
theorem collect_gx {a : Addr} {k m : Nat} {Wt : List V → V → Hp → Prop} {Fin : List V → Hp → Prop} {A : Around} {Q : List Value → Shared → Prop} {E : Value → Shared → Prop} (hr : Room k A.in1.in1) (hf : A.frames = some X.stack) (h : GReady X k pins σ H a s m (fun _ => True) Wt Fin)
    (hQ : ∀ s1 ys us H, Inv X pins σ H s1 → Vals ys us → Fin ys H → Q us s1) : wpAny (model X.prog X.w) A (collect (.ref a)) Q E s := by
  obtain ⟨g, hg, I, hgo⟩ := h.go
  have hSI : s.heap.objs.size ≠ a := fun z => by
    obtain ⟨ob, nm, qn, ho, _⟩ := hg
    rw [← z] at ho
    exact absurd (Heap.lt_size ho) (Nat.lt_irrefl _)
  unfold collect
  refine wpAny_bind (wpAny_runValue (codeAny_builtin F.entry_proto_collect ?_))
  rw [Around.under_plainId F.plain_proto_collect _]
  show wpAny _ A.in1 (newList [] >>= fun l => again (.builtin "list.__iadd__" ⟨[l, .ref a], []⟩)) _ _ s
  refine wpAny_bind (wpAny_newObj_type ?_)
  refine wpAny_pure ⟨plainId_quiet F.plain_list_iadd _, codeAny_builtin F.entry_list_iadd ?_⟩
  rw [Around.under_plainId F.plain_list_iadd _]
  have k1 : ∀ b u, s.heap.get? b = some u → (s.heap.push { cls := .type "list", data := .seq ([] : List Value).toArray }).get? b = some u := fun b u e => Heap.get?_push_of_some _ e
  have gk : ∀ {h : Heap}, (∀ b u, s.heap.get? b = some u → h.get? b = some u) → h.IsGen a g := fun {h} q => hg.keeps q
  show wpAny _ A.in1 (Builtin.List.listExtendWith (.ref s.heap.objs.size) (.ref a) (.ref s.heap.objs.size)) _ _ _
  unfold Builtin.List.listExtendWith
  refine wpAny_bind (wpAny_typeOf (Heap.IsGen.typeIs (s := { s with heap := _ }) (gk k1)) ?_)
  have h1 : Builtin.List.listSameRef (.ref s.heap.objs.size) (.ref a) = false := by simp [Builtin.List.listSameRef, hSI]
  have h2 : (Value.type "generator" == Value.type "list") = false := by decide
  have h3 : (Value.type "generator" == Value.type "tuple") = false := by decide
  simp only [h1, h2, h3, Bool.or_false, Bool.false_eq_true, if_false]
  refine wpAny_bind (wpAny_pyIter_gen (s := { s with heap := _ }) (gk k1) ?_)
  refine wpAny_bind (wpAny_holding ?_)
  unfold Builtin.List.listLengthHint
  refine wpAny_bind (wpAny_specialOf (Heap.IsGen.typeIs (s := { s with heap := _ }) (gk k1)) F.gen_no_len ?_)
  show wpAny _ A.in1 (specialOf (Value.ref a) (Str.ofString "__length_hint__") >>= _) _ _ _
  refine wpAny_bind (wpAny_specialOf (Heap.IsGen.typeIs (s := { s with heap := _ }) (gk k1)) F.gen_no_hint ?_)
  refine wpAny_pure ?_
  show wpAny _ A.in1 (rule "list.extend.makes-room" >>= fun _ => Builtin.List.listTouch (.ref s.heap.objs.size) >>= fun _ =>
    again (.builtin "list.extend.loop" ⟨[.ref s.heap.objs.size, .ref a, .ref s.heap.objs.size], []⟩)) _ _ _
  refine wpAny_bind (wpAny_rule ?_)
  have hS₁ : (s.heap.push { cls := .type "list", data := .seq ([] : List Value).toArray }).get? s.heap.objs.size = some { cls := .type "list", data := .seq ([] : List Value).toArray } := Heap.get?_push_size _ rfl
  refine wpAny_bind ?_
  show wpAny _ A.in1 (updateSeq s.heap.objs.size (·.push .none) >>= fun _ => updateSeq s.heap.objs.size (·.pop)) _ _ _
  refine wpAny_bind (wpAny_updateSeq hS₁ rfl ?_)
  have hS₂ := Heap.get?_update_self (Obj.mapSeq (·.push Value.none)) hS₁ rfl
  refine wpAny_updateSeq hS₂ rfl ?_
  have hS₃ := Heap.get?_update_self (Obj.mapSeq (·.pop)) hS₂ rfl
  have oth : ∀ b o, s.heap.get? b = some o →
      (((s.heap.push { cls := .type "list", data := .seq ([] : List Value).toArray }).update s.heap.objs.size (Obj.mapSeq (·.push Value.none))).update s.heap.objs.size (Obj.mapSeq (·.pop))).get? b = some o :=
    fun b o e => (Heap.get?_update_other _ _ (Nat.ne_of_gt (Heap.lt_size e))).trans ((Heap.get?_update_other _ _ (Nat.ne_of_gt (Heap.lt_size e))).trans (k1 b o e))
  refine wpAny_pure ⟨plainId_quiet F.plain_extend_loop _, ?_⟩
  refine extend_gx (A := A) (S := s.heap.objs.size) (g := g) hr.hd (by have := hr.dp; show A.depth < _; have e : A.in1.in1.depth = A.depth := rfl; omega) (fun s1 ys H1 I1 L1 hF => ?_) m _
    (hgo A.in1.in1 (some s.heap.objs.size) _ hr hf (fun S hS => ?_) oth rfl rfl)
  · obtain ⟨_, acc, c, ra, eS⟩ := L1 _ rfl
    show wpAny _ A (load s.heap.objs.size >>= _) _ _ s1
    refine wpAny_bind (wpAny_load eS ?_)
    exact wpAny_pure (hQ s1 ys _ H1 I1 ra hF)
  · cases hS
    exact ⟨Nat.le_refl _, _, hS₃⟩

/-! ### any, all -/
theorem any_gx {a : Addr} {g : Nat} {Wt : List V → V → Hp → Prop} {Fin : List V → Hp → Prop} {A : Around} {R : Result → Shared → Prop} (hh : A.handled = none) (hd : A.depth < recursionLimit)
    (hend : ∀ s1 ys H, Inv X pins σ H s1 → Fin ys H → R (.ok (.ret (.bool false))) s1)
    (hstop : ∀ s1 ys x H, Inv X pins σ H s1 → Wt ys x H → ∃ b, x = .bl b ∧ (b = true → R (.ok (.ret (.bool true))) s1)) :
    ∀ (n : Nat) (s : Shared), GoX X pins σ a g none (fun x => x = .bl false) Wt Fin A.in1.in1 n s → codeAny (model X.prog X.w) A (.builtin "any.loop" ⟨[.ref a], []⟩) R s := by
  intro n
  induction n with
  | zero =>
    intro s h
    refine codeAny_builtin F.entry_any_loop ?_
    rw [Around.under_plainId F.plain_any_loop _]
    show wpAny _ A.in1 (pyNext (.ref a) >>= _) _ _ s
    refine wpAny_bind (next_gx (A := A.in1) hh hd h (fun v s1 ys x H rv I L hw hl hal => ?_) fun s1 ys H I L hF => ?_)
    · obtain ⟨b, rfl, hst⟩ := hstop s1 ys x H I hw
      obtain rfl : v = Value.bool b := rv
      refine wpAny_bind (wpAny_holding (wpAny_truthy_bool ?_))
      refine wpAny_bind (wpAny_letGo ?_)
      cases b with
      | true =>
        simp only [Bool.false_eq_true, if_false, if_true]
        exact wpAny_bind (wpAny_rule (wpAny_pure (hst rfl)))
      | false =>
        obtain ⟨n', hn, _⟩ := hal rfl s1 ⟨rfl, I.bare, fun _ _ e => e⟩ rfl
        exact absurd hn (by omega)
    · exact wpAny_bind (wpAny_rule (wpAny_pure (hend s1 ys H I hF)))
  | succ n ih =>
    intro s h
    refine codeAny_builtin F.entry_any_loop ?_
    rw [Around.under_plainId F.plain_any_loop _]
    show wpAny _ A.in1 (pyNext (.ref a) >>= _) _ _ s
    refine wpAny_bind (next_gx (A := A.in1) hh hd h (fun v s1 ys x H rv I L hw hl hal => ?_) fun s1 ys H I L hF => ?_)
    · obtain ⟨b, rfl, hst⟩ := hstop s1 ys x H I hw
      obtain rfl : v = Value.bool b := rv
      refine wpAny_bind (wpAny_holding (wpAny_truthy_bool ?_))
      refine wpAny_bind (wpAny_letGo ?_)
      cases b with
      | true =>
        simp only [if_true]
        exact wpAny_bind (wpAny_rule (wpAny_pure (hst rfl)))
      | false =>
        simp only [Bool.false_eq_true, if_false]
        obtain ⟨n', hn, hg⟩ := hal rfl s1 ⟨rfl, I.bare, fun _ _ e => e⟩ rfl
        have : n' = n := by omega
        subst this
        exact wpAny_pure ⟨plainId_quiet F.plain_any_loop _, ih _ hg⟩
    · exact wpAny_bind (wpAny_rule (wpAny_pure (hend s1 ys H I hF)))
theorem all_gx {a : Addr} {g : Nat} {Wt : List V → V → Hp → Prop} {Fin : List V → Hp → Prop} {A : Around} {R : Result → Shared → Prop} (hh : A.handled = none) (hd : A.depth < recursionLimit)
    (hend : ∀ s1 ys H, Inv X pins σ H s1 → Fin ys H → R (.ok (.ret (.bool true))) s1)
    (hstop : ∀ s1 ys x H, Inv X pins σ H s1 → Wt ys x H → ∃ b, x = .bl b ∧ (b = false → R (.ok (.ret (.bool false))) s1)) :
    ∀ (n : Nat) (s : Shared), GoX X pins σ a g none (fun x => x = .bl true) Wt Fin A.in1.in1 n s → codeAny (model X.prog X.w) A (.builtin "all.loop" ⟨[.ref a], []⟩) R s := by
  intro n
  induction n with
  | zero =>
    intro s h
    refine codeAny_builtin F.entry_all_loop ?_
    rw [Around.under_plainId F.plain_all_loop _]
    show wpAny _ A.in1 (pyNext (.ref a) >>= _) _ _ s
    refine wpAny_bind (next_gx (A := A.in1) hh hd h (fun v s1 ys x H rv I L hw hl hal => ?_) fun s1 ys H I L hF => ?_)
    · obtain ⟨b, rfl, hst⟩ := hstop s1 ys x H I hw
      obtain rfl : v = Value.bool b := rv
      refine wpAny_bind (wpAny_holding (wpAny_truthy_bool ?_))
      refine wpAny_bind (wpAny_letGo ?_)
      cases b with
      | false =>
        simp only [Bool.false_eq_true, if_false, if_true]
        exact wpAny_bind (wpAny_rule (wpAny_pure (hst rfl)))
      | true =>
        obtain ⟨n', hn, _⟩ := hal rfl s1 ⟨rfl, I.bare, fun _ _ e => e⟩ rfl
        exact absurd hn (by omega)
    · exact wpAny_bind (wpAny_rule (wpAny_pure (hend s1 ys H I hF)))
  | succ n ih =>
    intro s h
    refine codeAny_builtin F.entry_all_loop ?_
    rw [Around.under_plainId F.plain_all_loop _]
    show wpAny _ A.in1 (pyNext (.ref a) >>= _) _ _ s
    refine wpAny_bind (next_gx (A := A.in1) hh hd h (fun v s1 ys x H rv I L hw hl hal => ?_) fun s1 ys H I L hF => ?_)
    · obtain ⟨b, rfl, hst⟩ := hstop s1 ys x H I hw
      obtain rfl : v = Value.bool b := rv
      refine wpAny_bind (wpAny_holding (wpAny_truthy_bool ?_))
      refine wpAny_bind (wpAny_letGo ?_)
      cases b with
      | false =>
        simp only [Bool.false_eq_true, if_false]
        exact wpAny_bind (wpAny_rule (wpAny_pure (hst rfl)))
      | true =>
        simp only [if_true]
        obtain ⟨n', hn, hg⟩ := hal rfl s1 ⟨rfl, I.bare, fun _ _ e => e⟩ rfl
        have : n' = n := by omega
        subst this
        exact wpAny_pure ⟨plainId_quiet F.plain_all_loop _, ih _ hg⟩
    · exact wpAny_bind (wpAny_rule (wpAny_pure (hend s1 ys H I hF)))
end
end GX

set_option maxHeartbeats 8000000
/-! TxD: tuple, any, all of a generator expression; enumerate of a tuple; an item of a list read for op=. -/
namespace GX
open PySem PySem.Spec PyProof.Rows L2 GenW
section
variable {J : It} {n : Nat} {G : Hp → Prop} {Y : Nat → Hp → V → Hp → Prop}
/-- a generator's turns over a walk: Pv by the turn, what is out, the heap -/
theorem g_it (w : Walk J n G Y) {g : TG} {tt : TT} {te : TE} {vs : List Nat} {σ0 : L2.St} {Cn : V → Prop} {Wt : List V → V → Hp → Prop} {Fin : List V → Hp → Prop} (Pv : Nat → List V → Hp → Prop) (hG : ∀ i ys H, i ≤ n → Pv i ys H → G H)
    (hs : ∀ i x ys H H', i < n → Pv i ys H → Y i H x H' → g x σ0 H' fun σ2 H2 => wipe σ2 vs = σ0 ∧ tt σ2 H2 fun b H3 => if b = true then te σ2 H3 fun y H4 => Wt ys y H4 ∧ ys.length < sizeLine ∧ (Cn y → Pv (i + 1) (ys ++ [y]) H4) else Pv (i + 1) ys H3)
    (hd : ∀ ys H, Pv n ys H → Fin ys H) : GTurn J g tt te vs σ0 (fun i ys m H => m = n - i ∧ i ≤ n ∧ Pv i ys H) Cn Wt Fin := by
  rintro i ys m H ⟨rfl, hi, p⟩
  have q := hG i ys H hi p
  by_cases hlt : i < n
  · exact .inr ⟨w.goes i H hlt q, by omega, Pv (i + 1), fun ys' H' p' => ⟨n - (i + 1), by omega, rfl, hlt, p'⟩, fun x H' y => hs i x ys H H' hlt p (w.yields i H x H' hlt q y)⟩
  · have e : i = n := by omega
    subst e
    exact .inl ⟨w.stops H q, hd ys H p⟩
end

section
variable {X : Cx}
/-- tuple(e for ..): all that is handed out, a new tuple -/
def tTupG (wi : TI) (g : TG) (tt : TT) (te : TE) (vs : List Nat) (P : Addr) : TE := fun σ H Q => tGen wi g tt te vs P (fun _ => True) (fun _ _ Fin _ => ∀ ys H', Fin ys H' → ys.length ≤ sizeLine ∧ ∀ p, H' p = none → Q (.ref p) (upd H' p (.tup ys))) σ H
theorem pe_tupG {c P : Addr} {elt tg iter : Expr} {ifs : List Expr} {p pos gpos : Pos} {scope : Scope} {own : List (Str × Nat)} {wi : TI} {g : TG} {tt : TT} {te : TE} {k : Nat}
    (hcalm : X.calm = true) (hr : Room (k + 1) X.A) (TB : GxR.TabB X.base X.mg c P) (hcode : X.env.code = .ref c) (hN : X.N.Nodup) (hgl : Gl X "tuple") (hmg : X.mg "tuple" = none) (hi : PI X tg iter wi) (ok : BlkOk X.N X.env.scope scope own) (hco : scope.isCoroutine = false) (nocell : ∀ y ∈ scope.names, y.2 ≠ .cell) (hdot : scope.names.lookup (".0" : Str) = some NameKind.local)
    (hg : ∀ (s : Shared) (H : Hp) (C : Addr) (cl : List (Str × Addr)) (code : Value) (Aw : Around) (fp : List Addr) (pn : List (Addr × Obj)), Room k Aw → PG (gxc X s H (genEnv scope cl C code builtinsNs X.env) Aw fp pn) tg g)
    (ht : ∀ (s : Shared) (H : Hp) (C : Addr) (cl : List (Str × Addr)) (code : Value) (Aw : Around) (fp : List Addr) (pn : List (Addr × Obj)), Room k Aw → PTs (gxc X s H (genEnv scope cl C code builtinsNs X.env) Aw fp pn) ifs tt)
    (he : ∀ (s : Shared) (H : Hp) (C : Addr) (cl : List (Str × Addr)) (code : Value) (Aw : Around) (fp : List Addr) (pn : List (Addr × Obj)), Room k Aw → PE (gxc X s H (genEnv scope cl C code builtinsNs X.env) Aw fp pn) elt te)
    (hs : ∀ v, genFold iter X.env v = pure v := by intro _; rfl)
    (hst : starEach [.GeneratorExp elt [⟨tg, iter, ifs, 0⟩] scope gpos] X.env = (false, eval (.GeneratorExp elt [⟨tg, iter, ifs, 0⟩] scope gpos) X.env) :: starEach [] X.env := by rfl) :
    PE X (.Call (.Name "tuple" p) [.GeneratorExp elt [⟨tg, iter, ifs, 0⟩] scope gpos] [] pos) (tTupG wi g tt te (own.map (·.2)) P) := by
  refine ⟨fun pins s σ H Q I h => ?_⟩
  refine wpAny_Call_Name_kw (ld_blt I hgl hmg PyProof.Rows.boot_tuple ?_)
  refine PyProof.Rows.callWith_type1 ?_ hst rfl
  rw [hst]
  show wpAny _ _ (spliced ((false, eval (.GeneratorExp elt [⟨tg, iter, ifs, 0⟩] scope gpos) X.env) :: backTo pos (starEach [] X.env))) _ _ s
  have hrk : Room k X.A := hr.mono (Nat.le_succ k)
  refine Calls.spliced_cons (gx_make hcalm hrk TB hcode hN hi ok hco nocell hdot hg ht he hs I h fun m Wt Fin H2 a s5 hR hG => ?_)
  refine Calls.spliced_nil ?_
  obtain ⟨g0, hg0, I5, _⟩ := hG.go
  refine callType_codes (Q₁ := fun obj s₁ => s₁.TypeIs obj "tuple" ∧ EP X pins σ Q obj s₁) F.called_tuple (F.typeCall_tuple_1 _) F.entry_object_init ?_ fun obj s₁ h₁ =>
    ⟨h₁.1, F.args_object_init_2 obj _, object_init_meets F.called_tuple.init.lookup F.called_tuple.made (by decide) X.prog X.w X.A.in1 _ s₁ ⟨h₁.1, rfl, h₁.2⟩⟩
  refine codeAny_of_tree ?_
  show wpAny _ X.A.in1.in1 (do checkBuiltinCall "tuple.__new__" ⟨[.type "tuple", .ref a], []⟩; again (.builtin "tuple.__new__" ⟨[.type "tuple", .ref a], []⟩)) _ _ s5
  refine wpAny_bind (wpAny_of_eq (F.newCall_tuple_1 _) (wpAny_pure ⟨plainId_quiet F.plain_tuple_new _, codeAny_builtin F.entry_tuple_new ?_⟩))
  rw [Around.under_plainId F.plain_tuple_new _]
  have hsub := sub_tuple_self
  have hinit := init_tuple_lookup
  have hmh := madeHere_tuple
  have hTI : s5.TypeIs (.ref a) "generator" := Heap.IsGen.typeIs hg0
  have hr2 : Room (k + 1) X.A := hr
  have hrC : Room k X.A.in1.in1.in1.in1 := ⟨hr2.hd, by have := hr2.dp; show X.A.depth + 3 * k + 5 < _; omega, by have := hr2.un; show X.A.units + 1 + 1 + 1 + 1 + 16 * k + 200 < _; omega⟩
  wp_walk using wpAny_typeOf hTI, collect_gx (k := k) (A := X.A.in1.in1) hrC I5.ok.frames hG
  intro s1 ys us H1 I1 rv hF
  obtain ⟨hlen, hq⟩ := hR ys H1 hF
  show wpAny _ _ (Builtin.Tuple.tupleExact us.toArray >>= fun v => ret v) _ _ _
  unfold Builtin.Tuple.tupleExact
  have hus : us.length = ys.length := rv.length.symm
  refine wpAny_bind (wpAny_newObj_type ?_ (by show us.toArray.size ≤ sizeLine; rw [List.size_toArray, hus]; exact hlen))
  refine wpAny_pure ⟨⟨_, Heap.get?_push_size _ rfl, rfl⟩, .ref s1.heap.objs.size, upd H1 s1.heap.objs.size (.tup ys), ?_, rfl, hq _ (I1.hok.fresh (Nat.le_refl _))⟩
  exact I1.laid (t' := s1.toks) (fun b o e => Heap.get?_push_of_some _ e) (Nat.le_refl _) ⟨hlen, us, rv, _, Heap.get?_push_size _ rfl, rfl, _, rfl⟩

/-- any(e for ..), all(e for ..): the elements are truth values; it stops where the answer is known -/
def tAnyG (wi : TI) (g : TG) (tt : TT) (te : TE) (vs : List Nat) (P : Addr) : TE := fun σ H Q => tGen wi g tt te vs P (fun x => x = .bl false) (fun _ Wt Fin _ => (∀ ys H', Fin ys H' → Q (.bl false) H') ∧ ∀ ys x H', Wt ys x H' → ∃ b, x = .bl b ∧ (b = true → Q (.bl true) H')) σ H
def tAllG (wi : TI) (g : TG) (tt : TT) (te : TE) (vs : List Nat) (P : Addr) : TE := fun σ H Q => tGen wi g tt te vs P (fun x => x = .bl true) (fun _ Wt Fin _ => (∀ ys H', Fin ys H' → Q (.bl true) H') ∧ ∀ ys x H', Wt ys x H' → ∃ b, x = .bl b ∧ (b = false → Q (.bl false) H')) σ H
theorem pe_anyG {c P : Addr} {elt tg iter : Expr} {ifs : List Expr} {p pos gpos : Pos} {scope : Scope} {own : List (Str × Nat)} {wi : TI} {g : TG} {tt : TT} {te : TE} {k : Nat}
    (hcalm : X.calm = true) (hr : Room (k + 1) X.A) (TB : GxR.TabB X.base X.mg c P) (hcode : X.env.code = .ref c) (hN : X.N.Nodup) (hgl : Gl X "any") (hmg : X.mg "any" = none) (hi : PI X tg iter wi) (ok : BlkOk X.N X.env.scope scope own) (hco : scope.isCoroutine = false) (nocell : ∀ y ∈ scope.names, y.2 ≠ .cell) (hdot : scope.names.lookup (".0" : Str) = some NameKind.local)
    (hg : ∀ (s : Shared) (H : Hp) (C : Addr) (cl : List (Str × Addr)) (code : Value) (Aw : Around) (fp : List Addr) (pn : List (Addr × Obj)), Room k Aw → PG (gxc X s H (genEnv scope cl C code builtinsNs X.env) Aw fp pn) tg g)
    (ht : ∀ (s : Shared) (H : Hp) (C : Addr) (cl : List (Str × Addr)) (code : Value) (Aw : Around) (fp : List Addr) (pn : List (Addr × Obj)), Room k Aw → PTs (gxc X s H (genEnv scope cl C code builtinsNs X.env) Aw fp pn) ifs tt)
    (he : ∀ (s : Shared) (H : Hp) (C : Addr) (cl : List (Str × Addr)) (code : Value) (Aw : Around) (fp : List Addr) (pn : List (Addr × Obj)), Room k Aw → PE (gxc X s H (genEnv scope cl C code builtinsNs X.env) Aw fp pn) elt te)
    (hs : ∀ v, genFold iter X.env v = pure v := by intro _; rfl)
    (hst : starEach [.GeneratorExp elt [⟨tg, iter, ifs, 0⟩] scope gpos] X.env = (false, eval (.GeneratorExp elt [⟨tg, iter, ifs, 0⟩] scope gpos) X.env) :: starEach [] X.env := by rfl) :
    PE X (.Call (.Name "any" p) [.GeneratorExp elt [⟨tg, iter, ifs, 0⟩] scope gpos] [] pos) (tAnyG wi g tt te (own.map (·.2)) P) := by
  refine ⟨fun pins s σ H Q I h => ?_⟩
  refine wpAny_Call_Name_kw (ld_blt I hgl hmg PyProof.Rows.boot_any ?_)
  refine PyProof.Rows.callWith_builtin1 ?_ hst (by rfl)
  rw [hst]
  show wpAny _ _ (spliced ((false, eval (.GeneratorExp elt [⟨tg, iter, ifs, 0⟩] scope gpos) X.env) :: backTo pos (starEach [] X.env))) _ _ s
  refine Calls.spliced_cons (gx_make hcalm (hr.mono (Nat.le_succ k)) TB hcode hN hi ok hco nocell hdot hg ht he hs I h fun m Wt Fin H2 a s5 hR hG => ?_)
  refine Calls.spliced_nil ?_
  obtain ⟨g0, hg0, I5, hgo⟩ := hG.go
  refine call_function_tree F.kind_any F.plain_any F.entry_any (F.args_any1 _) ?_
  unfold Builtin.«any»
  refine wpAny_bind (m := oneArg "any" _) (wpAny_pure ?_)
  refine wpAny_bind (wpAny_pyIter_gen hg0 ?_)
  refine wpAny_pure ⟨plainId_quiet F.plain_any_loop _, any_gx (A := X.A) hr.hd (by have := hr.dp; show X.A.depth < _; omega) (fun s1 ys H1 I1 hF => ?_) (fun s1 ys x H1 I1 hw => ?_) m s5
    (hgo X.A.in1.in1 none s5 ⟨hr.hd, by have := hr.dp; show X.A.depth + 3 * k + 5 < _; omega, by have := hr.un; show X.A.units + 1 + 1 + 16 * k + 200 < _; omega⟩ I5.ok.frames (fun S z => by cases z) (fun _ _ e => e) rfl rfl)⟩
  · exact ⟨.bl false, H1, I1, rfl, hR.1 ys H1 hF⟩
  · obtain ⟨b, hb, hq⟩ := hR.2 ys x H1 hw
    exact ⟨b, hb, fun e => ⟨.bl true, H1, I1, rfl, hq e⟩⟩
theorem pe_allG {c P : Addr} {elt tg iter : Expr} {ifs : List Expr} {p pos gpos : Pos} {scope : Scope} {own : List (Str × Nat)} {wi : TI} {g : TG} {tt : TT} {te : TE} {k : Nat}
    (hcalm : X.calm = true) (hr : Room (k + 1) X.A) (TB : GxR.TabB X.base X.mg c P) (hcode : X.env.code = .ref c) (hN : X.N.Nodup) (hgl : Gl X "all") (hmg : X.mg "all" = none) (hi : PI X tg iter wi) (ok : BlkOk X.N X.env.scope scope own) (hco : scope.isCoroutine = false) (nocell : ∀ y ∈ scope.names, y.2 ≠ .cell) (hdot : scope.names.lookup (".0" : Str) = some NameKind.local)
    (hg : ∀ (s : Shared) (H : Hp) (C : Addr) (cl : List (Str × Addr)) (code : Value) (Aw : Around) (fp : List Addr) (pn : List (Addr × Obj)), Room k Aw → PG (gxc X s H (genEnv scope cl C code builtinsNs X.env) Aw fp pn) tg g)
    (ht : ∀ (s : Shared) (H : Hp) (C : Addr) (cl : List (Str × Addr)) (code : Value) (Aw : Around) (fp : List Addr) (pn : List (Addr × Obj)), Room k Aw → PTs (gxc X s H (genEnv scope cl C code builtinsNs X.env) Aw fp pn) ifs tt)
    (he : ∀ (s : Shared) (H : Hp) (C : Addr) (cl : List (Str × Addr)) (code : Value) (Aw : Around) (fp : List Addr) (pn : List (Addr × Obj)), Room k Aw → PE (gxc X s H (genEnv scope cl C code builtinsNs X.env) Aw fp pn) elt te)
    (hs : ∀ v, genFold iter X.env v = pure v := by intro _; rfl)
    (hst : starEach [.GeneratorExp elt [⟨tg, iter, ifs, 0⟩] scope gpos] X.env = (false, eval (.GeneratorExp elt [⟨tg, iter, ifs, 0⟩] scope gpos) X.env) :: starEach [] X.env := by rfl) :
    PE X (.Call (.Name "all" p) [.GeneratorExp elt [⟨tg, iter, ifs, 0⟩] scope gpos] [] pos) (tAllG wi g tt te (own.map (·.2)) P) := by
  refine ⟨fun pins s σ H Q I h => ?_⟩
  refine wpAny_Call_Name_kw (ld_blt I hgl hmg PyProof.Rows.boot_all ?_)
  refine PyProof.Rows.callWith_builtin1 ?_ hst (by rfl)
  rw [hst]
  show wpAny _ _ (spliced ((false, eval (.GeneratorExp elt [⟨tg, iter, ifs, 0⟩] scope gpos) X.env) :: backTo pos (starEach [] X.env))) _ _ s
  refine Calls.spliced_cons (gx_make hcalm (hr.mono (Nat.le_succ k)) TB hcode hN hi ok hco nocell hdot hg ht he hs I h fun m Wt Fin H2 a s5 hR hG => ?_)
  refine Calls.spliced_nil ?_
  obtain ⟨g0, hg0, I5, hgo⟩ := hG.go
  refine call_function_tree F.kind_all F.plain_all F.entry_all (F.args_all1 _) ?_
  unfold Builtin.«all»
  refine wpAny_bind (m := oneArg "all" _) (wpAny_pure ?_)
  refine wpAny_bind (wpAny_pyIter_gen hg0 ?_)
  refine wpAny_pure ⟨plainId_quiet F.plain_all_loop _, all_gx (A := X.A) hr.hd (by have := hr.dp; show X.A.depth < _; omega) (fun s1 ys H1 I1 hF => ?_) (fun s1 ys x H1 I1 hw => ?_) m s5
    (hgo X.A.in1.in1 none s5 ⟨hr.hd, by have := hr.dp; show X.A.depth + 3 * k + 5 < _; omega, by have := hr.un; show X.A.units + 1 + 1 + 16 * k + 200 < _; omega⟩ I5.ok.frames (fun S z => by cases z) (fun _ _ e => e) rfl rfl)⟩
  · exact ⟨.bl true, H1, I1, rfl, hR.1 ys H1 hF⟩
  · obtain ⟨b, hb, hq⟩ := hR.2 ys x H1 hw
    exact ⟨b, hb, fun e => ⟨.bl false, H1, I1, rfl, hq e⟩⟩
end

/-! ### enumerate(tuple) -/
theorem meets_enum_newT (l : Addr) (items : Array Value) (n : Nat) (dct : Option Addr) (sl : Array (Option Value)) :
    Meets (Builtin.«enumerate.__new__» ⟨[.type "enumerate", .ref l], []⟩) (fun _ R s => s.heap.get? l = some { cls := .type "tuple", dict := dct, data := .seq items n, slots := sl } ∧
      R (.ok (.ret (.ref (s.heap.push { cls := .type "tuple_iterator", data := .fields #[.ref l, .int 0 0] }).objs.size)))
        { s with heap := (s.heap.push { cls := .type "tuple_iterator", data := .fields #[.ref l, .int 0 0] }).push { cls := .type "enumerate", data := .fields #[.none, .bool false, .ref s.heap.objs.size, rawInt 0, .none, .none] } }) :=
  .of_wp fun prog w A R s h => by
    obtain ⟨hp, g, d, tk, os⟩ := s; obtain ⟨hl, h⟩ := h
    have hsub := sub_enumerate
    have hL : Heap.IsTuple (Shared.heap ⟨hp, g, d, tk, os⟩) l items := ⟨_, hl, rfl, n, rfl⟩
    wp_walk using AutoSeq1.wpAny_loadPart' hl
    refine wpAny_stack_any fun st => wpAny_pure ?_
    split
    · rename_i c _ _ _ _ _
      cases (c == Value.type "enumerate")
      · wp_walk using AutoSeq1.wpAny_loadPart' hl, wpAny_pyIter_tuple hL
        exact ⟨_, rfl, h⟩
      · wp_walk using AutoSeq1.wpAny_loadPart' hl, wpAny_pyIter_tuple hL
        exact ⟨_, rfl, h⟩
    · wp_walk using AutoSeq1.wpAny_loadPart' hl, wpAny_pyIter_tuple hL
      exact ⟨_, rfl, h⟩
section
variable {prog : Program} {w : World} {A : Around} {E : Value → Shared → Prop} {s : Shared}
theorem call_enumerate_tup {l : Addr} {items : Array Value} {Q : Value → Shared → Prop} (hL : s.heap.IsTuple l items)
    (h : ∀ h', IsEnum h' (s.heap.objs.size + 1) s.heap.objs.size 0 .none → h'.IsTupleIter s.heap.objs.size l 0 → h'.objs.size = s.heap.objs.size + 2 →
      (∀ b o, s.heap.get? b = some o → h'.get? b = some o) → Q (.ref (s.heap.objs.size + 1)) { s with heap := h' }) :
    wpAny (model prog w) A (call (.type "enumerate") [.ref l]) Q E s := by
  obtain ⟨⟨c, dct, dt, sl⟩, hl, hc, n, hd⟩ := hL
  replace hc : c = .type "tuple" := hc
  replace hd : dt = .seq items n := hd
  subst hc hd
  refine callType_new F.called_enumerate (by decide) (F.typeCall_enumerate_1 _) (F.newCall_enumerate_1 _) (fun obj => F.args_object_init_2 obj _) F.entry_enumerate_new
    (meets_enum_newT l items n dct sl) ⟨hl, ?_⟩
  have hz : (s.heap.push { cls := .type "tuple_iterator", data := .fields #[.ref l, .int 0 0] }).objs.size = s.heap.objs.size + 1 := Heap.size_push ..
  show _ ∧ _
  rw [hz]
  have he : IsEnum ((s.heap.push { cls := .type "tuple_iterator", data := .fields #[.ref l, .int 0 0] }).push
      { cls := .type "enumerate", data := .fields #[.none, .bool false, .ref s.heap.objs.size, rawInt 0, .none, .none] }) (s.heap.objs.size + 1) s.heap.objs.size 0 .none := by
    have := Heap.get?_push_size (s.heap.push { cls := .type "tuple_iterator", data := .fields #[.ref l, .int 0 0] })
      (o := { cls := .type "enumerate", data := .fields #[.none, .bool false, .ref s.heap.objs.size, rawInt 0, .none, .none] }) rfl
    rw [hz] at this; exact this
  refine ⟨⟨_, he, rfl⟩, h _ he ⟨_, Heap.get?_push_of_some _ (Heap.get?_push_size _ rfl), rfl, rfl⟩ (by rw [Heap.size_push, hz]) fun b o x => Heap.get?_push_of_some _ (Heap.get?_push_of_some _ x)⟩
end
/-- the tuple at a, each item in a new pair -/
def IteT (K : PySem.W.Frag) (a : Addr) : It :=
  ⟨fun i H => ∃ (xs : List V) (x : V), SqT K H a xs ∧ xs[i]? = some x, fun i H v H' => ∃ T x, v = .ref T ∧ H T = none ∧ H' = upd H T (.tup [.int (i : Nat), x]) ∧ ∀ xs, SqT K H a xs → xs[i]? = some x, fun i H => ∃ xs : List V, SqT K H a xs ∧ xs.length ≤ i⟩
theorem turn_enumT {P : Program} {w : World} {K : PySem.W.Frag} {elts : List Expr} {kk : Nat} {tpos : Pos} (a e it : Addr) :
    Turn P w K (.Tuple elts kk tpos) (IteT K a) [e, it] e (fun i h => (∃ old, IsEnum h e it ((i : Nat) : Int) old) ∧ h.IsTupleIter it a i ∧ e ≠ it ∧ a ≠ it ∧ e ≠ a) where
  mem := by simp
  obj := fun i h st b hb => by
    obtain ⟨⟨old, he⟩, ⟨o, ho, hc, hd⟩, _⟩ := st
    have e' : b = e ∨ b = it := by simpa using hb
    rcases e' with z | z
    · rw [z]; exact ⟨_, he, fun v q => nomatch q⟩
    · rw [z]; exact ⟨o, ho, fun v q => by rw [hd] at q; cases q⟩
  keep := fun i h h' st k => let ⟨⟨old, he⟩, hi, hne⟩ := st; ⟨⟨old, k e (by simp) _ he⟩, hi.at fun o q => k it (by simp) o q, hne⟩
  item := by
    intro X hP hw hK hc i pins s σ H E I hf st hg
    subst hP hw hK
    obtain ⟨⟨old, he⟩, hit, hne, hai, hea⟩ := st
    obtain ⟨xs, x, hq, hx⟩ := hg
    obtain ⟨its, rv, p, hz⟩ := I.tuple hq
    obtain ⟨u, hu, ru⟩ := rv.get hx
    have hel : e < s.heap.objs.size := Heap.lt_size he
    have hil : it < s.heap.objs.size := by obtain ⟨_, q, _⟩ := hit; exact Heap.lt_size q
    have p' : s.heap.IsTuple a its.toArray := p
    have hlt : i < its.toArray.size := by
      have := (List.getElem?_eq_some_iff.mp hu).1
      simpa using this
    refine wpAny_pyNext_enum_itemD (Draws.tuple (prog := X.prog) (w := X.w) (A := X.A.in1) (I.ok.hd hc) it a hai its.toArray) he ⟨hit, p'⟩ hlt hne (by simp [hne, hea]) fun x' h' tk hPx ho hst' hT hsz hk => ?_
    have ex : x' = u := by
      have h1 : its[i]? = some x' := by simpa using hPx
      rw [hu] at h1; exact (Option.some.inj h1).symm
    subst ex
    refine ⟨_, rfl, wpAny_letOwnedTupleGo_enum (s := { s with heap := h', toks := tk + 1 }) ho fun h'' he' sb => ?_⟩
    have hT2 : h''.get? s.heap.objs.size = some { cls := .type "tuple", data := .seq #[.int i tk, x'] } := (sb.2 _ (Nat.ne_of_gt hel)).trans hT
    have new : ObjOk X.prog X.w (upd H s.heap.objs.size (.tup [.int (i : Nat), x])) h'' s.heap.objs.size (.tup [.int (i : Nat), x]) :=
      ⟨by show 2 ≤ sizeLine; decide, [.int i tk, x'], .cons ⟨_, rfl⟩ (.cons ru .nil), ⟨_, hT2, rfl, _, rfl⟩⟩
    have I1 : Inv X pins σ (upd H s.heap.objs.size (.tup [.int (i : Nat), x])) { s with heap := h'', toks := tk + 1 } :=
      I.turnedNew (ch := [e, it]) (fun b ob hb q => (sb.2 b (fun z => hb (by simp [z]))).trans (hk b ob (fun z => hb (by simp [z])) (fun z => hb (by simp [z])) q)) hf (Nat.le_refl _) new
    refine ⟨.ref s.heap.objs.size, _, I1, rfl, ⟨_, x, rfl, I.hok.fresh (Nat.le_refl _), rfl, fun ys hy => by rw [I.tuple_inj hy hq]; exact hx⟩, ⟨⟨x', ?_⟩, hst'.1.at fun o q => (sb.2 it (Ne.symm hne)).trans q, hne, hai, hea⟩, fun b hb => ?_⟩
    · have e1 : ((i + 1 : Nat) : Int) = (i : Int) + 1 := by omega
      rw [e1]; exact he'
    · have hb' : b < s.heap.objs.size := by
        have e' : b = e ∨ b = it := by simpa using hb
        rcases e' with z | z
        · rw [z]; exact hel
        · rw [z]; exact hil
      rw [upd_ne (Nat.ne_of_lt hb')]
      exact (hf b hb).1
  done := by
    intro X hP hw hK hc i pins s σ H E I hf st hg
    subst hP hw hK
    obtain ⟨⟨old, he⟩, hit, hne, hai, hea⟩ := st
    obtain ⟨xs, hq, hx⟩ := hg
    obtain ⟨its, rv, p, hz⟩ := I.tuple hq
    obtain ⟨f0, f1, f2, f3, f4, f5⟩ := hf it (by simp)
    have hl := rv.length
    have hDn := Draws.tuple (prog := X.prog) (w := X.w) (A := X.A.in1) (I.ok.hd hc) it a hai its.toArray
    have hT : s.TypeIs (.ref e) "enumerate" := ⟨_, he, rfl⟩
    unfold pyNext
    refine wpAny_bind (wpAny_attempt (wpAny_callSpecial?_slot (name := Str.ofString "__next__") hT F.slot_enumerate_next
      (wpAny_call_entry F.slot_enumerate_next hT F.entry_enumerate_next ?_ (F.args_enumerate_next_1 _))))
    show wpAny _ _ (field (.ref e) 2 >>= _) _ _ _
    refine wpAny_bind (wpAny_field he rfl (x := .ref it) rfl ?_)
    refine wpAny_bind (wpAny_nextOf_tuple_end (A := X.A.in1) (I.ok.hd hc) hit (show s.heap.IsTuple a its.toArray from p) (by simp; omega) fun h' x he' hx' => ?_)
    obtain ⟨o, ho, hcl⟩ := hx'
    refine wpAny_bind (wpAny_isInstance (T := "StopIteration") (b := true) ⟨o, ho, hcl⟩ isSubtype_stop ?_)
    exact wpAny_pure ⟨rfl, I.turned (t' := s.toks) (fun b o hb q => he' b o hb q) f0 f1 f3 f4 f5⟩
  self := fun A i s Q E st h => let ⟨⟨_, he⟩, _⟩ := st; wpAny_pyIter_enum he h
def iEnumT (K : PySem.W.Frag) (ta : TA) : TI := fun σ H R => ta σ H fun vs H1 => ∃ a xs, vs = [.ref a] ∧ SqT K H1 a xs ∧ R (IteT K a) H1
theorem pi_enumT {X : Cx} {e : Expr} {ta : TA} {p pos tpos : Pos} {elts : List Expr} {kk : Nat} (hg : Gl X "enumerate") (hm : X.mg "enumerate" = none) (ha : PA X [e] ta) (hs : starEach [e] X.env = [(false, eval e X.env)] := by rfl) :
    PI X (.Tuple elts kk tpos) (.Call (.Name "enumerate" p) [e] [] pos) (iEnumT X.K ta) := by
  refine ⟨fun pins s σ H R I h => ?_⟩
  refine Call_ (ld_blt I hg hm boot_enumerate (PyProof.Rows.callWith_type1 (thn (ha.run pos pins s σ H _ I h) fun us s1 ⟨vs, H1, I1, r1, q1⟩ => ?_) hs rfl))
  obtain ⟨a, xs, ex, hq, q⟩ := q1
  subst ex
  cases r1 with
  | cons r rr =>
    cases rr
    cases r
    obtain ⟨its, rv, p', hz⟩ := I1.tuple hq
    have hal : a < s1.heap.objs.size := p'.lt
    refine call_enumerate_tup (show s1.heap.IsTuple a its.toArray from p') fun h' he hit hsz hk => wpAny_pyIter_enum he ?_
    have I2 : Inv X pins σ H1 { s1 with heap := h' } := I1.kept (t' := s1.toks) hk
    refine ⟨s1.heap.objs.size + 1, [s1.heap.objs.size + 1, s1.heap.objs.size], _, _, H1, rfl, I2, turn_enumT a (s1.heap.objs.size + 1) s1.heap.objs.size, ⟨⟨.none, he⟩, hit, Nat.succ_ne_self _, Nat.ne_of_lt hal, Nat.ne_of_gt (Nat.lt_succ_of_lt hal)⟩, fun b hb => ?_, q⟩
    have e' : b = s1.heap.objs.size + 1 ∨ b = s1.heap.objs.size := by simpa using hb
    have hle : s1.heap.objs.size ≤ b := by
      rcases e' with z | z
      · rw [z]; exact Nat.le_add_right _ _
      · rw [z]; exact Nat.le_refl _
    exact I1.fpOk hle (I1.hok.fresh hle)
theorem walk_enumT {K : PySem.W.Frag} {a : Addr} {xs : List V} : Walk (IteT K a) xs.length (fun H => SqT K H a xs) (YPair (fun i => some (.int (i : Nat))) (fun i => xs[i]?)) := by
  refine ⟨fun i _ hi q => ⟨xs, xs[i], q, by simp [hi]⟩, fun _ q => ⟨xs, q, Nat.le_refl _⟩, fun i H v H' _ q y => ?_⟩
  obtain ⟨T, x, h1, h2, h3, h4⟩ := y
  exact ⟨T, .int (i : Nat), x, h1, h2, h3, rfl, h4 xs q⟩
/-- xs[j], by values: for op= -/
def gItemL : V → V → Hp → VK → Prop := fun o i H Q => ∃ l xs j v, o = .ref l ∧ i = .int (j : Nat) ∧ H l = some (.lst xs) ∧ xs[j]? = some v ∧ Q v H
theorem pget_list {X : Cx} : PGet X gItemL := by
  intro pins s σ H o i ov iv Q I ro ri h
  obtain ⟨l, xs, j, v, rfl, rfl, hl, hv, q⟩ := h
  obtain rfl : ov = Value.ref l := ro
  obtain ⟨t, rfl⟩ := ri
  obtain ⟨its, r, pl, hz⟩ := I.list (SqL.of (K := X.K) hl)
  obtain ⟨w, ew, rw'⟩ := r.get hv
  have hn := line63
  have hj := (List.getElem?_eq_some_iff.mp ew).1
  have hl2 := r.length
  exact wpAny_getItem_list pl.isList (by omega) (by omega) (by simpa using ew) ⟨v, H, I, rw', q⟩
end GX

set_option maxHeartbeats 8000000
/-! TxE: sorted of tuples of ints, of what a generator expression hands out; min of tuples of ints. -/
namespace GX
open PySem PySem.Spec PyProof.Rows L2 GenW
/-- v is a tuple of these ints -/
def TupIs (h : Heap) (v : Value) (ns : List Int) : Prop := ∃ a its, v = .ref a ∧ IsTup h a its ∧ IntsAre its.toList ns
theorem TupIs.keeps {h h' : Heap} {v : Value} {ns : List Int} (p : TupIs h v ns) (k : ∀ b o, h.get? b = some o → o.cls = .type "tuple" → h'.get? b = some o) : TupIs h' v ns := by
  obtain ⟨a, its, e, ⟨o, ho, hc, n, hd⟩, hi⟩ := p
  exact ⟨a, its, e, ⟨o, k a o ho hc, hc, n, hd⟩, hi⟩
section
variable {prog : Program} {w : World} {A : Around} {s : Shared}
theorem lex_tot {fin : Bool} : ∀ {us vs : List Value} {ns ms : List Int}, IntsAre us ns → IntsAre vs ms → ∀ (i : Nat), ∃ b : Bool, PySem.W.KatLex prog w A true fin (fun r s' => s' = s ∧ r = b) (us.zip vs) i s
  | _, _, _, _, .nil, _, i => ⟨fin, by rw [List.zip_nil_left]; exact PySem.W.kat_nil ⟨rfl, rfl⟩⟩
  | _, _, _, _, .cons _ _ _, .nil, i => ⟨fin, by rw [List.zip_nil_right]; exact PySem.W.kat_nil ⟨rfl, rfl⟩⟩
  | _, _, _, _, .cons x t r, .cons y u r', i => by
    obtain ⟨b, hb⟩ := lex_tot (fin := fin) r r' (i + 1)
    by_cases e : x = y
    · refine ⟨b, ?_⟩
      rw [List.zip_cons_cons]
      refine PySem.W.kat_cons (SeqAt.EqAt.int_int x t y u prog w _ _ ?_)
      refine PySem.W.kat_go (fun _ => PySem.W.kat_yes hb) (fun e1 => ?_)
      rw [e] at e1
      simp at e1
    · refine ⟨decide (x < y), ?_⟩
      rw [List.zip_cons_cons]
      refine PySem.W.kat_cons (SeqAt.EqAt.int_int x t y u prog w _ _ ?_)
      refine PySem.W.kat_go (fun e1 => ?_) (fun _ => PySem.W.kat_no (TS.oneLt_ints _ ⟨rfl, rfl⟩))
      exact absurd (by simpa using e1) e
theorem tup_tot {vs : List Value} (hp : ∀ v ∈ vs, ∃ ns, TupIs s.heap v ns) : Srt.Tot prog w A s (tuples' true) (fun p => p.1 ∈ vs) := by
  intro p q hm hm'
  obtain ⟨ns, a, its, e, ⟨o, ho, hc, n, hd⟩, hi⟩ := hp _ hm
  obtain ⟨ms, a', its', e', ⟨o', ho', hc', n', hd'⟩, hi'⟩ := hp _ hm'
  rw [e, e']
  obtain ⟨b, hb⟩ := lex_tot (prog := prog) (w := w) (A := A) (s := s) (fin := decide (its.size < its'.size)) hi hi' 0
  exact ⟨b, PySem.W.kat_lt ho hd ho' hd' hb⟩
theorem tup_firsts {h : Heap} : ∀ {vs : List Value}, (∀ v ∈ vs, ∃ ns, TupIs h v ns ∧ ns ≠ []) → ∃ fs : List Value, PySem.W.KatTups h vs fs ∧ fs.length = vs.length ∧ ∀ f ∈ fs, ∃ x t, f = Value.int x t
  | [], _ => ⟨[], PySem.W.KatTups.nil, rfl, fun _ hm => by simp at hm⟩
  | v :: vs, hp => by
    obtain ⟨fs, h1, h2, h3⟩ := tup_firsts (vs := vs) fun v' hm => hp v' (List.mem_cons_of_mem _ hm)
    obtain ⟨ns, ⟨a, its, e, ⟨o, ho, hc, n, hd⟩, hi⟩, hne⟩ := hp v List.mem_cons_self
    subst e
    obtain ⟨x, t, hx⟩ : ∃ x t, its[0]? = some (Value.int x t) := by
      cases hl : its.toList with
      | nil => rw [hl] at hi; cases hi; exact absurd rfl hne
      | cons u us =>
        rw [hl] at hi
        cases hi with
        | cons x t r =>
          refine ⟨x, t, ?_⟩
          rw [← Array.getElem?_toList, hl]; rfl
    refine ⟨.int x t :: fs, PySem.W.KatTups.cons ho hc hd hx h1, by rw [List.length_cons, List.length_cons, h2], fun f hm => ?_⟩
    rcases List.mem_cons.mp hm with rfl | hm
    · exact ⟨x, t, rfl⟩
    · exact h3 f hm
theorem tup_sortable {a : Addr} {vs : List Value} (h0 : 0 < vs.length) (hp : ∀ v ∈ vs, ∃ ns, TupIs s.heap v ns ∧ ns ≠ []) (ha : ∀ o, s.heap.get? a = some o → o.cls ≠ .type "tuple") : Srt.Sortable prog w A s a vs := by
  intro h' keep
  have hp' : ∀ v ∈ vs, ∃ ns, TupIs h' v ns ∧ ns ≠ [] := fun v hm => by
    obtain ⟨ns, p, q⟩ := hp v hm
    exact ⟨ns, p.keeps fun b o e c => keep b o (fun z => by subst z; exact ha o e c) e, q⟩
  obtain ⟨fs, h1, h2, h3⟩ := tup_firsts hp'
  refine ⟨tuples' true, fun Q E hq => ?_, tup_tot fun v hm => let ⟨ns, p, _⟩ := hp' v hm; ⟨ns, p⟩⟩
  refine PySem.W.kat_kind (T := .type "int") h1 (by omega) (fun f hm => ?_) (by rfl) ?_
  · obtain ⟨x, t, rfl⟩ := h3 f hm
    exact PySem.W.Looks.now
  · have e : (Value.type "int" != Value.type "tuple") = true := by first | decide +kernel | rfl | decide
    rw [e]
    exact hq
/-- sorted behind any collecting -/
theorem sorted_gen {x : Value} {Q : Value → Shared → Prop} {E : Value → Shared → Prop}
    (h : wpAny (model prog w) A.in1 (collect x) (fun vs s1 => vs.length ≤ sizeLine ∧ (2 ≤ vs.length → Srt.Sortable prog w A.in1.in1 { s1 with heap := s1.heap.push (seqObj "list" vs.toArray 0) } s1.heap.objs.size vs) ∧
      ∀ (out : List Value) (h' : Heap), out.Perm vs → (∀ b o, s1.heap.get? b = some o → h'.get? b = some o) → (∃ n, h'.get? s1.heap.objs.size = some (seqObj "list" out.toArray n)) → Q (.ref s1.heap.objs.size) { s1 with heap := h' }) E s) :
    wpAny (model prog w) A (call (.builtin "sorted") [x]) Q E s := by
  refine Calls.call_function_entry kind_sorted plain_sorted entry_sorted (args_sorted1 _) ?_
  unfold Builtin.«sorted»
  refine wpAny_bind (m := checkCount "sorted" 1 1 _) (wpAny_pure ?_)
  refine wpAny_bind (wpAny_mono h (fun vs s1 h1 => ?_) fun _ _ e => e)
  obtain ⟨hz, hS, hQ⟩ := h1
  refine wpAny_bind (wpAny_newList ?_ hz)
  have hoL : (s1.heap.push (seqObj "list" vs.toArray 0)).get? s1.heap.objs.size = some (seqObj "list" vs.toArray 0) := Heap.get?_push_size _ rfl
  show wpAny _ _ _ _ _ { s1 with heap := s1.heap.push (seqObj "list" vs.toArray 0) }
  refine wpAny_bind (wpAny_holding (wpAny_call_entry (s := { s1 with heap := s1.heap.push (seqObj "list" vs.toArray 0) }) slot_list_sort ⟨_, hoL, rfl⟩ entry_list_sort (Srt.list_sort_any (s := { s1 with heap := s1.heap.push (seqObj "list" vs.toArray 0) }) hoL hz hS fun out hp => ⟨_, rfl, ?_⟩) (args_list_sort _)))
  refine wpAny_pure ⟨_, rfl, hQ out _ hp (fun b o e => ?_) ?_⟩
  · have hlt := Heap.lt_size e
    show (sortedHeap (s1.heap.push (seqObj "list" vs.toArray 0)) s1.heap.objs.size vs out.toArray).get? b = some o
    rw [sortedHeap_old (Nat.ne_of_lt hlt) (by rw [Heap.size_push]; exact Nat.lt_succ_of_lt hlt)]
    exact Heap.get?_push_of_some _ e
  · exact sortedHeap_at hoL
end

section
variable {X : Cx} {pins : List (Addr × Obj)} {σ : L2.St} {H : Hp} {s : Shared}
/-- the value is a tuple of these ints -/
def TupV (K : PySem.W.Frag) (H : Hp) (x : V) (ns : List Int) : Prop := ∃ a, x = .ref a ∧ SqT K H a (ns.map V.int)
theorem ints_of_vals : ∀ {ns : List Int} {us : List Value}, Vals (ns.map V.int) us → IntsAre us ns
  | [], _, .nil => .nil
  | n :: ns, _, .cons r t => by
    obtain ⟨k, rfl⟩ := r
    exact .cons n k (ints_of_vals t)
theorem TupV.is {x : V} {u : Value} {ns : List Int} (I : Inv X pins σ H s) (h : TupV X.K H x ns) (r : RelV x u) : TupIs s.heap u ns := by
  obtain ⟨a, rfl, hs⟩ := h
  obtain rfl : u = Value.ref a := r
  obtain ⟨its, rv, p, _⟩ := I.tuple hs
  exact ⟨a, its.toArray, rfl, p, by simpa using ints_of_vals rv⟩
theorem vals_mem : ∀ {xs : List V} {us : List Value}, Vals xs us → ∀ u ∈ us, ∃ x ∈ xs, RelV x u
  | _, _, .nil, u, h => by simp at h
  | x :: xs, _, .cons r t, u, h => by
    rcases List.mem_cons.mp h with rfl | h
    · exact ⟨x, List.mem_cons_self, r⟩
    · obtain ⟨y, hy, q⟩ := vals_mem t u h
      exact ⟨y, List.mem_cons_of_mem _ hy, q⟩
/-- what is sorted: tuples of ints; a new list, in some order -/
def rSortTI (K : PySem.W.Frag) (xs : List V) (H : Hp) (Q : VK) : Prop := xs.length ≤ sizeLine ∧ (∀ x ∈ xs, ∃ ns, TupV K H x ns ∧ (2 ≤ xs.length → ns ≠ [])) ∧ ∀ ys p, ys.Perm xs → H p = none → Q (.ref p) (upd H p (.lst ys))
theorem sort_end {A : Around} {xs : List V} {us : List Value} {Q : VK} (I : Inv X pins σ H s) (rv : Vals xs us) (h : rSortTI X.K xs H Q) :
    us.length ≤ sizeLine ∧ (2 ≤ us.length → Srt.Sortable X.prog X.w A { s with heap := s.heap.push (seqObj "list" us.toArray 0) } s.heap.objs.size us) ∧
      ∀ (out : List Value) (h' : Heap), out.Perm us → (∀ b o, s.heap.get? b = some o → h'.get? b = some o) → (∃ n, h'.get? s.heap.objs.size = some (seqObj "list" out.toArray n)) → EP X pins σ Q (.ref s.heap.objs.size) { s with heap := h' } := by
  obtain ⟨hz, hx, hq⟩ := h
  have hl := rv.length
  have tis : ∀ u ∈ us, ∃ ns, TupIs s.heap u ns ∧ (2 ≤ xs.length → ns ≠ []) := fun u hu => by
    obtain ⟨x, hx', r⟩ := vals_mem rv u hu
    obtain ⟨ns, h1, h2⟩ := hx x hx'
    exact ⟨ns, h1.is I r, h2⟩
  refine ⟨by omega, fun h2 => tup_sortable (s := { s with heap := s.heap.push (seqObj "list" us.toArray 0) }) (by omega) (fun v hv => ?_) (fun o e => ?_), fun out h' hp hk hn => ?_⟩
  · obtain ⟨ns, t, q⟩ := tis v hv
    exact ⟨ns, t.keeps fun b o e _ => Heap.get?_push_of_some _ e, q (by omega)⟩
  · have e' : some o = some (seqObj "list" us.toArray 0) := e.symm.trans (Heap.get?_push_size _ rfl)
    cases e'
    intro c
    exact absurd (Value.type.inj c) (by decide)
  · have refs : ∀ x ∈ xs, ∃ a, x = V.ref a := fun x hx' => by
      obtain ⟨ns, ⟨a, e, _⟩, _⟩ := hx x hx'
      exact ⟨a, e⟩
    obtain ⟨e1, e2⟩ := refs_back rv refs
    have h3 : ∀ u ∈ out, ∃ a, u = Value.ref a := fun u hu => e2 u (hp.mem_iff.mp hu)
    obtain ⟨n, hn⟩ := hn
    refine ⟨.ref s.heap.objs.size, upd H s.heap.objs.size (.lst (out.map backV)), I.laid (t' := s.toks) hk (Nat.le_refl _) ⟨?_, out, n, vals_back h3, hn⟩, rfl, hq _ _ ?_ (I.hok.fresh (Nat.le_refl _))⟩
    · rw [List.length_map, hp.length_eq]; omega
    · rw [e1]; exact hp.map backV
/-- sorted(xs) of a list -/
theorem cr_sortTI : CallR X (.builtin "sorted") (fun vs H Q => ∃ a xs, vs = [V.ref a] ∧ SqL X.K H a xs ∧ rSortTI X.K xs H Q) := by
  intro pins s σ H vs us Q I r h
  obtain ⟨a, xs, rfl, hs, q⟩ := h
  obtain ⟨its, rv, hl, hz⟩ := I.list hs
  rw [Vals.ref1 r]
  refine sorted_gen (collect_list hl.isList ?_ (by have := rv.length; omega))
  have I2 : Inv X pins σ H { s with heap := (s.heap.push (seqObj "list" #[] 0)).update s.heap.objs.size (Obj.mapSeq (· ++ its.toArray)) } := by
    refine I.kept (t' := s.toks) fun b o e => ?_
    rw [Heap.get?_update_ne _ _ _ _ (Nat.ne_of_lt (Heap.lt_size e))]
    exact Heap.get?_push_of_some _ e
  exact sort_end I2 rv q
/-- sorted(e for ..) -/
def tSortG (K : PySem.W.Frag) (wi : TI) (g : TG) (tt : TT) (te : TE) (vs : List Nat) (P : Addr) : TE := fun σ H Q => tGen wi g tt te vs P (fun _ => True) (fun _ _ Fin _ => ∀ ys H', Fin ys H' → rSortTI K ys H' Q) σ H
theorem pe_sortG {c P : Addr} {elt tg iter : Expr} {ifs : List Expr} {p pos gpos : Pos} {scope : Scope} {own : List (Str × Nat)} {wi : TI} {g : TG} {tt : TT} {te : TE} {k : Nat}
    (hcalm : X.calm = true) (hr : Room (k + 1) X.A) (TB : GxR.TabB X.base X.mg c P) (hcode : X.env.code = .ref c) (hN : X.N.Nodup) (hgl : Gl X "sorted") (hmg : X.mg "sorted" = none) (hi : PI X tg iter wi) (ok : BlkOk X.N X.env.scope scope own) (hco : scope.isCoroutine = false) (nocell : ∀ y ∈ scope.names, y.2 ≠ .cell) (hdot : scope.names.lookup (".0" : Str) = some NameKind.local)
    (hg : ∀ (s : Shared) (H : Hp) (C : Addr) (cl : List (Str × Addr)) (code : Value) (Aw : Around) (fp : List Addr) (pn : List (Addr × Obj)), Room k Aw → PG (gxc X s H (genEnv scope cl C code builtinsNs X.env) Aw fp pn) tg g)
    (ht : ∀ (s : Shared) (H : Hp) (C : Addr) (cl : List (Str × Addr)) (code : Value) (Aw : Around) (fp : List Addr) (pn : List (Addr × Obj)), Room k Aw → PTs (gxc X s H (genEnv scope cl C code builtinsNs X.env) Aw fp pn) ifs tt)
    (he : ∀ (s : Shared) (H : Hp) (C : Addr) (cl : List (Str × Addr)) (code : Value) (Aw : Around) (fp : List Addr) (pn : List (Addr × Obj)), Room k Aw → PE (gxc X s H (genEnv scope cl C code builtinsNs X.env) Aw fp pn) elt te)
    (hs : ∀ v, genFold iter X.env v = pure v := by intro _; rfl)
    (hst : starEach [.GeneratorExp elt [⟨tg, iter, ifs, 0⟩] scope gpos] X.env = (false, eval (.GeneratorExp elt [⟨tg, iter, ifs, 0⟩] scope gpos) X.env) :: starEach [] X.env := by rfl) :
    PE X (.Call (.Name "sorted" p) [.GeneratorExp elt [⟨tg, iter, ifs, 0⟩] scope gpos] [] pos) (tSortG X.K wi g tt te (own.map (·.2)) P) := by
  refine ⟨fun pins s σ H Q I h => ?_⟩
  refine wpAny_Call_Name_kw (ld_blt I hgl hmg PyProof.Rows.boot_sorted ?_)
  refine PyProof.Rows.callWith_builtin1 ?_ hst (by rfl)
  rw [hst]
  show wpAny _ _ (spliced ((false, eval (.GeneratorExp elt [⟨tg, iter, ifs, 0⟩] scope gpos) X.env) :: backTo pos (starEach [] X.env))) _ _ s
  refine Calls.spliced_cons (gx_make hcalm (hr.mono (Nat.le_succ k)) TB hcode hN hi ok hco nocell hdot hg ht he hs I h fun m Wt Fin H2 a s5 hR hG => ?_)
  refine Calls.spliced_nil ?_
  obtain ⟨g0, hg0, I5, _⟩ := hG.go
  exact sorted_gen (collect_gx (k := k) (A := X.A.in1) ⟨hr.hd, by have := hr.dp; show X.A.depth + 3 * k + 5 < _; omega, by have := hr.un; show X.A.units + 1 + 1 + 1 + 16 * k + 200 < _; omega⟩ I5.ok.frames hG fun s1 ys us H1 I1 rv hF => sort_end I1 rv (hR ys H1 hF))
end
end GX

set_option maxHeartbeats 8000000
/-! TxF: displays of dicts: {**d, k: v}, and of one key that is a tuple. -/
namespace GX
open PySem PySem.Spec PyProof.Rows L2
section
variable {prog : Program} {w : World} {K : Type} [DecidableEq K] {knd : KeyKind prog w K} {A : Around} {E : Value → Shared → Prop} {s : Shared}
theorem wpAny_dictPut_pairs {d : Addr} {kvs : List (K × Value)} {k : K} {key v : Value} {Q : Unit → Shared → Prop} (hkey : knd.is k key = true) (hm : s.heap.DictOf knd d kvs)
    (hQ : ∀ h', h'.DictOf knd d (stored kvs k v) → Heap.SameBut d s.heap h' → Q () { s with heap := h' })
    (hsz : kvs.length ≤ sizeLine := by size_fits) :
    wpAny (model prog w) A (dictPut d (knd.hash k) key v) Q E s := by
  obtain ⟨o, es, ep, ho, hc, hd, hk, hp, hn⟩ := hm
  have hes : es.size ≤ sizeLine := by have e1 := hp.length; have e2 : es.toList.length = es.size := by simp
                                      omega
  unfold dictPut
  refine wpAny_bind (wpAny_dictFind_of hkey ho hd hk ?_)
  have hidx : (es.findIdx? fun e => knd.is k e.key) = kvs.findIdx? fun kv => decide (kv.1 = k) := by
    rw [← hp.findIdx k]; obtain ⟨l⟩ := es; simp
  cases hi : es.findIdx? fun e => knd.is k e.key with
  | some i =>
    refine wpAny_updateDict ho hd (hQ _ ⟨_, _, ep, Heap.get?_update_self _ ho (Obj.isFreed_of_dict (Obj.data_mapDict hd _)),
      hc.mapDict _, Obj.data_mapDict hd _, hk.modify _ _, ?_, ?_⟩ (Heap.SameBut.update ..))
    · rw [stored, if_pos (any_of_findIdx_some (hidx ▸ hi))]
      have hl : (es.toList.findIdx? fun e => knd.is k e.key) = some i := by rw [← hi]; obtain ⟨l⟩ := es; simp
      have := hp.modify hn hl v
      obtain ⟨l⟩ := es
      simpa using this
    · rw [stored, if_pos (any_of_findIdx_some (hidx ▸ hi)), keys_map_store]; exact hn
  | none =>
    have hnot : k ∉ kvs.map (·.1) := not_mem_of_findIdx_none (hidx ▸ hi)
    have hany : ¬ (kvs.any fun kv => decide (kv.1 = k)) = true := by
      rw [List.any_eq_true]; rintro ⟨kv, hkv, he⟩
      exact hnot (List.mem_map.mpr ⟨kv, hkv, of_decide_eq_true he⟩)
    refine wpAny_updateDictKeys (hz := hes) ho hd (hQ _ ⟨_, _, ep + 1, Heap.get?_update_self _ ho (Obj.isFreed_of_dict (Obj.data_mapDictKeys hd _)),
      hc.mapDictKeys _, Obj.data_mapDictKeys hd _, hk.push hkey _, ?_, ?_⟩ (Heap.SameBut.update ..))
    · rw [stored, if_neg hany]
      have := hp.append hkey (knd.hash k) v
      obtain ⟨l⟩ := es
      simpa using this
    · rw [stored, if_neg hany, List.map_append, List.nodup_append]
      refine ⟨hn, by simp, ?_⟩
      intro a ha b hb
      simp only [List.map_cons, List.map_nil, List.mem_singleton] at hb
      subst hb
      exact fun e => hnot (e ▸ ha)
theorem wpAny_mergeMapping_of {d o : Addr} {kvs more : List (K × Value)} {Q : Unit → Shared → Prop} (hdo : d ≠ o) (hoS : (o == sysModules) = false)
    (hd : s.heap.DictOf knd d kvs) (ho : s.heap.DictOf knd o more)
    (hQ : ∀ h', h'.DictOf knd d (merged kvs more) → Heap.SameBut d s.heap h' → Q () { s with heap := h' })
    (hsz : kvs.length + more.length ≤ sizeLine) :
    wpAny (model prog w) A (mergeMapping d (.ref o) false) Q E s := by
  obtain ⟨od, esd, epd, hod, hcd, hdd, hkd, hpd, hnd⟩ := id hd
  obtain ⟨oo, eso, epo, hoo, hco, hdo', hko, hpo, hno⟩ := id ho
  have hlen : more.length = eso.size := by rw [← hpo.length]; simp
  have hloop1 : (forIn eso PUnit.unit fun e (_ : PUnit) => (match e.key with
      | Value.ref a => do
        let x ← specialOf e.key (Str.ofString "__eq__")
        if (x != some (Value.builtin "object.__eq__")) = true then
            if (Array.filter (fun x => x.hash == e.hash) eso).size > 1 then do
              (unsupported "dict.merge-into-an-empty-dict:keys-of-equal-hash" : Sem PUnit)
              pure (ForInStep.yield PUnit.unit)
            else pure (ForInStep.yield PUnit.unit)
          else pure (ForInStep.yield PUnit.unit)
      | x => pure (ForInStep.yield PUnit.unit) : Sem (ForInStep PUnit))) = pure PUnit.unit := by
    rw [← Array.forIn_toList]
    refine forIn_yield_id _ fun e he c => ?_
    obtain ⟨k, hkey, _⟩ := hko e (Array.mem_toList_iff.mp he)
    have hb := knd.byValue k _ hkey
    cases q : e.key with
    | ref a => rw [q] at hb; exact absurd hb Bool.false_ne_true
    | _ => rfl
  have loop : wpAny (model prog w) A (do
      let l ← dictEntries o
      let epoch ← dictEpoch o
      forIn (List.range l.size) PUnit.unit fun i (_ : PUnit) => (do
          let l' ← dictEntries o
          match l'[i]? with
            | some e => do
              holding [e.key, e.val] (dictPut d e.hash e.key e.val)
              let ep' ← dictEpoch o
              if (ep' != epoch) = true then do
                  (unsupported "dict.changed-during-merge" : Sem PUnit)
                  pure (ForInStep.yield PUnit.unit)
                else pure (ForInStep.yield PUnit.unit)
            | _ => do
              (unsupported "dict.changed-during-merge" : Sem PUnit)
              pure (ForInStep.yield PUnit.unit) : Sem (ForInStep PUnit))
      pure ()) Q E s := by
    refine wpAny_bind (wpAny_dictEntries hoo hdo' ?_)
    refine wpAny_bind (wpAny_dictEpoch hoo hdo' ?_)
    refine wpAny_bind ?_
    rw [List.range_eq_range']
    refine wpAny_forIn_list _
      (fun rest _ s' => ∃ h' i, s' = { s with heap := h' } ∧ rest = List.range' i (eso.size - i) ∧ i ≤ eso.size ∧ h'.DictOf knd d (merged kvs (more.take i)) ∧ h'.get? o = some oo ∧ Heap.SameBut d s.heap h')
      _ ?_ ?_ _ _ ⟨s.heap, 0, rfl, by simp, Nat.zero_le _, by simpa [merged] using hd, hoo, Heap.SameBut.refl _ _⟩
    · rintro x rest b s' ⟨h', i, rfl, hr, hi, hd', hoo', hs'⟩
      have hlt : i < eso.size := by
        rcases Nat.lt_or_ge i eso.size with h | h
        · exact h
        · rw [Nat.sub_eq_zero_of_le h] at hr; simp at hr
      obtain ⟨rfl, hrest⟩ : x = i ∧ rest = List.range' (i + 1) (eso.size - (i + 1)) := by
        have e : eso.size - i = (eso.size - (i + 1)) + 1 := by omega
        rw [e, List.range'_succ] at hr
        injection hr with h1 h2
        exact ⟨h1, h2⟩
      refine wpAny_bind (wpAny_dictEntries hoo' hdo' ?_)
      rw [Array.getElem?_eq_getElem hlt]
      obtain ⟨kv, hkv⟩ : ∃ kv, more[x]? = some kv := ⟨more[x]'(by rw [hlen]; exact hlt), List.getElem?_eq_getElem _⟩
      obtain ⟨k, v⟩ := kv
      obtain ⟨hkey, hval⟩ := hpo.get? (e := eso[x]) (by simp [hlt]) hkv
      obtain ⟨k', hkey', hhash⟩ := hko eso[x] (Array.getElem_mem hlt)
      obtain rfl : k' = k := knd.inj _ _ _ hkey' hkey
      dsimp only
      rw [hhash, hval]
      have hmx : (merged kvs (more.take x)).length ≤ sizeLine := by
        have e1 := merged_length_le kvs (more.take x)
        have e2 : (more.take x).length ≤ more.length := by rw [List.length_take]; omega
        omega
      refine wpAny_bind (wpAny_holding (wpAny_dictPut_pairs (hsz := hmx) hkey hd' fun h'' hd'' hs'' => ?_))
      have hoo'' : h''.get? o = some oo := (hs''.2 o (Ne.symm hdo)).trans hoo'
      refine wpAny_bind (wpAny_dictEpoch hoo'' hdo' ?_)
      rw [if_neg (by simp)]
      exact wpAny_pure ⟨h'', x + 1, rfl, hrest, hlt, by rw [merged_take_succ kvs more x (k', v) hkv]; exact hd'', hoo'', hs'.trans hs''⟩
    · rintro b s' ⟨h', i, rfl, hr, hi, hd', hoo', hs'⟩
      have hin : i = eso.size := by
        rcases Nat.lt_or_ge i eso.size with h | h
        · have e : eso.size - i = (eso.size - (i + 1)) + 1 := by omega
          rw [e, List.range'_succ] at hr; exact nomatch hr
        · exact Nat.le_antisymm hi h
      refine wpAny_pure (hQ h' ?_ hs')
      rw [hin, ← hlen, List.take_length] at hd'; exact hd'
  unfold mergeMapping
  refine wpAny_bind (wpAny_isInstance ho.typeIs isSubtype_dict_dict ?_)
  rw [if_pos rfl]
  refine wpAny_bind (wpAny_specialOf ho.typeIs F.slot_dict_iter.lookup ?_)
  refine wpAny_bind (wpAny_pure ?_)
  simp only [beq_self_eq_true, Bool.false_eq_true, if_false]
  rw [if_neg (by rw [hoS]; exact Bool.false_ne_true)]
  refine wpAny_bind (wpAny_dictEntries hod hdd ?_)
  split
  · refine wpAny_bind (wpAny_dictEntries hoo hdo' ?_)
    exact wpAny_bind (wpAny_of_eq hloop1 loop)
  · exact loop

/-- {**d, k: v} -/
theorem wpAny_Dict_star {env : PySem.Env} {a k v : Expr} {pos : Pos} {Q : Value → Shared → Prop}
    (h : wpAny (model prog w) A (eval a env) (fun av s1 => ∃ o more, av = .ref o ∧ o ≠ s.heap.objs.size ∧ (o == sysModules) = false ∧ s1.heap.DictOf knd s.heap.objs.size [] ∧ s1.heap.DictOf knd o more ∧ more.length < sizeLine ∧
      ∀ h1, h1.DictOf knd s.heap.objs.size (merged [] more) → Heap.SameBut s.heap.objs.size s1.heap h1 →
        wpAny (model prog w) A (subDict [(eval k env, (do let x ← eval v env; standAt pos; pure x))]) (fun sub s2 => sub ≠ s.heap.objs.size ∧ (sub == sysModules) = false ∧ ∃ kvs1 kvs, s2.heap.DictOf knd s.heap.objs.size kvs1 ∧ s2.heap.DictOf knd sub kvs ∧ kvs1.length + kvs.length ≤ sizeLine ∧
          ∀ h2, h2.DictOf knd s.heap.objs.size (merged kvs1 kvs) → Heap.SameBut s.heap.objs.size s2.heap h2 → Q (.ref s.heap.objs.size) { s2 with heap := h2 }) E { s1 with heap := h1 }) E { s with heap := s.heap.push { cls := .type "dict", data := .dict #[] } }) :
    wpAny (model prog w) A (eval (.Dict [none, some k] [a, v] pos) env) Q E s := by
  rw [arm_eval_Dict]
  refine wpAny_bind (wpAny_standAt ?_)
  unfold dictDisplay
  show wpAny _ _ (forIn [((none : Option (Sem Value)), (do let x ← eval a env; standAt pos; pure x : Sem Value)), (some (eval k env), (do let x ← eval v env; standAt pos; pure x : Sem Value))] _ _ >>= _) _ _ s
  rw [List.forIn_cons]
  simp only [List.isEmpty_nil, if_true, pure_bind, bind_assoc]
  refine wpAny_bind (wpAny_alloc ?_)
  refine wpAny_bind (wpAny_holding (wpAny_bind (wpAny_mono h (fun av s1 h1 => ?_) fun _ _ e => e)))
  obtain ⟨o, more, rfl, hne, hoS, hd, ho, hz, h1⟩ := h1
  refine wpAny_bind (wpAny_standAt (wpAny_pure ?_))
  refine wpAny_bind (wpAny_onRaise (wpAny_tryCatch (wpAny_onRaise (wpAny_holding (wpAny_mergeMapping_of (knd := knd) (Ne.symm hne) hoS hd ho (fun h' hd' hs' => ?_) (by simp; omega))))))
  refine wpAny_bind ?_
  rw [List.forIn_cons]
  simp only [List.forIn_nil, List.nil_append, List.length_cons, List.length_nil, Nat.zero_add, Nat.reduceBEq, Bool.false_eq_true, if_false, pure_bind, bind_assoc]
  refine wpAny_pure ?_
  simp only [List.isEmpty_cons, Bool.false_eq_true, if_false, bind_assoc, pure_bind]
  refine wpAny_bind (wpAny_holding (wpAny_mono (h1 h' hd' hs') (fun sub s2 h2 => ?_) fun _ _ e => e))
  obtain ⟨hne2, hS2, kvs1, kvs2, hd2, ho2, hz2, h2⟩ := h2
  refine wpAny_bind (wpAny_onRaise (wpAny_holding (wpAny_mergeMapping_of (knd := knd) (Ne.symm hne2) hS2 hd2 ho2 (fun h'' hd'' hs'' => ?_) hz2)))
  exact wpAny_pure (h2 h'' hd'' hs'')
end
section
variable {X : Cx} {pos : Pos}
/-- {**d, k: v}: the new dict, then k and v in a dict of their own -/
def tStar (ta tk tv : TE) : TE := fun σ H Q => ∀ p, H p = none → ta σ (upd H p (.dK [])) fun x H1 => ∃ o kvs, x = .ref o ∧ o ≠ p ∧ H1 p = some (.dK []) ∧ H1 o = some (.dK kvs) ∧ kvs.length < sizeLine ∧
  ∀ q, upd H1 p (.dK kvs) q = none → tk σ (upd (upd H1 p (.dK kvs)) q (.dK [])) fun y H2 => tv σ H2 fun z H3 => ∃ k, y = kV k ∧ H3 p = some (.dK kvs) ∧ H3 q = some (.dK []) ∧ Q (.ref p) (upd (upd H3 q (.dK [(k, z)])) p (.dK (putK kvs k z)))
theorem pe_star {a k v : Expr} {ta tk tv : TE} (ha : PE X a ta) (hk : PE X k tk) (hv : PE X v tv) : PE X (.Dict [none, some k] [a, v] pos) (tStar ta tk tv) := by
  refine ⟨fun pins s σ H Q I q => ?_⟩
  have hn := I.hok.fresh (Nat.le_refl s.heap.objs.size)
  have I1 := I.laid (a := s.heap.objs.size) (o := .dK []) (h' := s.heap.push { cls := .type "dict", data := .dict #[] }) (t' := s.toks) (fun _ _ q => Heap.get?_push_of_some _ q) (Nat.le_refl _) (dk_empty s.heap I.big)
  refine wpAny_Dict_star (knd := mixKind X.prog X.w) (thn (ha.run pins _ σ _ _ I1 (q _ hn)) fun av s1 ⟨x, H1, I1', r1, o, kvs, e, hop, e1, e2, hz, q2⟩ => ?_)
  subst e
  cases r1
  obtain ⟨z0, hd0, vs0, r0, dd0⟩ := dk_of I1'.hok e1
  cases r0
  obtain ⟨z1, hd1, vs, rel, dd⟩ := dk_of I1'.hok e2
  have nd : (vs.map (·.1)).Nodup := by
    obtain ⟨_, _, _, _, _, _, _, _, hn⟩ := dd
    exact hn
  refine ⟨o, vs, rfl, hop, hd1, dd0, dd, by rw [← rel.length]; exact hz, fun h1 hd1' hs1 => ?_⟩
  rw [merged_nil_of_nodup vs nd] at hd1'
  have he1 : ∃ q, h1.get? s.heap.objs.size = some q := let ⟨q, _, _, hq, _⟩ := hd1'; ⟨q, hq⟩
  have I2 := d_write (t' := s1.toks) I1' (by rw [e1]; exact True.intro) hs1 he1 (dk_new z1 hd0 rel hd1')
  have hn2 := I2.hok.fresh (Nat.le_refl h1.objs.size)
  have I3 := I2.laid (a := h1.objs.size) (o := .dK []) (h' := h1.push { cls := .type "dict", data := .dict #[] }) (t' := s1.toks) (fun _ _ q => Heap.get?_push_of_some _ q) (Nat.le_refl _) (dk_empty h1 I2.big)
  refine wpAny_subDict (knd := mixKind X.prog X.w) (by show 1 ≤ 15; omega) (evalPairs_cons (thn (hk.run pins _ σ _ _ I3 (q2 _ hn2)) fun kv s2 ⟨y, H2, I4, ry, qv⟩ => ?_))
  refine wpAny_bind (thn (hv.run pins _ σ _ _ I4 qv) fun vv s3 ⟨z, H3, I5, rz, kk, ey, e3, e4, fin⟩ => ?_)
  subst ey
  refine wpAny_bind (wpAny_standAt (wpAny_pure (evalPairs_nil ?_)))
  obtain ⟨z4, hd4, vs4, r4, dd4⟩ := dk_of I5.hok e4
  cases r4
  refine ⟨[(kk, vv)], ⟨kV_is ry, rfl, trivial⟩, dd4, fun h' hd' hs' => ?_⟩
  have hpq : s.heap.objs.size ≠ h1.objs.size := fun z => by
    rw [← z, upd_same] at hn2
    cases hn2
  have he' : ∃ q, h'.get? h1.objs.size = some q := let ⟨q, _, _, hq, _⟩ := hd'; ⟨q, hq⟩
  have hm1 : merged [] [(kk, vv)] = [(kk, vv)] := rfl
  rw [hm1] at hd'
  have I6 := d_write (ob := .dK [(kk, z)]) (t' := s3.toks + [(kv, vv)].length) I5 (by rw [e4]; exact True.intro) hs' he' (dk_new (by rw [sizeLine_eq]; show 1 ≤ _; omega) hd4 (.cons ⟨rfl, rz⟩ .nil) hd')
  have e5 : upd H3 h1.objs.size (.dK [(kk, z)]) s.heap.objs.size = some (.dK kvs) := by rw [upd_ne hpq]; exact e3
  obtain ⟨z5, hd5, vs5, r5, dd5⟩ := dk_of I6.hok e5
  refine ⟨hpq.symm, hd4, vs5, [(kk, vv)], dd5, hd', by rw [← r5.length]; show kvs.length + 1 ≤ _; omega, fun h2 hd2 hs2 => ?_⟩
  have he2 : ∃ q, h2.get? s.heap.objs.size = some q := let ⟨q, _, _, hq, _⟩ := hd2; ⟨q, hq⟩
  have hl := length_putK kvs kk z
  exact ⟨.ref s.heap.objs.size, _, d_write I6 (by rw [e5]; exact True.intro) hs2 he2 (dk_new (by omega) hd5 (r5.put kk rz) hd2), rfl, fin⟩
/-- {t: v}, t a tuple -/
def tDisp1 (tk tv : TE) : TE := fun σ H Q => ∀ p, H p = none → tk σ (upd H p (.dT [])) fun y H2 => tv σ H2 fun z H3 => ∃ b k, y = .ref b ∧ H3 b = some (.tup (k.map kV)) ∧ H3 p = some (.dT []) ∧ Q (.ref p) (upd H3 p (.dT [(k, z)]))
theorem pe_disp1T {k v : Expr} {tk tv : TE} (hu : X.A.units + 1 < cLine) (hk : PE X k tk) (hv : PE X v tv) : PE X (.Dict [some k] [v] pos) (tDisp1 tk tv) := by
  refine ⟨fun pins s σ H Q I q => ?_⟩
  have hn := I.hok.fresh (Nat.le_refl s.heap.objs.size)
  have I1 := I.laid (a := s.heap.objs.size) (o := .dT []) (h' := s.heap.push { cls := .type "dict", data := .dict #[] }) (t' := s.toks) (fun _ _ q => Heap.get?_push_of_some _ q) (Nat.le_refl _) (dt_empty s.heap I.big)
  rw [arm_eval_Dict]
  have e1 : (evalEachOpt [some k] X.env).zip (List.map (fun v => (do let x ← v; standAt pos; pure x : Sem Value)) (evalEach [v] X.env)) = ([(eval k X.env, (do let x ← eval v X.env; standAt pos; pure x : Sem Value))].map fun p => (some p.1, p.2)) := by
    simp only [evalEachOpt, evalOpt, evalEach, List.map_cons, List.map_nil, List.zip_cons_cons, List.zip_nil_right]
  rw [e1]
  rw [dictDisplay_pairs _ (by simp) (by show 1 < 17; omega)]
  refine wpAny_bind (wpAny_standAt (wpAny_bind (wpAny_subDictH (knd := tupleKind (mixKind X.prog X.w)) (show X.A.units < cLine by omega) (by show 1 ≤ 15; omega) (evalPairs_cons (thn (hk.run pins _ σ _ _ I1 (q _ hn)) fun kv s2 ⟨y, H2, I4, ry, qv⟩ => ?_)))))
  refine wpAny_bind (thn (hv.run pins _ σ _ _ I4 qv) fun vv s3 ⟨z, H3, I5, rz, b, kk, ey, e3, e4, fin⟩ => ?_)
  subst ey
  cases ry
  refine wpAny_bind (wpAny_standAt (wpAny_pure (evalPairs_nil ?_)))
  obtain ⟨z4, hd4, xs4, r4, dd4⟩ := dt_of I5.hok e4
  cases r4
  refine ⟨[(kk, b, vv)], ⟨rfl, rfl, key_of I5.hok e3, trivial⟩, dd4, fun h' tk hd' hs' => ?_⟩
  obtain ⟨o, es, ep, hq, h2, h3, h4, _, h5⟩ := hd'
  refine wpAny_pure ⟨.ref s.heap.objs.size, _, d_write (t' := tk) (ob := .dT [(kk, z)]) I5 (by rw [e4]; exact True.intro) hs' ⟨o, hq⟩ ⟨by rw [sizeLine_eq]; show 1 ≤ _; omega, hd4, [(kk, b, vv)], ?_, o, es, ep, hq, h2, h3, h4, h5⟩, rfl, fin⟩
  have ne : b ≠ s.heap.objs.size := ne_of e3 e4 (fun z => nomatch z)
  exact .cons ⟨rfl, by rw [upd_ne ne]; exact e3, rz⟩ .nil
end
end GX

set_option maxHeartbeats 8000000
/-! TxG: tuples that are known to be plain, dict() of them; t += u; t * n. -/
namespace GX
open PySem PySem.Spec PyProof.Rows L2 HT
section
variable {X : Cx}
/-- tuple(xs) of a list: the new tuple's object is a plain one -/
theorem cr_tupleF : CallR X (.type "tuple") (fun xs H Q => ∃ p ys, xs = [.ref p] ∧ SqL X.K H p ys ∧ ∀ l o, H l = none → o.dict = none → Q (.ref l) (upd H l (.frz o (.tup ys)))) := by
  intro pins s σ H xs us Q I r h
  obtain ⟨p, ys, rfl, hq, q⟩ := h
  obtain ⟨u, rfl, rx⟩ := vals1 r
  cases rx
  obtain ⟨its, r', pl, hz⟩ := I.list hq
  refine call_tuple_list pl.isList (fun h' kp => ?_) (by simp only [List.size_toArray] <;> (have := r'.length; omega))
  have I1 : Inv X pins σ H { s with heap := h' } := I.kept (t' := s.toks) kp
  have I2 : Inv X pins σ (upd H h'.objs.size (.frz { cls := .type "tuple", data := .seq its.toArray } (.tup ys))) { s with heap := h'.push { cls := .type "tuple", data := .seq its.toArray } } :=
    I1.laid (t' := s.toks) (fun b o e => Heap.get?_push_of_some _ e) (Nat.le_refl _) (show ObjOk X.prog X.w _ _ _ (.frz _ (.tup ys)) from ⟨Heap.get?_push_size _ rfl, hz, its, r', IsTup.new _ _⟩)
  exact ⟨.ref h'.objs.size, _, I2, rfl, q _ _ (I1.hok.fresh (Nat.le_refl _)) rfl⟩
/-- dict(t), t a plain tuple of pairs -/
def rDictT (K : PySem.W.Frag) : List V → Hp → VK → Prop := fun xs H Q => ∃ (a : Addr) (o : Obj) (ps : List Addr) (kvs : List (Key × V)), xs = [.ref a] ∧ H a = some (.frz o (.tup (ps.map V.ref))) ∧ o.dict = none ∧ Paired (fun p kv => SqT K H p [kV kv.1, kv.2]) ps kvs ∧
    ∀ p, H p = none → Q (.ref p) (upd H p (.dK (mergeK [] kvs)))
theorem call_dictT (hcalm : X.calm = true) : CallR X (.type "dict") (rDictT X.K) := by
  intro pins s σ H xs us Q I r q
  obtain ⟨a, o, ps, kvs, ex, hq, hdd, hp, q⟩ := q
  subst ex
  obtain ⟨u, eu, rx⟩ := vals1 r
  subst eu
  cases rx
  obtain ⟨ho, hz, its, rv, o', ho', hc, n, hdat⟩ := (show ObjOk X.prog X.w H s.heap a (.frz o (.tup (ps.map V.ref))) from I.hok a _ hq)
  rw [ho] at ho'
  cases ho'
  have ei := refs_at rv
  subst ei
  rw [List.length_map] at hz
  obtain ⟨prs, rel, hl, hpr⟩ := pairs_of I hp
  have key : ∀ (j : Nat) (q : Key × Value), prs[j]? = some q → ∃ (b : Addr) (u : Value), ps[j]? = some b ∧ IsTup s.heap b #[u, q.2] ∧ keyIs q.1 u = true := hpr
  -- the pairs by value
  obtain ⟨qs, hqs, hqk⟩ : ∃ qs : List (Value × Value), qs.length = ps.length ∧ ∀ (j : Nat) k v, qs[j]? = some (k, v) → ∃ (b : Addr) (q : Key × Value), ps[j]? = some b ∧ prs[j]? = some q ∧ v = q.2 ∧ IsTup s.heap b #[k, q.2] ∧ keyIs q.1 k = true := by
    clear rel hq rv q r hp ho
    have : ∀ (prs : List (Key × Value)) (ps : List Addr), prs.length = ps.length → (∀ (j : Nat) (q : Key × Value), prs[j]? = some q → ∃ (b : Addr) (u : Value), ps[j]? = some b ∧ IsTup s.heap b #[u, q.2] ∧ keyIs q.1 u = true) →
        ∃ qs : List (Value × Value), qs.length = ps.length ∧ ∀ (j : Nat) k v, qs[j]? = some (k, v) → ∃ (b : Addr) (q : Key × Value), ps[j]? = some b ∧ prs[j]? = some q ∧ v = q.2 ∧ IsTup s.heap b #[k, q.2] ∧ keyIs q.1 k = true := by
      intro prs
      induction prs with
      | nil => intro ps hl _; exact ⟨[], hl, fun j k v e => by simp at e⟩
      | cons p prs ih =>
        intro ps hl h
        cases ps with
        | nil => cases hl
        | cons b ps =>
          obtain ⟨qs, h1, h2⟩ := ih ps (by simpa using hl) fun j q e => by simpa using h (j + 1) q (by simpa using e)
          obtain ⟨b', u, e1, e2, e3⟩ := h 0 p rfl
          cases e1
          refine ⟨(u, p.2) :: qs, by simp [h1], fun j k v e => ?_⟩
          cases j with
          | zero => cases e; exact ⟨b, p, rfl, rfl, rfl, e2, e3⟩
          | succ j => simpa using h2 j k v (by simpa using e)
    exact this prs ps hl key
  refine PySem.call_dict_pairs (knd := mixKind X.prog X.w) (kvs := prs) (PairArg.tuple a (ps.map Value.ref).toArray (fun j => ps.getD j 0) qs) (I.ok.hd hcalm) ⟨⟨o, n, ho, hc, hdd, hdat⟩, by simp [hqs], fun j k v e => ?_⟩ ⟨by rw [hl, hqs], fun j k v e => ?_⟩ (by rw [hqs]; exact hz) fun h' tk hd' k => ?_
  · obtain ⟨b, q, e1, e2, e3, e4, e5⟩ := hqk j k v e
    have : ps.getD j 0 = b := by rw [List.getD_eq_getElem?_getD, e1]; rfl
    simp only [this]
    subst e3
    refine ⟨by simp [e1], .inl ?_⟩
    obtain ⟨ob, h1, h2, m, h3⟩ := e4
    exact ⟨ob, h1, h2, m, h3⟩
  · obtain ⟨b, q, e1, e2, e3, e4, e5⟩ := hqk j k v e
    subst e3
    exact ⟨q.1, by rw [e2], e5⟩
  · have hm : (s.heap.objs.size == sysModules) = false := beq_eq_false_iff_ne.mpr (Nat.ne_of_gt I.big)
    have hlen : (mergeK [] kvs).length ≤ sizeLine := by
      refine Nat.le_trans (length_mergeK kvs []) ?_
      rw [List.length_nil, Nat.zero_add, rel.length, hl]
      exact hz
    exact ⟨.ref s.heap.objs.size, upd H s.heap.objs.size (.dK (mergeK [] kvs)), I.laid (t' := tk) (fun b ob e => k b ob (by simp) e) (Nat.le_refl _) (show ObjOk X.prog X.w _ _ _ (.dK (mergeK [] kvs)) from ⟨hlen, hm, merged [] prs, KV.merge rel .nil, hd'⟩), rfl, q _ (I.hok.fresh (Nat.le_refl _))⟩
end
/-! ### t * 1, t += u -/
theorem tuple_mul1 (l : Addr) (items : Array Value) (n : Nat) (sl : Array (Option Value)) (dd : Option Addr) (u : Tok) :
    Meets (Builtin.«tuple.__mul__» ⟨[.ref l, .int 1 u], []⟩) (fun _ R s => s.heap.get? l = some { cls := .type "tuple", dict := dd, data := .seq items n, slots := sl } ∧ R (.ok (.ret (Value.ref l))) s) :=
  .of_wp fun prog w A R s h => by
    obtain ⟨hp, g, d, tk, os⟩ := s
    obtain ⟨hl, h⟩ := h
    have f1 := AutoSeq1.idx_int
    wp_walk using wpAny_loadPart' hl
    exact ⟨_, rfl, h⟩
theorem noI_tuple_add : typeLookup (.type "tuple") (dunderI "add") = pure none := by rw [typeLookup_type, builtinLookup_eq_fast]; kernel_rfl
section
variable {X : Cx}
/-- t * k, k at least 1 -/
def rRepN (K : PySem.W.Frag) : R2 := fun x y H Q => ∃ l k xs, x = .ref l ∧ y = .int k ∧ SqT K H l xs ∧ xs ≠ [] ∧ 1 ≤ k ∧ k ≤ 1000 ∧ xs.length ≤ 1000 ∧ (k = 1 → Q (.ref l) H) ∧ (2 ≤ k → ∀ p, H p = none → Q (.ref p) (upd H p (.tup (List.replicate k.toNat xs).flatten)))
theorem op_repN : OpR X (binaryOp .Mult) (rRepN X.K) := by
  intro pins s σ H x y v u Q I rx ry h
  obtain ⟨l, k, xs, rfl, rfl, hT, hne, h1, h2, hz, q1, q2⟩ := h
  by_cases hk : k = 1
  · subst hk
    cases rx
    obtain ⟨t, rfl⟩ := ry
    obtain ⟨its, r, ⟨⟨cls, dd, data, sl⟩, ho, hc, n, hd⟩, hs⟩ := I.tuple hT
    simp only at hc hd
    subst hc hd
    exact wpAny_binaryOp_repeat_ref (T := "tuple") (U := "int") (by decide) ⟨_, ho, rfl⟩ (fun s' => typeIs_int s' 1 t) noFill_tuple_mul F.fills_int_mul F.slot_int_rmul repeat_tuple F.slot_int_index.lookup
      (call_meets F.slot_int_rmul (typeIs_int s 1 t) F.entry_int_rmul (F.args_int_rmul_2 _ _) (int_rmul_tuple 1 t l its.toArray n dd sl)
        ⟨ho, rfl, ⟨_, ho, rfl⟩, call_meets F.slot_tuple_mul ⟨_, ho, rfl⟩ F.entry_tuple_mul (F.args_tuple_mul_2 _ _) (tuple_mul1 l its.toArray n sl dd t) ⟨ho, .ref l, H, I, rfl, q1 rfl⟩⟩)
  · exact op_repT pins s σ H _ _ v u Q I rx ry ⟨l, k, xs, rfl, rfl, hT, hne, by omega, h2, hz, q2 (by omega)⟩
/-- t += u -/
theorem iop_cat : PIp X .Add (rCatA X.K) := by
  intro pins s σ H x y v u Q I rx ry h
  obtain ⟨a, b, xs, ys, rfl, rfl, ha, hb, hz, q0, q1, q2⟩ := h
  cases rx
  cases ry
  obtain ⟨its, r1, p1, _⟩ := I.tuple ha
  obtain ⟨its2, r2, p2, _⟩ := I.tuple hb
  obtain ⟨⟨cls, dd, data, sl⟩, ho, hc, n, hd⟩ := id p1
  obtain ⟨⟨cls2, dd2, data2, sl2⟩, ho2, hc2, n2, hd2⟩ := id p2
  simp only at hc hd hc2 hd2
  subst hc hd hc2 hd2
  refine wpAny_inplaceOp_concat ⟨_, ho, rfl⟩ ⟨_, ho2, rfl⟩ noI_tuple_add noFill_tuple_add seq_tuple_add ?_
  by_cases hx : its = []
  · subst hx
    cases r1
    exact call_meets PySem.F.slot_tuple_add ⟨_, ho, rfl⟩ PySem.F.entry_tuple_add (PySem.F.args_tuple_add_2 _ _)
      (tuple_addW0 a b ([] : List Value).toArray its2.toArray n n2 dd dd2 sl sl2 (by simp)) ⟨ho, ho2, ⟨.ref b, H, I, rfl, q0 rfl⟩⟩
  · have hx' : xs ≠ [] := fun z => hx (r1.nil_iff.mpr z)
    by_cases hy : its2 = []
    · exact call_meets PySem.F.slot_tuple_add ⟨_, ho, rfl⟩ PySem.F.entry_tuple_add (PySem.F.args_tuple_add_2 _ _)
        (tuple_addW1 a b its.toArray its2.toArray n n2 dd dd2 sl sl2 (by simpa using hx) (by simp [hy])) ⟨ho, ho2, ⟨.ref a, H, I, rfl, q1 hx' (r2.nil_iff.mp hy)⟩⟩
    · refine call_meets PySem.F.slot_tuple_add ⟨_, ho, rfl⟩ PySem.F.entry_tuple_add (PySem.F.args_tuple_add_2 _ _)
        (tuple_addW2 a b its.toArray its2.toArray n n2 dd dd2 sl sl2 (by simpa using hx) (by simpa using hy) (by rw [List.size_toArray, List.size_toArray, ← r1.length, ← r2.length]; exact hz)) ⟨ho, ho2, ?_⟩
      have e : its.toArray ++ its2.toArray = (its ++ its2).toArray := by simp
      rw [e]
      refine ⟨.ref s.heap.objs.size, _, I.laid (t' := s.toks) (o := .tup (xs ++ ys)) (fun b ob q => Heap.get?_push_of_some _ q) (Nat.le_refl _) ?_, rfl, q2 hx' (fun w => hy (r2.nil_iff.mpr w)) _ (I.hok.fresh (Nat.le_refl _))⟩
      exact ⟨by rw [List.length_append]; exact hz, _, r1.append r2, IsTup.new _ _⟩
end
end GX

set_option maxHeartbeats 8000000
/-! TxH: set(t) of a tuple of texts, set(xs) of a list of ints, and sorted of them. -/
namespace GX
open PySem PySem.Spec PyProof.Rows L2
section
variable {P : Program} {w : World} {h h' : Heap} {a : Addr}
abbrev sK (P : Program) (w : World) : PySem.KeyKind P w Str := PySem.strKind P w
/-- a set of texts at a: S its members, at most n -/
def SetX (P : Program) (w : World) (h : Heap) (a : Addr) (S : Str → Bool) (n : Nat) : Prop :=
  ∃ o es ep t, h.get? a = some o ∧ o.ExactSet ∧ o.data = .set es ep t ∧ ElemsOf (sK P w) es.toList ∧ (∀ k, S k = true ↔ ∃ e ∈ es.toList, (sK P w).is k e.2 = true) ∧
    es.size ≤ n ∧ n < scanBound ∧ t.fits es.size = true ∧ Ris t.place.toList ∧ (w.params.followText "set-order" = true ∨ t.led = true)
theorem SetX.at {S : Str → Bool} {n : Nat} (R : SetX P w h a S n) (k : ∀ o, h.get? a = some o → h'.get? a = some o) : SetX P w h' a S n := by
  obtain ⟨o, es, ep, t, ho, r⟩ := R
  exact ⟨o, es, ep, t, k o ho, r⟩
theorem SetX.congr {S S' : Str → Bool} {n : Nat} (R : SetX P w h a S n) (e : ∀ k, S' k = S k) : SetX P w h a S' n := by
  have q : S' = S := funext e
  rw [q]; exact R
theorem SetX.more {S : Str → Bool} {n m : Nat} (R : SetX P w h a S n) (hn : n ≤ m) (hm : m < scanBound) : SetX P w h a S m := by
  obtain ⟨o, es, ep, t, h1, h2, h3, h4, h5, h6, h7, h8⟩ := R
  exact ⟨o, es, ep, t, h1, h2, h3, h4, h5, Nat.le_trans h6 hn, hm, h8⟩
end
section
variable {P : Program} {w : World} {A : Around} {E : Value → Shared → Prop} {s : Shared} {a : Addr} {S : Str → Bool} {n : Nat}
theorem setX_tail {g : Bool → Sem Unit} (hg : ∀ (b : Bool) (s₁ : Shared) (Q' : Unit → Shared → Prop), Q' () s₁ → wpAny (model P w) A (g b) Q' E s₁)
    {o : Obj} {es : Array (Int × Value)} {ep : Nat} {t : SetTable} (ho : s.heap.get? a = some o) (hex : o.ExactSet) (hd : o.data = .set es ep t)
    {es1 : Array (Int × Value)} {t2 : SetTable} {S' : Str → Bool} {m : Nat} (g1 : ElemsOf (sK P w) es1.toList) (m1 : ∀ k, S' k = true ↔ ∃ e ∈ es1.toList, (sK P w).is k e.2 = true)
    (hz1 : es1.size ≤ m) (hm : m < scanBound) (hf2 : t2.fits es1.size = true) (hr : Ris t2.place.toList) (hl : w.params.followText "set-order" = true ∨ t2.led = true) {wasDummy : Bool} {R : Option Bool → Shared → Prop}
    (hR : ∀ h', Heap.SameBut a s.heap h' → SetX P w h' a S' m → R (some true) { s with heap := h' }) :
    wpAny (model P w) A (do
        storeSet a es1 t2
        if (!wasDummy && t2.tooFull) = true then do
            g (relayAll t2 es1 (SetTable.grown es1.size)).2.2
            storeSet a (relayAll t2 es1 (SetTable.grown es1.size)).1 (relayAll t2 es1 (SetTable.grown es1.size)).2.1
            pure (some true)
          else pure (some true)) R E s := by
  have hb1 : es1.size < scanBound := Nat.lt_of_le_of_lt hz1 hm
  refine wpAny_bind (wpAny_storeSet_of ho hd ?_ (fits_of_scanBound hb1))
  have ho1 := store_at (es' := es1) (t' := t2) ho hd
  have sb1 := Heap.SameBut.update s.heap a (Obj.putSet es1 t2)
  split
  · have pm := relayAll_perm t2 es1 (SetTable.grown es1.size)
    have hf3 := relayAll_fits t2 es1 (SetTable.grown es1.size)
    have hr3 := relayAll_ris t2 es1 (SetTable.grown es1.size)
    have hl3 := relayAll_led t2 es1 (SetTable.grown es1.size)
    generalize relayAll t2 es1 (SetTable.grown es1.size) = Z at pm hf3 hr3 hl3 ⊢
    obtain ⟨es2, t3, gave⟩ := Z
    dsimp only at pm hf3 hr3 hl3 ⊢
    have hsz : es2.size = es1.size := by rw [← Array.length_toList, pm.length_eq, Array.length_toList]
    have hb2 : es2.size < scanBound := by rw [hsz]; exact hb1
    refine wpAny_bind (hg _ _ _ ?_)
    refine wpAny_bind (wpAny_storeSet_of ho1 rfl ?_ (fits_of_scanBound hb2))
    have ho2 := store_at (es' := es2) (t' := t3) ho1 rfl
    refine wpAny_pure (hR _ (sb1.trans (Heap.SameBut.update _ a _)) ?_)
    exact ⟨_, es2, _, t3, ho2, hex, rfl, fun e he => g1 e (pm.mem_iff.mp he), fun k => (m1 k).trans ⟨fun ⟨e, he, q⟩ => ⟨e, pm.mem_iff.mpr he, q⟩, fun ⟨e, he, q⟩ => ⟨e, pm.mem_iff.mp he, q⟩⟩, by rw [hsz]; exact hz1, hm, hf3, hr3,
      hl.imp id fun z => by rw [hl3]; exact z⟩
  · exact wpAny_pure (hR _ sb1 ⟨_, es1, _, t2, ho1, hex, rfl, g1, m1, hz1, hm, hf2, hr, hl⟩)
theorem setX_add {k : Str} {tk : Tok} {Q : Bool → Shared → Prop} (R : SetX P w s.heap a S n) (room : n + 1 < scanBound)
    (hQ : ∀ b h', Heap.SameBut a s.heap h' → SetX P w h' a (fun j => S j || decide (j = k)) (n + 1) → Q b { s with heap := h' }) :
    wpAny (model P w) A (setAddHashed a (.str k tk) ((sK P w).hash k)) Q E s := by
  obtain ⟨o, es, ep, t, ho, hex, hd, hel, hm, hn, hb', hf, hr, hl⟩ := R
  have hb : es.size < scanBound := Nat.lt_of_le_of_lt hn hb'
  have hkey : (sK P w).is k (.str k tk) = true := strKind_is P w k tk
  have hsc : (Value.str k tk).scannable = true := rfl
  unfold setAddHashed setAddHashedIn
  refine wpAny_holding (wpAny_bind (wpAny_setState_of ho hd hf ?_))
  dsimp only
  rw [byScan_of hsc hb hel]
  simp only [↓reduceIte]
  unfold setAddByScan
  refine wpAny_bind ?_
  refine wpAny_bind (wpAny_rule ?_)
  refine wpAny_bind (wpAny_setScan_of hkey ho hd hf hel ?_)
  cases hfi : List.findIdx? (fun e => (sK P w).is k e.2) es.toList with
  | some j =>
    dsimp only
    obtain ⟨hj, pj, _⟩ := List.findIdx?_eq_some_iff_getElem.mp hfi
    have hSk : S k = true := (hm k).2 ⟨es.toList[j], List.getElem_mem hj, pj⟩
    refine wpAny_pure (wpAny_pure ?_)
    exact hQ _ s.heap (Heap.SameBut.refl a s.heap) ⟨o, es, ep, t, ho, hex, hd, hel, fun i => by
      rw [Bool.or_eq_true, decide_eq_true_eq, ← hm i]
      exact ⟨fun z => z.elim id (fun e => e ▸ hSk), .inl⟩, by omega, room, hf, hr, hl⟩
  | none =>
    dsimp only
    have hgw : ∀ (b : Bool) {s₁ : Shared} {Q' : Unit → Shared → Prop}, Q' () s₁ → wpAny (model P w) A (match b with | true => rule "set.scan.the-table-gave-way" | false => pure ()) Q' E s₁ :=
      fun b s₁ Q' q => by cases b <;> first | exact wpAny_pure q | exact wpAny_rule q
    have pm := layNew_perm t es ((sK P w).hash k) (.str k tk)
    have hf1 := layNew_fits t es ((sK P w).hash k) (.str k tk)
    have hr1 := layNew_ris t es ((sK P w).hash k) (.str k tk) hr
    have hl1 := layNew_led t es ((sK P w).hash k) (.str k tk)
    generalize layNew t es ((sK P w).hash k) (.str k tk) = Z at pm hf1 hr1 hl1 ⊢
    obtain ⟨es1, t1, wasDummy, gave⟩ := Z
    dsimp only at pm hf1 hr1 hl1 ⊢
    rw [Array.toList_push] at pm
    have pc : es1.toList.Perm (((sK P w).hash k, Value.str k tk) :: es.toList) := pm.trans (List.perm_append_singleton _ _)
    have g1 : ElemsOf (sK P w) es1.toList := fun e he => by
      rcases List.mem_cons.mp (pc.mem_iff.mp he) with z | z
      · rw [z]; exact ⟨⟨k, hkey, rfl⟩, rfl⟩
      · exact hel e z
    have m1 : ∀ i, (S i || decide (i = k)) = true ↔ ∃ e ∈ es1.toList, (sK P w).is i e.2 = true := fun i => by
      rw [Bool.or_eq_true, decide_eq_true_eq, hm i]
      constructor
      · rintro (⟨e, he, q⟩ | rfl)
        · exact ⟨e, pc.mem_iff.mpr (List.mem_cons_of_mem _ he), q⟩
        · exact ⟨_, pc.mem_iff.mpr List.mem_cons_self, hkey⟩
      · rintro ⟨e, he, q⟩
        rcases List.mem_cons.mp (pc.mem_iff.mp he) with z | z
        · rw [z] at q
          exact .inr ((sK P w).inj _ _ _ q hkey)
        · exact .inl ⟨e, z, q⟩
    have hsz : es1.size = es.size + 1 := by rw [← Array.length_toList, pc.length_eq, List.length_cons, Array.length_toList]
    have hz1 : es1.size ≤ n + 1 := by omega
    have hled : w.params.followText "set-order" = true ∨ t1.led = true := hl.imp id fun z => by rw [hl1]; exact z
    have fin : ∀ h', Heap.SameBut a s.heap h' → SetX P w h' a (fun j => S j || decide (j = k)) (n + 1) → Q true { s with heap := h' } := fun h' sb r => hQ _ h' sb r
    refine wpAny_bind (hgw _ ?_)
    split
    · refine wpAny_bind ?_
      rw [hashByValue_scannable 8 hsc]
      refine wpAny_pure ?_
      refine setX_tail ?_ ho hex hd g1 m1 hz1 room ?_ ?_ ?_ ?_
      · intro b s₁ Q' q; cases b <;> first | exact wpAny_pure q | exact wpAny_rule q
      · first | (split <;> first | exact hf1 | exact SetTable.fits_plain_off hf1) | exact hf1
      · first | (split <;> exact hr1) | exact hr1
      · first | (split <;> exact hled) | exact hled
      · intro h' sb r; dsimp only; exact wpAny_pure (fin h' sb r)
    · refine wpAny_bind (wpAny_pure ?_)
      simp only [↓reduceIte]
      refine setX_tail ?_ ho hex hd g1 m1 hz1 room hf1 hr1 hled ?_
      · intro b s₁ Q' q; cases b <;> first | exact wpAny_pure q | exact wpAny_rule q
      · intro h' sb r; dsimp only; exact wpAny_pure (fin h' sb r)
theorem setX_new {h : Heap} {a : Addr} {ns : List Str} (ho : h.get? a = some { cls := .type "set", dict := none, data := .set #[] 0 (.fresh 0 0 (!w.params.followText "set-order")) }) : SetX P w h a (fun j => decide (j ∈ ns.take 0)) 0 :=
  ⟨_, #[], 0, _, ho, ⟨rfl, rfl, rfl⟩, rfl, (fun e he => by simp at he), (fun k => by simp), (by show 0 ≤ 0; omega), (by decide), (by rfl), List.Pairwise.nil, by
    show _ ∨ (!w.params.followText "set-order") = true
    cases w.params.followText "set-order"
    · exact .inr rfl
    · exact .inl rfl⟩
/-- a new set -/
abbrev nOb (w : World) : Obj := { cls := .type "set", dict := none, data := .set #[] 0 (.fresh 0 0 (!w.params.followText "set-order")) }
/-- the loop that fills the set from an iterator -/
theorem setX_update {I : Addr} {fp wr : List Addr} {G : Array GenState → Array GenState → Prop} {n : Nat} {Pv : Nat → Value → Prop} {St : Nat → Shared → Prop} {R : Result → Shared → Prop}
    (W : WalksS P w A.in1 I fp wr G n Pv St) (S : Addr) (hSf : S ∉ fp) (ns : List Str) (hn : n = ns.length) (hb : ns.length + 1 < scanBound) (hval : ∀ i v, Pv i v → ∃ k t, ns[i]? = some k ∧ v = .str k t) :
    ∀ (k i : Nat) (s : Shared), n - i = k → i ≤ n → St i s → (∃ c, c ≤ i ∧ SetX P w s.heap S (fun j => decide (j ∈ ns.take i)) c) →
      (∀ s' c, Moved (S :: wr) G s s' → c ≤ n → SetX P w s'.heap S (fun j => decide (j ∈ ns)) c → R (.ok (.ret .none)) s') →
      codeAny (model P w) A (.builtin "set.update.loop" ⟨[.ref S, .ref I], []⟩) R s := by
  have hSw : S ∉ wr := fun h => hSf (W.sub _ h)
  have hsub : ∀ b ∈ wr, b ∈ S :: wr := fun b hb => List.mem_cons_of_mem _ hb
  intro k
  induction k with
  | zero =>
    intro i s hk' hi hst ⟨c, hc, hS⟩ hR
    have hin : i = n := by omega
    subst hin
    refine codeAny_builtin F.entry_set_update_loop ?_
    rw [Around.under_plainId F.plain_set_update_loop _]
    show wpAny _ A.in1 (pyNext (.ref I) >>= _) _ _ s
    refine wpAny_bind (W.done s _ _ hst fun s' hm => ?_)
    show wpAny _ A.in1 (ret Value.none) _ _ s'
    have e : ns.take i = ns := List.take_of_length_le (by omega)
    rw [e] at hS
    exact wpAny_pure (hR s' c (hm.mono hsub) hc (hS.at fun o e => hm.heap S o hSw e))
  | succ k ih =>
    intro i s hk' hi hst ⟨c, hc, hS⟩ hR
    have hlt : i < n := by omega
    refine codeAny_builtin F.entry_set_update_loop ?_
    rw [Around.under_plainId F.plain_set_update_loop _]
    show wpAny _ A.in1 (pyNext (.ref I) >>= _) _ _ s
    refine wpAny_bind (W.item i s _ _ hlt hst fun v s' hP hst' hm => ?_)
    obtain ⟨z, t, hz, rfl⟩ := hval i v hP
    have hS' : SetX P w s'.heap S (fun j => decide (j ∈ ns.take i)) c := hS.at fun o e => hm.heap S o hSw e
    show wpAny _ A.in1 (holding [Value.str z t] (setAdd S (.str z t)) >>= _) _ _ s'
    refine wpAny_bind (wpAny_holding ?_)
    unfold setAdd
    refine wpAny_holding ?_
    refine wpAny_bind ((sK P w).pyHash (k := z) (strKind_is _ _ _ _) ?_)
    refine setX_add (s := { s' with toks := s'.toks + 1 }) hS' (by omega) fun b h' hsb hS2 => ?_
    have hS3 : SetX P w h' S (fun j => decide (j ∈ ns.take (i + 1))) (c + 1) := hS2.congr fun j => by
      rw [List.take_add_one, hz]
      simp [List.mem_append]
    refine wpAny_pure ⟨plainId_quiet F.plain_set_update_loop _, ih (i + 1) _ (by omega) hlt (W.frame _ s' _ _ hst' (Nat.le_succ _) fun b hb o e => ?_) ⟨_, by omega, hS3⟩ fun s'' c2 hm'' hc'' hS'' => ?_⟩
    · rw [hsb.2 b (fun h : b = S => hSf (by rw [← h]; exact hb))]; exact e
    · refine hR s'' c2 (Moved.trans W.gtrans ((hm.mono hsub).then_heap (Nat.le_succ _) fun b o hb e => ?_) hm'') hc'' hS''
      rw [hsb.2 b (fun h : b = S => hb (by rw [h]; exact List.mem_cons_self))]; exact e

set_option maxHeartbeats 8000000 in
theorem call_set_listN {l : Addr} {items : Array Value} (ns : List Int) {Q : Value → Shared → Prop} (hh : A.handled = none) (hl : s.heap.IsList l items) (hit : IntsAre items.toList ns) (hb : ns.length + 1 < scanBound)
    (h : ∀ (h' : Heap) (tk c : Nat), SetR w h' s.heap.objs.size (fun j => decide (j ∈ ns)) c → c ≤ ns.length → (∀ b o, s.heap.get? b = some o → h'.get? b = some o) → Q (.ref s.heap.objs.size) { s with heap := h', toks := tk }) :
    wpAny (model P w) A (call (.type "set") [.ref l]) Q E s := by
  have hisz : items.size = ns.length := by
    have q := IntsAre.length hit
    rw [Array.length_toList] at q
    exact q
  -- the class is called: what its tables tell
  have tab := PySem.F.called_set.mro
  obtain ⟨c, tl, hmro⟩ := tab
  have made := PySem.F.called_set.made
  have sub0 := PySem.F.called_set.sub
  have nT := PySem.F.called_set.notType
  have cC := PySem.F.called_set.canCreate
  have tC := PySem.F.typeCall_set_1 (.ref l)
  refine wpAny_call (codeAny_of_tree ?_)
  show wpAny _ _ (callAny (.type "set") _) _ _ _
  refine wpAny_pure ⟨Code.quiet_builtin _ (by decide +kernel), codeAny_builtin PySem.F.entry_type_call ?_⟩
  rw [Around.under_plain (weight_type_call_type "set" [.ref l] []) rfl]
  repeat (any_goals (first | assumption | wp_step))

  refine codeAny_mono (code_set_led1 (.ref l) (E := E) (Q₁ := fun v s₁ => v = .ref s.heap.objs.size ∧ s₁ = { s with heap := s.heap.push (nOb w) }) ⟨rfl, rfl⟩) fun r s₁ hr => ?_
  cases r with
  | error e => exact hr
  | ok fl =>
    cases fl with
    | ret v =>
      obtain ⟨rfl, rfl⟩ := hr
      have hS : (s.heap.push (nOb w)).get? s.heap.objs.size = some (nOb w) := Heap.get?_push_size _ rfl
      have hT : Shared.TypeIs { s with heap := s.heap.push (nOb w) } (.ref s.heap.objs.size) "set" := ⟨_, hS, rfl⟩
      have hli := PySem.F.called_set.init.lookup
      have hbi := PySem.F.called_set.init.bind (.ref s.heap.objs.size)
      repeat (any_goals (first | assumption | wp_step))

      refine codeAny_mono (codeAny_call_builtin (R := wants (fun r s₂ => r = .none ∧ ∃ h' tk c, s₂ = { s with heap := h', toks := tk } ∧ SetR w h' s.heap.objs.size (fun j => decide (j ∈ ns)) c ∧ c ≤ ns.length ∧
          (∀ b o, s.heap.get? b = some o → h'.get? b = some o)) E) PySem.F.called_set.init.plain PySem.F.entry_set_init (check_set_init_1 hT ?_)) fun r₂ s₂ hr₂ => ?_
      · obtain ⟨⟨ocls, odict, odata, oslots⟩, hol, hcl, nl, hdl⟩ := hl
        simp only at hcl hdl
        subst hcl; subst hdl
        have hol' : (s.heap.push (nOb w)).get? l = some { cls := .type "list", dict := odict, data := .seq items nl, slots := oslots } := Heap.get?_push_of_some _ hol
        have sub1 := PySem.F.sub_list_set
        have sub2 := PySem.F.sub_list_frozenset
        have hne : (Value.type "list" == Value.type "dict") = false := by decide
        have hl1 : (s.heap.push (nOb w)).IsList l items := ⟨_, hol', rfl, nl, rfl⟩
        unfold Builtin.«set.__init__» noKeywords Builtin.Frozenset.updateFrom
        generalize hPI : pyIter = PI
        wp_walk
        subst hPI

        refine wpAny_pyIter_list (s := { s with heap := s.heap.push (nOb w) }) hl1 ?_
        refine wpAny_bind (wpAny_runValue ?_)
        have hlS : l < s.heap.objs.size := Heap.lt_size hol
        have hh3 : A.in1.in1.in1.handled = none := by simp [hh]
        have hz1 : (s.heap.push (nOb w)).objs.size = s.heap.objs.size + 1 := Heap.size_push ..
        have hneI : l ≠ (s.heap.push (nOb w)).objs.size := by
          rw [hz1]; exact Nat.ne_of_lt (Nat.lt_succ_of_lt hlS)
        have hSf : s.heap.objs.size ∉ [(s.heap.push (nOb w)).objs.size, l] := by
          rw [hz1]; simp only [List.mem_cons, List.mem_singleton, List.not_mem_nil, or_false, not_or]
          exact ⟨Nat.ne_of_lt (Nat.lt_succ_self _), Nat.ne_of_gt hlS⟩
        have hval : ∀ (i : Nat) (v : Value), items[i]? = some v → ∃ k t, ns[i]? = some k ∧ v = .int k t := fun i v hv => by
          have hi : i < ns.length := by rw [← hisz]; exact (Array.getElem?_eq_some_iff.mp hv).1
          obtain ⟨t, e⟩ := PyProof.Rows.IntsAre.int_at hit i v (by rw [Array.getElem?_toList]; exact hv)
          refine ⟨ns[i], t, List.getElem?_eq_getElem hi, ?_⟩
          rw [e, List.getD_eq_getElem?_getD, List.getElem?_eq_getElem hi] <;> rfl
        refine set_update_ints ((Walks.list hh3 _ l hneI items).toS) s.heap.objs.size
          hSf ns hisz hb hval (items.size - 0) 0 _ (by omega) (Nat.zero_le _)
          ⟨⟨_, Heap.get?_push_size _ rfl, rfl, rfl⟩, (hl1.push _)⟩ ?hS0 ?hR
        case hS0 =>
          exact ⟨0, Nat.le_refl 0, setR_new_at (Heap.get?_push_of_some _ hS)⟩
        case hR =>
          intro s' c' hm hc' hS'
          obtain ⟨h', g2, d', tk', os'⟩ := s'
          have eg : g2 = s.gens := hm.gens
          have ed : d' = s.drawn := hm.drawn
          have eo : os' = s.os := hm.os
          subst eg; subst ed; subst eo
          show wpAny _ _ _ _ _ _
          refine wpAny_pure ?_
          show wpAny _ _ (ret Value.none) _ _ _
          rw [hisz] at hc'
          refine wpAny_pure ⟨rfl, h', tk', c', rfl, hS', hc', fun b o e => ?_⟩
          have hb0 : b < s.heap.objs.size := Heap.lt_size e
          have hb1 : b ≠ s.heap.objs.size := Nat.ne_of_lt hb0
          have hb2 : b ≠ (s.heap.push (nOb w)).objs.size := by
            rw [hz1]; exact Nat.ne_of_lt (Nat.lt_succ_of_lt hb0)
          exact hm.heap b o (by simp only [List.mem_cons, List.mem_singleton, List.not_mem_nil, or_false, not_or]; exact ⟨hb1, hb2⟩) (Heap.get?_push_of_some _ (Heap.get?_push_of_some _ e))

      · cases r₂ with
        | error e => exact hr₂
        | ok fl₂ =>
          cases fl₂ with
          | ret r =>
            obtain ⟨rfl, h', tk, c', rfl, hS', hc', hk'⟩ := hr₂
            repeat (any_goals (first | assumption | wp_step))
            exact h _ _ _ hS' hc' hk'
          | _ => exact hr₂.elim
    | _ => exact hr.elim

set_option maxHeartbeats 8000000 in
theorem call_set_tupX {l : Addr} {items : Array Value} (ns : List Str) {Q : Value → Shared → Prop} (hh : A.handled = none) (hl : s.heap.IsTuple l items) (hit : PyProof.Rows.StrsAre items.toList ns) (hb : ns.length + 1 < scanBound)
    (h : ∀ (h' : Heap) (tk c : Nat), SetX P w h' s.heap.objs.size (fun j => decide (j ∈ ns)) c → c ≤ ns.length → (∀ b o, s.heap.get? b = some o → h'.get? b = some o) → Q (.ref s.heap.objs.size) { s with heap := h', toks := tk }) :
    wpAny (model P w) A (call (.type "set") [.ref l]) Q E s := by
  have hisz : items.size = ns.length := by
    have q := PyProof.Rows.StrsAre.len_eq hit
    rw [Array.length_toList] at q
    exact q
  -- the class is called: what its tables tell
  have tab := PySem.F.called_set.mro
  obtain ⟨c, tl, hmro⟩ := tab
  have made := PySem.F.called_set.made
  have sub0 := PySem.F.called_set.sub
  have nT := PySem.F.called_set.notType
  have cC := PySem.F.called_set.canCreate
  have tC := PySem.F.typeCall_set_1 (.ref l)
  refine wpAny_call (codeAny_of_tree ?_)
  show wpAny _ _ (callAny (.type "set") _) _ _ _
  refine wpAny_pure ⟨Code.quiet_builtin _ (by decide +kernel), codeAny_builtin PySem.F.entry_type_call ?_⟩
  rw [Around.under_plain (weight_type_call_type "set" [.ref l] []) rfl]
  repeat (any_goals (first | assumption | wp_step))

  refine codeAny_mono (code_set_led1 (.ref l) (E := E) (Q₁ := fun v s₁ => v = .ref s.heap.objs.size ∧ s₁ = { s with heap := s.heap.push (nOb w) }) ⟨rfl, rfl⟩) fun r s₁ hr => ?_
  cases r with
  | error e => exact hr
  | ok fl =>
    cases fl with
    | ret v =>
      obtain ⟨rfl, rfl⟩ := hr
      have hS : (s.heap.push (nOb w)).get? s.heap.objs.size = some (nOb w) := Heap.get?_push_size _ rfl
      have hT : Shared.TypeIs { s with heap := s.heap.push (nOb w) } (.ref s.heap.objs.size) "set" := ⟨_, hS, rfl⟩
      have hli := PySem.F.called_set.init.lookup
      have hbi := PySem.F.called_set.init.bind (.ref s.heap.objs.size)
      repeat (any_goals (first | assumption | wp_step))

      refine codeAny_mono (codeAny_call_builtin (R := wants (fun r s₂ => r = .none ∧ ∃ h' tk c, s₂ = { s with heap := h', toks := tk } ∧ SetX P w h' s.heap.objs.size (fun j => decide (j ∈ ns)) c ∧ c ≤ ns.length ∧
          (∀ b o, s.heap.get? b = some o → h'.get? b = some o)) E) PySem.F.called_set.init.plain PySem.F.entry_set_init (check_set_init_1 hT ?_)) fun r₂ s₂ hr₂ => ?_
      · obtain ⟨⟨ocls, odict, odata, oslots⟩, hol, hcl, nl, hdl⟩ := hl
        simp only at hcl hdl
        subst hcl; subst hdl
        have hol' : (s.heap.push (nOb w)).get? l = some { cls := .type "tuple", dict := odict, data := .seq items nl, slots := oslots } := Heap.get?_push_of_some _ hol
        have sub1 := PySem.F.sub_tuple_set
        have sub2 := PySem.F.sub_tuple_frozenset
        have hne : (Value.type "tuple" == Value.type "dict") = false := by decide
        have hl1 : (s.heap.push (nOb w)).IsTuple l items := ⟨_, hol', rfl, nl, rfl⟩
        unfold Builtin.«set.__init__» noKeywords Builtin.Frozenset.updateFrom
        generalize hPI : pyIter = PI
        wp_walk
        subst hPI

        refine wpAny_pyIter_tuple (s := { s with heap := s.heap.push (nOb w) }) hl1 ?_
        refine wpAny_bind (wpAny_runValue ?_)
        have hlS : l < s.heap.objs.size := Heap.lt_size hol
        have hh3 : A.in1.in1.in1.handled = none := by simp [hh]
        have hz1 : (s.heap.push (nOb w)).objs.size = s.heap.objs.size + 1 := Heap.size_push ..
        have hneI : l ≠ (s.heap.push (nOb w)).objs.size := by
          rw [hz1]; exact Nat.ne_of_lt (Nat.lt_succ_of_lt hlS)
        have hSf : s.heap.objs.size ∉ [(s.heap.push (nOb w)).objs.size, l] := by
          rw [hz1]; simp only [List.mem_cons, List.mem_singleton, List.not_mem_nil, or_false, not_or]
          exact ⟨Nat.ne_of_lt (Nat.lt_succ_self _), Nat.ne_of_gt hlS⟩
        have hval : ∀ (i : Nat) (v : Value), items[i]? = some v → ∃ k t, ns[i]? = some k ∧ v = .str k t := fun i v hv => by
          have hi : i < ns.length := by rw [← hisz]; exact (Array.getElem?_eq_some_iff.mp hv).1
          obtain ⟨t, e⟩ := SS.strs_at hit i v (by rw [Array.getElem?_toList]; exact hv)
          refine ⟨ns[i], t, List.getElem?_eq_getElem hi, ?_⟩
          rw [e, List.getD_eq_getElem?_getD, List.getElem?_eq_getElem hi] <;> rfl
        refine setX_update ((Walks.tuple hh3 _ l hneI items).toS) s.heap.objs.size
          hSf ns hisz hb hval (items.size - 0) 0 _ (by omega) (Nat.zero_le _)
          ⟨⟨_, Heap.get?_push_size _ rfl, rfl, rfl⟩, (hl1.push _)⟩ ?hS0 ?hR
        case hS0 =>
          exact ⟨0, Nat.le_refl 0, setX_new (Heap.get?_push_of_some _ hS)⟩
        case hR =>
          intro s' c' hm hc' hS'
          obtain ⟨h', g2, d', tk', os'⟩ := s'
          have eg : g2 = s.gens := hm.gens
          have ed : d' = s.drawn := hm.drawn
          have eo : os' = s.os := hm.os
          subst eg; subst ed; subst eo
          show wpAny _ _ _ _ _ _
          refine wpAny_pure ?_
          show wpAny _ _ (ret Value.none) _ _ _
          rw [hisz] at hc'
          refine wpAny_pure ⟨rfl, h', tk', c', rfl, hS', hc', fun b o e => ?_⟩
          have hb0 : b < s.heap.objs.size := Heap.lt_size e
          have hb1 : b ≠ s.heap.objs.size := Nat.ne_of_lt hb0
          have hb2 : b ≠ (s.heap.push (nOb w)).objs.size := by
            rw [hz1]; exact Nat.ne_of_lt (Nat.lt_succ_of_lt hb0)
          exact hm.heap b o (by simp only [List.mem_cons, List.mem_singleton, List.not_mem_nil, or_false, not_or]; exact ⟨hb1, hb2⟩) (Heap.get?_push_of_some _ (Heap.get?_push_of_some _ e))

      · cases r₂ with
        | error e => exact hr₂
        | ok fl₂ =>
          cases fl₂ with
          | ret r =>
            obtain ⟨rfl, h', tk, c', rfl, hS', hc', hk'⟩ := hr₂
            repeat (any_goals (first | assumption | wp_step))
            exact h _ _ _ hS' hc' hk'
          | _ => exact hr₂.elim
    | _ => exact hr.elim

/-- sorted(a set of texts) -/
theorem sorted_setX {S : Str → Bool} {n : Nat} {a : Addr} {Q : Value → Shared → Prop} (R : SetX P w s.heap a S n) (hh : A.handled = none) (h64 : n < 64)
    (hQ : ∀ s' p (out : Array Value) (c : Nat) (ys : List Str), (∀ b o, s.heap.get? b = some o → s'.heap.get? b = some o) → s'.gens = s.gens → s'.os = s.os → s.heap.objs.size ≤ p →
      s'.heap.get? p = some (seqObj "list" out c) → PyProof.Rows.StrsAre out.toList ys → (∀ k, k ∈ ys ↔ S k = true) → ys.length ≤ n → Q (.ref p) s') :
    wpAny (model P w) A (call (.builtin "sorted") [.ref a]) Q E s := by
  obtain ⟨o, es, ep, t, ho, hex, hd, g, hm, hn, hb', hf, hr, hl⟩ := R
  have hb : es.size < scanBound := Nat.lt_of_le_of_lt hn hb'
  refine Calls.call_function_entry kind_sorted plain_sorted entry_sorted (args_sorted1 _) ?_
  unfold Builtin.«sorted»
  refine wpAny_bind (m := checkCount "sorted" 1 1 _) (wpAny_pure ?_)
  refine wpAny_bind (collect_set (A := A.in1) hh ⟨o, ho, hex.1, hd⟩ hf hb hr hl fun s1 vs k1 hz g1 o1 pm => ?_)
  have hvl : vs.length ≤ n := by rw [pm.length_eq, List.length_map, Array.length_toList]; exact hn
  have key : ∀ (l : List Value), (∀ v ∈ l, ∃ k tk, v = Value.str k tk) → ∃ xs, PyProof.Rows.StrsAre l xs := fun l => by
    induction l with
    | nil => exact fun _ => ⟨[], .nil⟩
    | cons v l ih =>
      intro h
      obtain ⟨k, tk, e⟩ := h v List.mem_cons_self
      obtain ⟨xs, hx⟩ := ih fun u hu => h u (List.mem_cons_of_mem _ hu)
      subst e
      exact ⟨k :: xs, .cons k tk hx⟩
  have isK : ∀ {k : Str} {v : Value}, (sK P w).is k v = true → ∃ tk, v = .str k tk := fun {k v} h => Value.isStrOf_shape h
  obtain ⟨xs, hx⟩ := key vs fun v hv => by
    obtain ⟨e, he, q⟩ := List.mem_map.mp (pm.mem_iff.mp hv)
    obtain ⟨⟨k, h1, _⟩, _⟩ := g e he
    obtain ⟨tk, z⟩ := isK h1
    exact ⟨k, tk, by rw [← q]; exact z⟩
  have memV : ∀ {l : List Value} {ys : List Str}, PyProof.Rows.StrsAre l ys → ∀ k, k ∈ ys ↔ ∃ tk, Value.str k tk ∈ l := fun {l ys} h => by
    induction h with
    | nil => intro k; simp
    | cons y tk h ih =>
      intro k
      rw [List.mem_cons, ih k]
      constructor
      · rintro (rfl | ⟨t, ht⟩)
        · exact ⟨tk, List.mem_cons_self⟩
        · exact ⟨t, List.mem_cons_of_mem _ ht⟩
      · rintro ⟨t, ht⟩
        rcases List.mem_cons.mp ht with z | z
        · cases z; exact .inl rfl
        · exact .inr ⟨t, z⟩
  have hmx : ∀ k, k ∈ xs ↔ S k = true := fun k => by
    rw [memV hx k, hm k]
    constructor
    · rintro ⟨tk, ht⟩
      obtain ⟨e, he, q⟩ := List.mem_map.mp (pm.mem_iff.mp ht)
      exact ⟨e, he, by rw [q]; exact strKind_is P w k tk⟩
    · rintro ⟨e, he, q⟩
      obtain ⟨tk, z⟩ := isK q
      exact ⟨tk, pm.mem_iff.mpr (List.mem_map.mpr ⟨e, he, z⟩)⟩
  have hxl : xs.length = vs.length := (PyProof.Rows.StrsAre.len_eq hx).symm
  refine wpAny_bind (wpAny_newList ?_ (by rw [sizeLine_eq]; omega))
  have hoL : (s1.heap.push (seqObj "list" vs.toArray 0)).get? s1.heap.objs.size = some (seqObj "list" vs.toArray 0) := Heap.get?_push_size _ rfl
  refine wpAny_bind (wpAny_holding (wpAny_call_entry slot_list_sort ⟨_, hoL, rfl⟩ entry_list_sort (list_sort_treeK strKind_oneLt hoL hx.keysOf (fun v₁ v₂ rest e => keyKind_strs (by rw [← e]; exact hx)) (by omega) fun st' hp hs => ⟨_, rfl, ?_⟩) (args_list_sort _)))
  obtain ⟨ys, a1, a2, a3⟩ := sorted_out_str hx hp hs
  obtain ⟨c, hc⟩ := sortedHeap_at (vs := vs) (out := (arrOf st').map (·.2)) hoL
  refine wpAny_pure ⟨_, rfl, hQ _ s1.heap.objs.size _ c ys (fun b u e => ?_) g1 o1 hz hc a1 (fun k => by rw [a2.mem_iff, hmx k]) (by rw [a2.length_eq, hxl]; exact hvl)⟩
  have q := k1 b u e
  have hlt := Heap.lt_size q
  show (sortedHeap (s1.heap.push (seqObj "list" vs.toArray 0)) s1.heap.objs.size vs _).get? b = some u
  rw [sortedHeap_old (Nat.ne_of_lt hlt) (by rw [size_push']; exact Nat.lt_succ_of_lt hlt)]
  exact Heap.get?_push_of_some _ q
end
section
variable {X : Cx}
def SetXO (P : Program) (w : World) (a : Addr) (S : Str → Bool) (n : Nat) : HO := .ext fun h => SetX P w h a S n
theorem setXO_new {w : World} {P : Program} {H : Hp} {h : Heap} {a : Addr} {S : Str → Bool} {n : Nat} (R : SetX P w h a S n) : ObjOk P w H h a (SetXO P w a S n) := by
  have ⟨o, _, _, _, ho, _⟩ := R
  exact ⟨R, ⟨o, ho⟩, fun h1 h2 p k => SetX.at p k⟩
/-- set(t) of texts -/
def rSetX (K : PySem.W.Frag) (P : Program) (w : World) : List V → Hp → VK → Prop := fun vs H Q => ∃ (a : Addr) (ns : List Str), vs = [V.ref a] ∧ SqT K H a (ns.map V.str) ∧ ns.length < 60 ∧
  ∀ p S n, (∀ k, S k = true ↔ k ∈ ns) → n ≤ ns.length → H p = none → Q (.ref p) (upd H p (SetXO P w p S n))
theorem cr_setX (hc : X.calm = true) : CallR X (.type "set") (rSetX X.K X.prog X.w) := by
  intro pins s σ H vs us Q I r h
  obtain ⟨a, ns, rfl, hs, hl, q⟩ := h
  rw [Vals.ref1 r]
  obtain ⟨its, rv, ht, _⟩ := I.tuple hs
  refine call_set_tupX (P := X.prog) (w := X.w) ns (I.ok.hd hc) (l := a) (items := its.toArray) ht (by simpa using rv.strs) (by unfold scanBound; omega) fun h' tk c R hcn k => ?_
  exact ⟨.ref _, _, I.laid (t' := tk) k (Nat.le_refl _) (setXO_new R), rfl, q _ _ c (fun k => by simp) hcn (I.hok.fresh (Nat.le_refl _))⟩
/-- set(xs) of ints -/
def rSetN (K : PySem.W.Frag) (w : World) : List V → Hp → VK → Prop := fun vs H Q => ∃ (a : Addr) (ns : List Int), vs = [V.ref a] ∧ SqL K H a (ns.map V.int) ∧ ns.length < 60 ∧
  ∀ p S n, (∀ k, S k = true ↔ k ∈ ns) → n ≤ ns.length → H p = none → Q (.ref p) (upd H p (SetO w p S n))
theorem cr_setN (hc : X.calm = true) : CallR X (.type "set") (rSetN X.K X.w) := by
  intro pins s σ H vs us Q I r h
  obtain ⟨a, ns, rfl, hs, hl, q⟩ := h
  rw [Vals.ref1 r]
  obtain ⟨its, rv, ht, _⟩ := I.list hs
  refine call_set_listN (P := X.prog) (w := X.w) ns (I.ok.hd hc) (l := a) (items := its.toArray) ht.isList (by simpa using rv.ints) (by unfold scanBound; omega) fun h' tk c R hcn k => ?_
  exact ⟨.ref _, _, I.laid (t' := tk) k (Nat.le_refl _) (setO_new R), rfl, q _ _ c (fun k => by simp) hcn (I.hok.fresh (Nat.le_refl _))⟩
/-- sorted(a set of texts) -/
def rSortX (P : Program) (w : World) : List V → Hp → VK → Prop := fun vs H Q => ∃ (a : Addr) (S : Str → Bool) (n : Nat), vs = [V.ref a] ∧ H a = some (SetXO P w a S n) ∧ n < 64 ∧
  ∀ (ys : List Str) (p : Addr), (∀ k, k ∈ ys ↔ S k = true) → ys.length ≤ n → H p = none → Q (.ref p) (upd H p (.lst (ys.map V.str)))
theorem cr_sortX (hc : X.calm = true) : CallR X (.builtin "sorted") (rSortX X.prog X.w) := by
  intro pins s σ H vs us Q I r h
  obtain ⟨a, S, n, rfl, ha, h64, q⟩ := h
  have R : SetX X.prog X.w s.heap a S n := (I.hok a _ ha).1
  rw [Vals.ref1 r]
  refine sorted_setX R (I.ok.hd hc) h64 fun s' p out c ys k g o hp hg hi hm hl => ?_
  have hlen : (ys.map V.str).length ≤ sizeLine := by rw [List.length_map, sizeLine_eq]; omega
  have hn : H p = none := I.hok.fresh hp
  have J : Inv X pins σ (upd H p (.lst (ys.map V.str))) { s with heap := s'.heap, gens := s'.gens, drawn := s'.drawn, toks := s'.toks } :=
    I.call (ch := []) (Un.laid k hp hn) (I.hok.laid k hp ⟨hlen, out.toList, c, vals_of_strs hi, hg⟩) (by rw [g]; exact I.bare) (fun _ z => nomatch z)
  have e : s' = { s with heap := s'.heap, gens := s'.gens, drawn := s'.drawn, toks := s'.toks } := by
    cases s'
    cases s
    cases o
    rfl
  rw [e]
  exact ⟨.ref p, _, J, rfl, q ys p hm hl hn⟩
end
end GX

set_option maxHeartbeats 8000000
/-! TwA: heaps of which more is said (all that was there stays, but for the tables of code objects), and small rules said in these words. -/
namespace TW
open PySem PySem.Spec PyProof.Rows L2
def TbX (H H' : Hp) : Prop := ∀ b ps, H b = some (.tbl ps) → ∃ ps', H' b = some (.tbl ps') ∧ (TriplesOk ps.toList → TriplesOk ps'.toList)
/-- all that was tracked is as it was, but for tables, which stay tables -/
def Ext (H H' : Hp) : Prop := (∀ b o, H b = some o → (∀ ps, o ≠ .tbl ps) → H' b = some o) ∧ TbX H H'
/-- what never changes once it is there -/
def Im : HO → Prop
  | .tup _ => True
  | .dK _ => True
  | .frz _ (.tup _) => True
  | _ => False
def Kp (H H' : Hp) : Prop := (∀ b o, H b = some o → Im o → H' b = some o) ∧ TbX H H'
theorem Im.notbl {o : HO} (h : Im o) : ∀ ps, o ≠ .tbl ps := fun ps e => by rw [e] at h; exact h
theorem TbX.trans {H H1 H2 : Hp} (a : TbX H H1) (b : TbX H1 H2) : TbX H H2 := fun c ps h => by
  obtain ⟨p1, h1, t1⟩ := a c ps h
  obtain ⟨p2, h2, t2⟩ := b c p1 h1
  exact ⟨p2, h2, fun t => t2 (t1 t)⟩
theorem TbX.refl (H : Hp) : TbX H H := fun b ps h => ⟨ps, h, id⟩
theorem Ext.kp {H H' : Hp} (e : Ext H H') : Kp H H' := ⟨fun b o h i => e.1 b o h i.notbl, e.2⟩
theorem Ext.refl (H : Hp) : Ext H H := ⟨fun _ _ h _ => h, TbX.refl H⟩
theorem Kp.refl (H : Hp) : Kp H H := ⟨fun _ _ h _ => h, TbX.refl H⟩
theorem Ext.trans {H H1 H2 : Hp} (a : Ext H H1) (b : Ext H1 H2) : Ext H H2 := ⟨fun c o h n => b.1 c o (a.1 c o h n) n, a.2.trans b.2⟩
theorem Kp.trans {H H1 H2 : Hp} (a : Kp H H1) (b : Kp H1 H2) : Kp H H2 := ⟨fun c o h n => b.1 c o (a.1 c o h n) n, a.2.trans b.2⟩
theorem Ext.same {H H' : Hp} (e : Same H H') : Ext H H' := ⟨fun b o h _ => e b o h, fun b ps h => ⟨ps, e b _ h, id⟩⟩
/-- a store at a place that was free at first -/
theorem Ext.upd {H0 H : Hp} {p : Addr} {o : HO} (e : Ext H0 H) (n : H0 p = none) : Ext H0 (L2.upd H p o) := by
  have ne : ∀ {b u}, H0 b = some u → b ≠ p := fun {b u} h q => by rw [q, n] at h; cases h
  refine ⟨fun b u h k => ?_, fun b ps h => ?_⟩
  · rw [upd_ne (ne h)]; exact e.1 b u h k
  · rw [upd_ne (ne h)]; exact e.2 b ps h
theorem Ext.new {H : Hp} {p : Addr} {o : HO} (n : H p = none) : Ext H (L2.upd H p o) := (Ext.refl H).upd n
/-- a store at a thing that may change -/
theorem Kp.set {H : Hp} {p : Addr} {u o : HO} (h : H p = some u) (hi : ¬ Im u) (ht : ∀ ps, u ≠ .tbl ps) : Kp H (L2.upd H p o) := by
  refine ⟨fun b v hb i => ?_, fun b ps hb => ?_⟩
  · have : b ≠ p := fun q => by rw [q, h] at hb; cases hb; exact hi i
    rw [upd_ne this]; exact hb
  · have : b ≠ p := fun q => by rw [q, h] at hb; cases hb; exact ht _ rfl
    exact ⟨ps, by rw [upd_ne this]; exact hb, id⟩
/-- what was free in the later heap was free before -/
theorem Ext.free {H H' : Hp} (e : Ext H H') {p : Addr} (n : H' p = none) : H p = none := by
  cases q : H p with
  | none => rfl
  | some o =>
    by_cases t : ∃ ps, o = .tbl ps
    · obtain ⟨ps, rfl⟩ := t
      obtain ⟨ps', h', _⟩ := e.2 p ps q
      rw [h'] at n; cases n
    · rw [e.1 p o q fun ps z => t ⟨ps, z⟩] at n; cases n
theorem Ext.tabbed {H H' : Hp} {P : Addr} (g : GxR.TabG H P) (h : GxR.Tabbed P H H') : Ext H H' := by
  obtain ⟨ps, e, t⟩ := g
  obtain ⟨⟨ps', e', t'⟩, hb⟩ := h
  refine ⟨fun b o q n => ?_, fun b qs q => ?_⟩
  · have : b ≠ P := fun z => by rw [z, e] at q; cases q; exact n _ rfl
    rw [hb b this]; exact q
  · by_cases z : b = P
    · subst z
      rw [e] at q; cases q
      exact ⟨ps', e', fun _ => t'⟩
    · exact ⟨qs, by rw [hb b z]; exact q, id⟩
theorem TbX.tab {H H' : Hp} (e : TbX H H') {P : Addr} (g : GxR.TabG H P) : GxR.TabG H' P := by
  obtain ⟨ps, h, t⟩ := g
  obtain ⟨ps', h', t'⟩ := e P ps h
  exact ⟨ps', h', t' t⟩
/-- the tables of the text -/
def Tabs (Ts : List Addr) (H : Hp) : Prop := ∀ P ∈ Ts, GxR.TabG H P
theorem Tabs.kp {Ts : List Addr} {H H' : Hp} (t : Tabs Ts H) (e : TbX H H') : Tabs Ts H' := fun P hP => e.tab (t P hP)

/-! ### data -/
/-- x is a tuple of the values xs -/
def Tu (H : Hp) (x : V) (xs : List V) : Prop := ∃ a, x = .ref a ∧ H a = some (.tup xs)
theorem Tu.kp {H H' : Hp} {x : V} {xs : List V} (h : Tu H x xs) (e : Kp H H') : Tu H' x xs := by
  obtain ⟨a, rfl, h⟩ := h
  exact ⟨a, rfl, e.1 a _ h trivial⟩
theorem Tu.ext {H H' : Hp} {x : V} {xs : List V} (h : Tu H x xs) (e : Ext H H') : Tu H' x xs := h.kp e.kp
theorem Tu.inj {H : Hp} {x : V} {xs ys : List V} (h : Tu H x xs) (g : Tu H x ys) : xs = ys := by
  obtain ⟨a, rfl, h⟩ := h
  obtain ⟨b, e, g⟩ := g
  cases e
  rw [h] at g; cases g; rfl
def nI (ns : List Nat) : List V := ns.map fun n : Nat => V.int (n : Int)
theorem nI_length (ns : List Nat) : (nI ns).length = ns.length := List.length_map ..
theorem nI_append (a b : List Nat) : nI (a ++ b) = nI a ++ nI b := List.map_append
/-- x is a tuple of numbers -/
abbrev Tn (H : Hp) (x : V) (ns : List Nat) : Prop := Tu H x (nI ns)

/-! ### rules -/
theorem OpR.imp {X : Cx} {f : Value → Value → Sem Value} {r r' : R2} (h : OpR X f r) (k : ∀ x y H Q, r' x y H Q → r x y H Q) : OpR X f r' := fun pins s σ H x y v u Q I rx ry q => h pins s σ H x y v u Q I rx ry (k _ _ _ _ q)
theorem SlR.imp {X : Cx} {r r' : V → Option Int → Option Int → Hp → VK → Prop} (h : SlR X r) (k : ∀ x lo hi H Q, r' x lo hi H Q → r x lo hi H Q) : SlR X r' := fun pins s σ H x v vl vu lo hi sl Q I rx hs p1 p2 q => h pins s σ H x v vl vu lo hi sl Q I rx hs p1 p2 (k _ _ _ _ _ q)
/-- t + u -/
def rCatS : R2 := fun x y H Q => ∃ xs ys, Tu H x xs ∧ Tu H y ys ∧ xs.length + ys.length ≤ sizeLine ∧ ∀ z H', Ext H H' → Tu H' z (xs ++ ys) → Q z H'
theorem op_catS {X : Cx} : OpR X (binaryOp .Add) rCatS := OpR.imp op_catA fun x y H Q ⟨xs, ys, ⟨a, ea, ha⟩, ⟨b, eb, hb⟩, hz, q⟩ => by
  subst ea eb
  refine ⟨a, b, xs, ys, rfl, rfl, SqT.of ha, SqT.of hb, hz, fun e => ?_, fun _ e => ?_, fun _ _ p np => q _ _ (Ext.new np) ⟨p, rfl, upd_same⟩⟩
  · refine q _ _ (Ext.refl H) ⟨b, rfl, ?_⟩
    rw [e, List.nil_append]; exact hb
  · refine q _ _ (Ext.refl H) ⟨a, rfl, ?_⟩
    rw [e, List.append_nil]; exact ha
/-- t += u -/
theorem ip_catS {X : Cx} : PIp X .Add rCatS := fun pins s σ H x y v u Q I rx ry h => by
  obtain ⟨xs, ys, ⟨a, ea, ha⟩, ⟨b, eb, hb⟩, hz, q⟩ := h
  subst ea eb
  refine GX.iop_cat pins s σ H _ _ v u Q I rx ry ⟨a, b, xs, ys, rfl, rfl, SqT.of ha, SqT.of hb, hz, fun e => ?_, fun _ e => ?_, fun _ _ p np => q _ _ (Ext.new np) ⟨p, rfl, upd_same⟩⟩
  · refine q _ _ (Ext.refl H) ⟨b, rfl, ?_⟩
    rw [e, List.nil_append]; exact hb
  · refine q _ _ (Ext.refl H) ⟨a, rfl, ?_⟩
    rw [e, List.append_nil]; exact ha
theorem rep_zero : ∀ n : Nat, (List.replicate n (nI [0])).flatten = nI (List.replicate n 0)
  | 0 => rfl
  | n + 1 => by rw [List.replicate_succ, List.flatten_cons, rep_zero n, List.replicate_succ]; rfl
/-- (0,) * n -/
def rRepZ : R2 := fun x y H Q => ∃ n : Nat, Tn H x [0] ∧ y = .int (n : Int) ∧ 1 ≤ n ∧ n ≤ 1000 ∧ ∀ z H', Ext H H' → Tn H' z (List.replicate n 0) → Q z H'
theorem op_repZ {X : Cx} : OpR X (binaryOp .Mult) rRepZ := OpR.imp GX.op_repN fun x y H Q ⟨n, ⟨a, ea, ha⟩, ey, h1, h2, q⟩ => by
  subst ea ey
  refine ⟨a, n, nI [0], rfl, rfl, SqT.of ha, by simp [nI], by omega, by omega, by simp [nI], fun e => ?_, fun e p np => q _ _ (Ext.new np) ⟨p, rfl, ?_⟩⟩
  · have : n = 1 := by omega
    subst this
    exact q _ _ (Ext.refl H) ⟨a, rfl, ha⟩
  · rw [upd_same]
    congr 2
    rw [Int.toNat_natCast]
    exact rep_zero n
/-- t[lo:hi] -/
def rSlS : V → Option Int → Option Int → Hp → VK → Prop := fun x lo hi H Q => ∃ xs, Tu H x xs ∧ ∀ z H', Ext H H' → Tu H' z (cutV xs lo hi) → Q z H'
theorem sl_tupS {X : Cx} : SlR X rSlS := SlR.imp sl_tupA fun x lo hi H Q ⟨xs, ⟨a, ea, ha⟩, q⟩ => by
  subst ea
  refine ⟨a, xs, rfl, SqT.of ha, fun ⟨h1, h2⟩ => q _ _ (Ext.refl H) ⟨a, rfl, ?_⟩, fun _ p np => q _ _ (Ext.new np) ⟨p, rfl, upd_same⟩⟩
  have : cutV xs lo hi = xs := by
    unfold cutV
    rw [h1, h2]; simp
  rw [this]; exact ha
end TW

set_option maxHeartbeats 8000000
/-! TwB: the text by places, the data, the small defs of the module programs. -/
namespace TW
open PySem PySem.Spec PyProof.Rows L2
open TC hiding Step Env
def tx (i : Nat) : Stmt := PySem.Challenge.pw_traceclasses_k97_whole_one_run_for_each.main.body.getD i (.Pass ⟨0, 0, 0, 0⟩)
/-- a def with the address of its code object -/
structure FunC (K : PySem.W.Frag) (x qual : Str) (st : Stmt) (f : Addr) (fd : FuncData) (c : Addr) : Prop where
  ex : ∃ (oc : Value) (od : Option Addr) (kV doc pm : Value) (an : Option Addr) (ct : Value) (osl : Array (Option Value)),
    fd = PySem.W.fnOf x qual (defArgs st) (defBody st) (defScope st) .none kV doc pm an (.ref c) ct ∧ K.lookup f = some ⟨oc, od, .func fd, osl⟩ ∧ PySem.W.codeIn K (.ref c) qual = true
  kp : PySem.W.keepIn K (.ref f) = true
section
variable {P : Program} {w : World} {K : PySem.W.Frag} {mg : Str → Option Value} {base : Heap}
theorem FunC.ok {x qual : Str} {st : Stmt} {f c : Addr} {fd : FuncData} {N ps : List Str} {k : Nat} {sp : Sp} (F : FunC K x qual st f fd c) (S : FnScope N ps (defScope st)) (len : ∀ vs H Q E, sp vs H Q E → vs.length = ps.length)
    (hbody : ∀ (A : Around) (outer : List PySem.Env) (s : Shared) (H : Hp) (vs : List V) (Q : VK) (E : XK), Room k (A.deeper (envOfC qual (defScope st) s.heap.objs.size f (.ref c))) → sp vs H Q E →
      ∃ t, PSs (cxOf CX0 P w K mg base N qual (defScope st) f (.ref c) A outer s H E).nox (defBody st) t ∧ t { nx := fun _ H' => Q .non H', rt := Q } (start N vs) H) : FnOk P w K mg base CX0 (k + 1) f fd ps sp := by
  obtain ⟨oc, od, kV, doc, pm, an, ct, osl, rfl, lk, hcd⟩ := F.ex
  refine fn_of lk hcd S len fun A outer s H vs Q E hr hsp => ?_
  obtain ⟨t, h, q⟩ := hbody A outer s H vs Q E hr hsp
  exact ⟨t, h.nox, q⟩
end
/-! ### data -/
def nm (c : Nat) : Str := ⟨#[c]⟩
def stepV : TC.Step → List V
  | .add x n => [.str "add", .str (nm x), .int n]
  | .copy x y => [.str "copy", .str (nm x), .str (nm y)]
  | .wait x n => [.str "wait", .str (nm x), .int n]
  | .look x => [.str "look", .str (nm x)]
def OS (H : Hp) (x : V) : Option TC.Step → Prop
  | none => x = .non
  | some s => Tu H x (stepV s)
/-- two lists, place by place -/
def A2 {α β : Type} (R : α → β → Prop) (xs : List α) (l : List β) : Prop := xs.length = l.length ∧ ∀ (i : Nat) (x : α), xs[i]? = some x → ∃ b : β, l[i]? = some b ∧ R x b
theorem A2.at {α β : Type} {R : α → β → Prop} {xs : List α} {l : List β} (h : A2 R xs l) {i : Nat} {b : β} (hi : l[i]? = some b) : ∃ x, xs[i]? = some x ∧ R x b := by
  have hl := (List.getElem?_eq_some_iff.mp hi).1
  have hx : i < xs.length := by rw [h.1]; exact hl
  obtain ⟨b', h1, h2⟩ := h.2 i _ (List.getElem?_eq_getElem hx)
  rw [hi] at h1; cases h1
  exact ⟨_, List.getElem?_eq_getElem hx, h2⟩
theorem A2.imp {α β : Type} {R R' : α → β → Prop} {xs : List α} {l : List β} (h : A2 R xs l) (k : ∀ x b, R x b → R' x b) : A2 R' xs l := ⟨h.1, fun i x hx => by obtain ⟨b, h1, h2⟩ := h.2 i x hx; exact ⟨b, h1, k _ _ h2⟩⟩
def rowP (H : Hp) (x : V) (l : List TC.Step) : Prop := ∃ ss, Tu H x ss ∧ A2 (fun s st => Tu H s (stepV st)) ss l
def pairP (H : Hp) (x : V) (p : Nat × Int) : Prop := Tu H x [.str (nm p.1), .int p.2]
/-- a tuple whose object is known to be plain -/
def Pt (H : Hp) (x : V) (xs : List V) : Prop := ∃ a o, x = .ref a ∧ H a = some (.frz o (.tup xs)) ∧ o.dict = none
theorem Pt.kp {H H' : Hp} {x : V} {xs : List V} (h : Pt H x xs) (e : Kp H H') : Pt H' x xs := by
  obtain ⟨a, o, rfl, h, d⟩ := h
  exact ⟨a, o, rfl, e.1 a _ h trivial, d⟩
/-- a program: its values, its threads -/
def Prog (H : Hp) (x : V) (e0 : TC.Env) (P : Thr) : Prop := ∃ v t ps rows, Tu H x [.str "program", v, t] ∧ Pt H v ps ∧ A2 (pairP H) ps e0 ∧ Tu H t rows ∧ A2 (rowP H) rows P
theorem rowP.kp {H H' : Hp} {x : V} {l : List TC.Step} (h : rowP H x l) (e : Kp H H') : rowP H' x l := by
  obtain ⟨ss, h1, h2⟩ := h
  exact ⟨ss, h1.kp e, h2.imp fun _ _ q => q.kp e⟩
theorem Prog.kp {H H' : Hp} {x : V} {e0 : TC.Env} {P : Thr} (h : Prog H x e0 P) (e : Kp H H') : Prog H' x e0 P := by
  obtain ⟨v, t, ps, rows, h1, h2, h3, h4, h5⟩ := h
  exact ⟨v, t, ps, rows, h1.kp e, h2.kp e, h3.imp fun _ _ q => q.kp e, h4.kp e, h5.imp fun _ _ q => q.kp e⟩
def envK (e : TC.Env) : List (Key × V) := e.map fun p => (Sum.inr (nm p.1), V.int p.2)
/-- a dict of the values -/
def EnvD (H : Hp) (x : V) (e : TC.Env) : Prop := ∃ a, x = .ref a ∧ H a = some (.dK (envK e))
theorem EnvD.kp {H H' : Hp} {x : V} {e : TC.Env} (h : EnvD H x e) (k : Kp H H') : EnvD H' x e := by
  obtain ⟨a, rfl, h⟩ := h
  exact ⟨a, rfl, k.1 a _ h trivial⟩
theorem OS.kp {H H' : Hp} {x : V} {o : Option TC.Step} (h : OS H x o) (k : Kp H H') : OS H' x o := by
  cases o with
  | none => exact h
  | some s => exact Tu.kp h k
theorem nI_at {ns : List Nat} {i n : Nat} (h : ns[i]? = some n) : (nI ns)[i]? = some (.int (n : Int)) := by
  unfold nI; rw [List.getElem?_map, h]; rfl
theorem nI_inv {ns : List Nat} {i : Nat} {x : V} (h : (nI ns)[i]? = some x) : ∃ n, ns[i]? = some n ∧ x = .int (n : Int) := by
  unfold nI at h; rw [List.getElem?_map] at h
  cases q : ns[i]? with
  | none => rw [q] at h; cases h
  | some n => rw [q] at h; exact ⟨n, rfl, (Option.some.inj h).symm⟩
theorem getD_at {l : List Nat} {i : Nat} (h : i < l.length) : l[i]? = some (l.getD i 0) := by
  rw [List.getD_eq_getElem?_getD, List.getElem?_eq_getElem h]; rfl
theorem eq_at {α : Type} {l : List α} {i : Nat} (h : i < l.length) : ∃ x, l[i]? = some x := ⟨_, List.getElem?_eq_getElem h⟩
/-- an item of a tuple, by place -/
theorem tu_ix {K : PySem.W.Frag} {H : Hp} {x : V} {xs : List V} {i : Int} {v : V} {Q : VK} (j : Nat) (h : Tu H x xs) (hj : xs[j]? = some v) (q : Q v H) (he : i = (j : Int) := by rfl) : rIxT K x (.int i) H Q := by
  obtain ⟨a, rfl, ha⟩ := h
  subst he
  exact ⟨a, xs, _, v, rfl, rfl, SqT.of ha, atI_nat hj, q⟩
/-- len(x) -/
def rLen (K : PySem.W.Frag) : List V → Hp → VK → Prop := fun xs H Q => ∃ p ys, xs = [.ref p] ∧ (SqL K H p ys ∨ SqT K H p ys) ∧ Q (.int ys.length) H
theorem call_len {X : Cx} : CallR X (.builtin "len") (rLen X.K) := call_len_seq
theorem tu_len {K : PySem.W.Frag} {H : Hp} {x : V} {xs : List V} {Q : VK} (h : Tu H x xs) (q : Q (.int (xs.length : Nat)) H) : rLen K [x] H Q := by
  obtain ⟨a, rfl, ha⟩ := h
  exact ⟨a, xs, rfl, .inr (SqT.of ha), q⟩
theorem ls_len {K : PySem.W.Frag} {H : Hp} {a : Addr} {xs : List V} {Q : VK} (h : H a = some (.lst xs)) (q : Q (.int (xs.length : Nat)) H) : rLen K [.ref a] H Q := ⟨a, xs, rfl, .inl (SqL.of h), q⟩
theorem ls_ix {K : PySem.W.Frag} {H : Hp} {a : Addr} {xs : List V} {i : Int} {v : V} {Q : VK} (j : Nat) (h : H a = some (.lst xs)) (hj : xs[j]? = some v) (q : Q v H) (he : i = (j : Int) := by rfl) : rIxL K (.ref a) (.int i) H Q := by
  subst he
  exact ⟨a, xs, _, v, rfl, rfl, SqL.of h, atI_nat hj, q⟩
theorem ifd {c : Prop} [Decidable c] {A B : Prop} (h1 : c → A) (h2 : ¬ c → B) : if c then A else B := ite2 h1 h2
theorem s_add_copy : (Str.ofString "add" = Str.ofString "copy") = False := eq_false (by decide +kernel)
theorem s_add_wait : (Str.ofString "add" = Str.ofString "wait") = False := eq_false (by decide +kernel)
theorem s_copy_add : (Str.ofString "copy" = Str.ofString "add") = False := eq_false (by decide +kernel)
theorem s_copy_wait : (Str.ofString "copy" = Str.ofString "wait") = False := eq_false (by decide +kernel)
theorem s_wait_add : (Str.ofString "wait" = Str.ofString "add") = False := eq_false (by decide +kernel)
theorem s_wait_copy : (Str.ofString "wait" = Str.ofString "copy") = False := eq_false (by decide +kernel)
theorem s_look_add : (Str.ofString "look" = Str.ofString "add") = False := eq_false (by decide +kernel)
theorem s_look_copy : (Str.ofString "look" = Str.ofString "copy") = False := eq_false (by decide +kernel)
theorem s_look_wait : (Str.ofString "look" = Str.ofString "wait") = False := eq_false (by decide +kernel)
/-! ### the module's names -/
structure Bt (mg : Str → Option Value) : Prop where
  len : mg "len" = none
  range : mg "range" = none
  enumerate : mg "enumerate" = none
  tuple : mg "tuple" = none
  sorted : mg "sorted" = none
  set : mg "set" = none
  dict : mg "dict" = none
  zip : mg "zip" = none
  all : mg "all" = none
  any : mg "any" = none
  min : mg "min" = none
  isinstance : mg "isinstance" = none
  int : mg "int" = none
  bool : mg "bool" = none
  str : mg "str" = none

/-- a def of the module that keeps a promise -/
structure Cal (P : Program) (w : World) (K : PySem.W.Frag) (mg : Str → Option Value) (base : Heap) (k : Nat) (x : Str) (ps : List Str) (sp : Sp) : Prop where
  ex : ∃ f fd, mg x = some (.ref f) ∧ PySem.W.keepIn K (.ref f) = true ∧ Binds K fd ps [] ∧ FnOk P w K mg base CX0 k f fd ps sp
theorem pe_cal {X : Cx} {k : Nat} {x : Str} {ps : List Str} {sp : Sp} {e : Expr} {es : List Expr} {t : TA} {p pos : Pos} (c : Cal X.prog X.w X.K X.mg X.base k x ps sp) (hr : Room k X.A) (hg : Gl X x)
    (ha : PA X (e :: es) t) (hdb : (x == ("__debug__" : Str)) = false := by decide) (he : starEach (e :: es) X.env = (false, eval e X.env) :: starEach es X.env := by rfl) (hpl : (backTo pos (starEach es X.env)).any (·.1) = false := by rfl) :
    PE X (.Call (.Name x p) (e :: es) [] pos) (tCall sp [] E0 t) := by
  obtain ⟨f, fd, h1, h2, h3, h4⟩ := c.ex
  exact pe_call h4 hr hg h1 h2 h3 .nil pass0 ha hdb he hpl
section
variable {P : Program} {w : World} {K : PySem.W.Frag} {mg : Str → Option Value} {base : Heap}
/-! ### next_step -/
abbrev sNext : Stmt := tx 6
def spNext : Sp := fun vs H Q _ => ∃ x y e0 Th d t, vs = [x, y, .int (t : Nat)] ∧ Prog H x e0 Th ∧ Tn H y d ∧ t < Th.length ∧ t < d.length ∧ ∀ v, OS H v (nxt Th d t) → Q v H
theorem scNext : FnScope ["program", "done", "thread", "steps"] ["program", "done", "thread"] (defScope sNext) := ⟨rfl, rfl, rfl, by decide +kernel, rfl, by decide +kernel, by decide +kernel⟩
theorem ok_next {f : Addr} {fd : FuncData} (F : Fun K "next_step" "next_step" sNext f fd) (B : Bt mg) : FnOk P w K mg base CX0 1 f fd ["program", "done", "thread"] spNext := by
  refine F.ok scNext (fun vs H Q E h => ?_) (fun cdv A outer s H vs Q E hr h => ?_)
  · obtain ⟨x, y, e0, Th, d, t, rfl, _⟩ := h
    rfl
  · obtain ⟨x, y, e0, Th, d, t, rfl, ⟨v, tt, ps, rows, h1, h2, h3, h4, h5⟩, hd, ht, htd, q⟩ := h
    refine ⟨_, pss_cons (ps_set (i := 3) scNext.nd rfl (Or.inl rfl) (pe_ix ix_tup (pe_ix ix_tup (pv 0) pe_int (fun _ _ => rfl)) (pv 2) (fun _ _ => rfl)))
      (pss_one (ps_ret (pe_ifExp (pt_cmpR op_lt (pe_ix ix_tup (pv 1) (pv 2) (fun _ _ => rfl)) (pe_callB call_len (by rfl) B.len PySem.boot_len (pa_cons (pv 3) pa_nil)) (nomark _))
        (pe_ix ix_tup (pv 3) (pe_ix ix_tup (pv 1) (pv 2) (fun _ _ => rfl)) (fun _ _ => rfl)) pe_non))), ?_⟩
    obtain ⟨l, hl⟩ := eq_at ht
    obtain ⟨r, hr1, ss, hss, hA⟩ := h5.at hl
    simp only [tVar, tC, tOp, tUn, tTest, tChain, tNil, tCons, tTup, tLst, tCall, tMeth, tMake, tCB, tIf, tAndV, tOrV, tNotV, tIsN, tNotN, tB, tAnd, tOr, tNot, tNext, tSeq, tDrop, tRet, tRetN, tIfS, tNever, gName, gNil, gCons, gSub, tAsg, tAug, tAugS, ipI, tBM, tBM0, tSl, tNoPart, tPart, tDGet, tDIn, tDNotIn, tDGet1, tDNewT, tDNewK, tYes, rI0, rI, rU, rAdd, rSub, rEq, rNe, L2.start, List.map_cons, List.map_nil, List.length_cons, List.length_nil, List.replicate, List.append_nil, List.nil_append, List.cons_append, List.getElem?_cons_zero, List.getElem?_cons_succ, List.set_cons_zero, List.set_cons_succ, Option.some.injEq, V.int.injEq, V.bl.injEq, V.ref.injEq, V.str.injEq, exists_eq_left', exists_eq_left, exists_and_left, true_and, and_true, Nat.reduceAdd, Nat.reduceSub, Nat.add_one_sub_one, Nat.sub_self, Bool.true_eq_false, Bool.false_eq_true, if_true, if_false, ite_true, ite_false, cxOf, Cx.nox, decide_eq_true_eq, reduceCtorEq, decide_false, decide_true, Bool.not_false, Bool.not_true, eq_self, upd_same, L2.upd_upd, List.cons.injEq, and_assoc]
    refine tu_ix 2 h1 rfl (tu_ix t h4 hr1 (tu_ix t hd (nI_at (getD_at htd)) (tu_len hss ⟨_, rfl, _, rfl, ?_⟩)))
    refine ifd (fun hlt => ?_) (fun hge => ?_)
    · have hlt : d.getD t 0 < l.length := by rw [hA.1] at hlt; omega
      obtain ⟨st, hst⟩ := eq_at hlt
      obtain ⟨u, hu, hS⟩ := hA.at hst
      refine tu_ix t hd (nI_at (getD_at htd)) (tu_ix _ hss hu (q _ ?_))
      have : nxt Th d t = some st := by
        unfold nxt stp
        rw [List.getD_eq_getElem?_getD, hl]; exact hst
      rw [this]; exact hS
    · refine q _ ?_
      have : nxt Th d t = none := by
        unfold nxt stp
        rw [List.getD_eq_getElem?_getD, hl]
        exact List.getElem?_eq_none (by rw [hA.1] at hge; show l.length ≤ _; omega)
      rw [this]; rfl
end
end TW

set_option maxHeartbeats 8000000
/-! TwC: is_possible, done_after, values_after. -/
namespace TW
open PySem PySem.Spec PyProof.Rows L2
open TC hiding Step Env
/-! ### the values' dict -/
def dom (e : TC.Env) : List Nat := e.map (·.1)
theorem nm_inj {a b : Nat} (h : nm a = nm b) : a = b := by
  have := congrArg (fun z : Str => z.cps) h
  simpa [nm] using this
theorem dom_app (e : TC.Env) (s : TC.Step) : dom (app e s) = dom e := by
  have k : ∀ x v, dom (eset e x v) = dom e := fun x v => by
    unfold dom eset
    rw [List.map_map]
    apply List.map_congr_left
    intro p _
    simp only [Function.comp]
    split
    · rename_i h; exact h.symm
    · rfl
  cases s with
  | add x n => exact k _ _
  | copy x y => exact k _ _
  | wait x n => rfl
  | look x => rfl
theorem envK_val : ∀ {e : TC.Env} {c : Nat}, c ∈ dom e → valV (envK e) (Sum.inr (nm c)) = some (.int (eget e c))
  | [], c, h => by simp [dom] at h
  | (a, v) :: e, c, h => by
    show valV ((Sum.inr (nm a), V.int v) :: envK e) _ = _
    by_cases q : a = c
    · subst q
      rw [valV_pos rfl]
      unfold eget; simp [List.lookup]
    · have : ¬ (Sum.inr (nm a) : Key) = Sum.inr (nm c) := fun z => q (nm_inj (Sum.inr.inj z))
      rw [valV_neg this]
      have hm : c ∈ dom e := by
        unfold dom at h ⊢
        rcases List.mem_cons.mp h with z | z
        · exact absurd z.symm q
        · exact z
      rw [envK_val hm]
      unfold eget
      have hb : (c == a) = false := by simpa using fun z => q z.symm
      rw [List.lookup_cons, hb]
theorem envK_put {e : TC.Env} {c : Nat} {v : Int} (h : c ∈ dom e) : putK (envK e) (Sum.inr (nm c)) (.int v) = envK (eset e c v) := by
  have hs : ((envK e).any fun kv => decide (kv.1 = Sum.inr (nm c))) = true := by
    rw [valV_any, envK_val h]; rfl
  unfold putK
  rw [if_pos hs]
  unfold envK eset
  rw [List.map_map, List.map_map]
  apply List.map_congr_left
  intro p _
  simp only [Function.comp]
  by_cases q : p.1 = c
  · subst q; simp
  · have : ¬ (Sum.inr (nm p.1) : Key) = Sum.inr (nm c) := fun z => q (nm_inj (Sum.inr.inj z))
    rw [if_neg this, if_neg q]
theorem envK_length (e : TC.Env) : (envK e).length = e.length := List.length_map _
/-- d[k] -/
def rDGet : R2 := fun x y H Q => ∃ a v, x = .ref a ∧ DGet H a y (some v) ∧ Q v H
theorem pe_dgetR {X : Cx} {o i : Expr} {td ty : TE} {pos : Pos} (hu : X.A.units + 1 < cLine) (hd : PE X o td) (hy : PE X i ty) (hs : NoSl i := by exact fun _ _ => rfl) : PE X (.Subscript o i pos) (tOp rDGet td ty) := pe_dget hu hd hy hs
theorem dg_env {H : Hp} {x : V} {e : TC.Env} {c : Nat} {Q : VK} (h : EnvD H x e) (hc : c ∈ dom e) (q : Q (.int (eget e c)) H) : rDGet x (.str (nm c)) H Q := by
  obtain ⟨a, rfl, ha⟩ := h
  refine ⟨a, _, rfl, ?_, q⟩
  have := DGet.k (k := Sum.inr (nm c)) ha
  rw [envK_val hc] at this
  exact this
/-- the names of the steps are names of values -/
def Wf (e0 : TC.Env) (P : Thr) : Prop := (dom e0).Nodup ∧ e0.length ≤ 3 ∧ ∀ l ∈ P, ∀ s ∈ l, ∀ c ∈ tch s, c ∈ dom e0
theorem nxt_mem {P : Thr} {d : List Nat} {t : Nat} {s : TC.Step} (h : nxt P d t = some s) : ∃ l ∈ P, s ∈ l := by
  unfold nxt stp at h
  rw [List.getD_eq_getElem?_getD] at h
  cases q : P[t]? with
  | none => rw [q] at h; simp at h
  | some l =>
    rw [q] at h
    exact ⟨l, List.mem_of_getElem? q, List.mem_of_getElem? h⟩

theorem szN {n : Nat} (h : n ≤ 1000) : n ≤ sizeLine := Nat.le_of_lt (small1000 h)
theorem cut_lo (xs : List V) {t : Nat} (h : t ≤ xs.length) : cutV xs none (some (t : Int)) = xs.take t := by
  unfold cutV
  rw [HT.sIx_none, HT.sIx_nat, Nat.min_eq_left h, List.drop_zero, Nat.sub_zero]
theorem cut_hi (xs : List V) {t : Nat} (h : t + 1 ≤ xs.length) : cutV xs (some ((t : Int) + 1)) none = xs.drop (t + 1) := by
  unfold cutV
  have : ((t : Int) + 1) = ((t + 1 : Nat) : Int) := by omega
  rw [HT.sIx_none, this, HT.sIx_nat, Nat.min_eq_left h, List.take_of_length_le]
  rw [List.length_drop]; omega
section
variable {P : Program} {w : World} {K : PySem.W.Frag} {mg : Str → Option Value} {base : Heap}
abbrev CNext (P : Program) (w : World) (K : PySem.W.Frag) (mg : Str → Option Value) (base : Heap) : Prop := Cal P w K mg base 1 "next_step" ["program", "done", "thread"] spNext
/-! ### is_possible -/
abbrev sPoss : Stmt := tx 7
def spPoss : Sp := fun vs H Q _ => ∃ x z y e0 e Th d t, vs = [x, z, y, .int (t : Nat)] ∧ Prog H x e0 Th ∧ Wf e0 Th ∧ EnvD H z e ∧ dom e = dom e0 ∧ Tn H y d ∧ t < Th.length ∧ t < d.length ∧ Q (.bl (poss Th e d t)) H
theorem scPoss : FnScope ["program", "values", "done", "thread", "step"] ["program", "values", "done", "thread"] (defScope sPoss) := ⟨rfl, rfl, rfl, by decide +kernel, rfl, by decide +kernel, by decide +kernel⟩
theorem ok_poss {f : Addr} {fd : FuncData} (F : Fun K "is_possible" "is_possible" sPoss f fd) (c1 : CNext P w K mg base) : FnOk P w K mg base CX0 2 f fd ["program", "values", "done", "thread"] spPoss := by
  refine F.ok scPoss (fun vs H Q E h => ?_) (fun cdv A outer s H vs Q E hr h => ?_)
  · obtain ⟨x, z, y, e0, e, Th, d, t, rfl, _⟩ := h
    rfl
  · obtain ⟨x, z, y, e0, e, Th, d, t, rfl, hp, wf, he, hde, hd, ht, htd, q⟩ := h
    refine ⟨_, pss_cons (ps_set (i := 4) scPoss.nd rfl (Or.inl rfl) (pe_cal c1 hr rfl (pa_cons (pv 0) (pa_cons (pv 2) (pa_cons (pv 3) pa_nil)))))
      (pss_one (ps_ret (pe_and (pe_cmpR op_notN (pv 4) pe_non (nomark _)) (pe_one (pe_or (pe_cmpR op_ne (pe_ix ix_tup (pv 4) pe_int (fun _ _ => rfl)) pe_str (nomark _)) (pe_one (pe_cmpR op_ge (pe_dgetR (hu_of hr) (pv 1) (pe_ix ix_tup (pv 4) pe_int (fun _ _ => rfl))) (pe_ix ix_tup (pv 4) pe_int (fun _ _ => rfl)) (nomark _)))))))), ?_⟩
    simp only [tVar, tC, tOp, tUn, tTest, tChain, tNil, tCons, tTup, tLst, tCall, tMeth, tMake, tCB, tIf, tAndV, tOrV, tNotV, tIsN, tNotN, tB, tAnd, tOr, tNot, tNext, tSeq, tDrop, tRet, tRetN, tIfS, tNever, gName, gNil, gCons, gSub, tAsg, tAug, tAugS, ipI, tBM, tBM0, tSl, tNoPart, tPart, tDGet, tDIn, tDNotIn, tDGet1, tDNewT, tDNewK, tYes, rI0, rI, rU, rAdd, rSub, rEq, rNe, L2.start, List.map_cons, List.map_nil, List.length_cons, List.length_nil, List.replicate, List.append_nil, List.nil_append, List.cons_append, List.getElem?_cons_zero, List.getElem?_cons_succ, List.set_cons_zero, List.set_cons_succ, Option.some.injEq, V.int.injEq, V.bl.injEq, V.ref.injEq, V.str.injEq, exists_eq_left', exists_eq_left, exists_and_left, true_and, and_true, Nat.reduceAdd, Nat.reduceSub, Nat.add_one_sub_one, Nat.sub_self, Bool.true_eq_false, Bool.false_eq_true, if_true, if_false, ite_true, ite_false, cxOf, Cx.nox, decide_eq_true_eq, reduceCtorEq, decide_false, decide_true, Bool.not_false, Bool.not_true, eq_self, upd_same, L2.upd_upd, List.cons.injEq, and_assoc]
    refine ⟨x, y, e0, Th, d, t, rfl, hp, hd, ht, htd, fun v hv => ?_⟩
    unfold poss at q
    cases hn : nxt Th d t with
    | none =>
      rw [hn] at hv q
      cases (show v = V.non from hv)
      simp only [tVar, tC, tOp, tUn, tTest, tChain, tNil, tCons, tTup, tLst, tCall, tMeth, tMake, tCB, tIf, tAndV, tOrV, tNotV, tIsN, tNotN, tB, tAnd, tOr, tNot, tNext, tSeq, tDrop, tRet, tRetN, tIfS, tNever, gName, gNil, gCons, gSub, tAsg, tAug, tAugS, ipI, tBM, tBM0, tSl, tNoPart, tPart, tDGet, tDIn, tDNotIn, tDGet1, tDNewT, tDNewK, tYes, rI0, rI, rU, rAdd, rSub, rEq, rNe, L2.start, List.map_cons, List.map_nil, List.length_cons, List.length_nil, List.replicate, List.append_nil, List.nil_append, List.cons_append, List.getElem?_cons_zero, List.getElem?_cons_succ, List.set_cons_zero, List.set_cons_succ, Option.some.injEq, V.int.injEq, V.bl.injEq, V.ref.injEq, V.str.injEq, exists_eq_left', exists_eq_left, exists_and_left, true_and, and_true, Nat.reduceAdd, Nat.reduceSub, Nat.add_one_sub_one, Nat.sub_self, Bool.true_eq_false, Bool.false_eq_true, if_true, if_false, ite_true, ite_false, cxOf, Cx.nox, decide_eq_true_eq, reduceCtorEq, decide_false, decide_true, Bool.not_false, Bool.not_true, eq_self, upd_same, L2.upd_upd, List.cons.injEq, and_assoc]
      exact q
    | some st =>
      rw [hn] at hv q
      obtain ⟨l, hl, hs⟩ := nxt_mem hn
      have hc := wf.2.2 l hl st hs
      have hv : Tu H v (stepV st) := hv
      obtain ⟨a, rfl, ha⟩ := id hv
      simp only [tVar, tC, tOp, tUn, tTest, tChain, tNil, tCons, tTup, tLst, tCall, tMeth, tMake, tCB, tIf, tAndV, tOrV, tNotV, tIsN, tNotN, tB, tAnd, tOr, tNot, tNext, tSeq, tDrop, tRet, tRetN, tIfS, tNever, gName, gNil, gCons, gSub, tAsg, tAug, tAugS, ipI, tBM, tBM0, tSl, tNoPart, tPart, tDGet, tDIn, tDNotIn, tDGet1, tDNewT, tDNewK, tYes, rI0, rI, rU, rAdd, rSub, rEq, rNe, L2.start, List.map_cons, List.map_nil, List.length_cons, List.length_nil, List.replicate, List.append_nil, List.nil_append, List.cons_append, List.getElem?_cons_zero, List.getElem?_cons_succ, List.set_cons_zero, List.set_cons_succ, Option.some.injEq, V.int.injEq, V.bl.injEq, V.ref.injEq, V.str.injEq, exists_eq_left', exists_eq_left, exists_and_left, true_and, and_true, Nat.reduceAdd, Nat.reduceSub, Nat.add_one_sub_one, Nat.sub_self, Bool.true_eq_false, Bool.false_eq_true, if_true, if_false, ite_true, ite_false, cxOf, Cx.nox, decide_eq_true_eq, reduceCtorEq, decide_false, decide_true, Bool.not_false, Bool.not_true, eq_self, upd_same, L2.upd_upd, List.cons.injEq, and_assoc]
      cases st with
      | wait c n =>
        refine tu_ix 0 hv rfl ⟨rfl, ?_⟩
        simp only [tVar, tC, tOp, tUn, tTest, tChain, tNil, tCons, tTup, tLst, tCall, tMeth, tMake, tCB, tIf, tAndV, tOrV, tNotV, tIsN, tNotN, tB, tAnd, tOr, tNot, tNext, tSeq, tDrop, tRet, tRetN, tIfS, tNever, gName, gNil, gCons, gSub, tAsg, tAug, tAugS, ipI, tBM, tBM0, tSl, tNoPart, tPart, tDGet, tDIn, tDNotIn, tDGet1, tDNewT, tDNewK, tYes, rI0, rI, rU, rAdd, rSub, rEq, rNe, L2.start, List.map_cons, List.map_nil, List.length_cons, List.length_nil, List.replicate, List.append_nil, List.nil_append, List.cons_append, List.getElem?_cons_zero, List.getElem?_cons_succ, List.set_cons_zero, List.set_cons_succ, Option.some.injEq, V.int.injEq, V.bl.injEq, V.ref.injEq, V.str.injEq, exists_eq_left', exists_eq_left, exists_and_left, true_and, and_true, Nat.reduceAdd, Nat.reduceSub, Nat.add_one_sub_one, Nat.sub_self, Bool.true_eq_false, Bool.false_eq_true, if_true, if_false, ite_true, ite_false, cxOf, Cx.nox, decide_eq_true_eq, reduceCtorEq, decide_false, decide_true, Bool.not_false, Bool.not_true, eq_self, upd_same, L2.upd_upd, List.cons.injEq, and_assoc]
        exact tu_ix 1 hv rfl (dg_env he (by rw [hde]; exact hc c (by simp [tch])) (tu_ix 2 hv rfl ⟨_, rfl, _, rfl, q⟩))
      | add c n =>
        refine tu_ix 0 hv rfl ⟨rfl, ?_⟩
        simp only [tVar, tC, tOp, tUn, tTest, tChain, tNil, tCons, tTup, tLst, tCall, tMeth, tMake, tCB, tIf, tAndV, tOrV, tNotV, tIsN, tNotN, tB, tAnd, tOr, tNot, tNext, tSeq, tDrop, tRet, tRetN, tIfS, tNever, gName, gNil, gCons, gSub, tAsg, tAug, tAugS, ipI, tBM, tBM0, tSl, tNoPart, tPart, tDGet, tDIn, tDNotIn, tDGet1, tDNewT, tDNewK, tYes, rI0, rI, rU, rAdd, rSub, rEq, rNe, L2.start, List.map_cons, List.map_nil, List.length_cons, List.length_nil, List.replicate, List.append_nil, List.nil_append, List.cons_append, List.getElem?_cons_zero, List.getElem?_cons_succ, List.set_cons_zero, List.set_cons_succ, Option.some.injEq, V.int.injEq, V.bl.injEq, V.ref.injEq, V.str.injEq, exists_eq_left', exists_eq_left, exists_and_left, true_and, and_true, Nat.reduceAdd, Nat.reduceSub, Nat.add_one_sub_one, Nat.sub_self, Bool.true_eq_false, Bool.false_eq_true, if_true, if_false, ite_true, ite_false, cxOf, Cx.nox, decide_eq_true_eq, reduceCtorEq, decide_false, decide_true, Bool.not_false, Bool.not_true, eq_self, upd_same, L2.upd_upd, List.cons.injEq, and_assoc, s_add_copy, s_add_wait, s_copy_add, s_copy_wait, s_wait_add, s_wait_copy, s_look_add, s_look_copy, s_look_wait]
        exact q
      | copy c n =>
        refine tu_ix 0 hv rfl ⟨rfl, ?_⟩
        simp only [tVar, tC, tOp, tUn, tTest, tChain, tNil, tCons, tTup, tLst, tCall, tMeth, tMake, tCB, tIf, tAndV, tOrV, tNotV, tIsN, tNotN, tB, tAnd, tOr, tNot, tNext, tSeq, tDrop, tRet, tRetN, tIfS, tNever, gName, gNil, gCons, gSub, tAsg, tAug, tAugS, ipI, tBM, tBM0, tSl, tNoPart, tPart, tDGet, tDIn, tDNotIn, tDGet1, tDNewT, tDNewK, tYes, rI0, rI, rU, rAdd, rSub, rEq, rNe, L2.start, List.map_cons, List.map_nil, List.length_cons, List.length_nil, List.replicate, List.append_nil, List.nil_append, List.cons_append, List.getElem?_cons_zero, List.getElem?_cons_succ, List.set_cons_zero, List.set_cons_succ, Option.some.injEq, V.int.injEq, V.bl.injEq, V.ref.injEq, V.str.injEq, exists_eq_left', exists_eq_left, exists_and_left, true_and, and_true, Nat.reduceAdd, Nat.reduceSub, Nat.add_one_sub_one, Nat.sub_self, Bool.true_eq_false, Bool.false_eq_true, if_true, if_false, ite_true, ite_false, cxOf, Cx.nox, decide_eq_true_eq, reduceCtorEq, decide_false, decide_true, Bool.not_false, Bool.not_true, eq_self, upd_same, L2.upd_upd, List.cons.injEq, and_assoc, s_add_copy, s_add_wait, s_copy_add, s_copy_wait, s_wait_add, s_wait_copy, s_look_add, s_look_copy, s_look_wait]
        exact q
      | look c =>
        refine tu_ix 0 hv rfl ⟨rfl, ?_⟩
        simp only [tVar, tC, tOp, tUn, tTest, tChain, tNil, tCons, tTup, tLst, tCall, tMeth, tMake, tCB, tIf, tAndV, tOrV, tNotV, tIsN, tNotN, tB, tAnd, tOr, tNot, tNext, tSeq, tDrop, tRet, tRetN, tIfS, tNever, gName, gNil, gCons, gSub, tAsg, tAug, tAugS, ipI, tBM, tBM0, tSl, tNoPart, tPart, tDGet, tDIn, tDNotIn, tDGet1, tDNewT, tDNewK, tYes, rI0, rI, rU, rAdd, rSub, rEq, rNe, L2.start, List.map_cons, List.map_nil, List.length_cons, List.length_nil, List.replicate, List.append_nil, List.nil_append, List.cons_append, List.getElem?_cons_zero, List.getElem?_cons_succ, List.set_cons_zero, List.set_cons_succ, Option.some.injEq, V.int.injEq, V.bl.injEq, V.ref.injEq, V.str.injEq, exists_eq_left', exists_eq_left, exists_and_left, true_and, and_true, Nat.reduceAdd, Nat.reduceSub, Nat.add_one_sub_one, Nat.sub_self, Bool.true_eq_false, Bool.false_eq_true, if_true, if_false, ite_true, ite_false, cxOf, Cx.nox, decide_eq_true_eq, reduceCtorEq, decide_false, decide_true, Bool.not_false, Bool.not_true, eq_self, upd_same, L2.upd_upd, List.cons.injEq, and_assoc, s_add_copy, s_add_wait, s_copy_add, s_copy_wait, s_wait_add, s_wait_copy, s_look_add, s_look_copy, s_look_wait]
        exact q
/-! ### done_after -/
abbrev sAfter : Stmt := tx 9
def spAfter : Sp := fun vs H Q _ => ∃ y d t, vs = [y, .int (t : Nat)] ∧ Tn H y d ∧ t < d.length ∧ d.length ≤ 1000 ∧ ∀ v H', Ext H H' → Tn H' v (inc d t) → Q v H'
theorem scAfter : FnScope ["done", "thread"] ["done", "thread"] (defScope sAfter) := ⟨rfl, rfl, rfl, by decide +kernel, rfl, by decide +kernel, by decide +kernel⟩
theorem ok_after {f : Addr} {fd : FuncData} (F : Fun K "done_after" "done_after" sAfter f fd) : FnOk P w K mg base CX0 1 f fd ["done", "thread"] spAfter := by
  refine F.ok scAfter (fun vs H Q E h => ?_) (fun cdv A outer s H vs Q E hr h => ?_)
  · obtain ⟨y, d, t, rfl, _⟩ := h
    rfl
  · obtain ⟨y, d, t, rfl, hd, ht, hl, q⟩ := h
    refine ⟨_, pss_one (ps_ret (pe_op op_catS (pe_op op_catS (pe_slice sl_tupS (pv 0) po_none (po_some (pv 1))) (pe_tup (pa_cons (pe_op op_add (pe_ix ix_tup (pv 0) (pv 1) (fun _ _ => rfl)) pe_int) pa_nil)))
      (pe_slice sl_tupS (pv 0) (po_some (pe_op op_add (pv 1) pe_int)) po_none))), ?_⟩
    simp only [tVar, tC, tOp, tUn, tTest, tChain, tNil, tCons, tTup, tLst, tCall, tMeth, tMake, tCB, tIf, tAndV, tOrV, tNotV, tIsN, tNotN, tB, tAnd, tOr, tNot, tNext, tSeq, tDrop, tRet, tRetN, tIfS, tNever, gName, gNil, gCons, gSub, tAsg, tAug, tAugS, ipI, tBM, tBM0, tSl, tNoPart, tPart, tDGet, tDIn, tDNotIn, tDGet1, tDNewT, tDNewK, tYes, rI0, rI, rU, rAdd, rSub, rEq, rNe, L2.start, List.map_cons, List.map_nil, List.length_cons, List.length_nil, List.replicate, List.append_nil, List.nil_append, List.cons_append, List.getElem?_cons_zero, List.getElem?_cons_succ, List.set_cons_zero, List.set_cons_succ, Option.some.injEq, V.int.injEq, V.bl.injEq, V.ref.injEq, V.str.injEq, exists_eq_left', exists_eq_left, exists_and_left, true_and, and_true, Nat.reduceAdd, Nat.reduceSub, Nat.add_one_sub_one, Nat.sub_self, Bool.true_eq_false, Bool.false_eq_true, if_true, if_false, ite_true, ite_false, cxOf, Cx.nox, decide_eq_true_eq, reduceCtorEq, decide_false, decide_true, Bool.not_false, Bool.not_true, eq_self, upd_same, L2.upd_upd, List.cons.injEq, and_assoc]
    refine ⟨_, hd, fun x H1 e1 h1 => ?_⟩
    refine tu_ix t (hd.ext e1) (nI_at (getD_at ht)) ⟨_, rfl, szN (by omega), fun p np => ?_⟩
    have e2 := e1.trans (Ext.new (o := .tup [V.int ((d.getD t 0 : Nat) + 1)]) np)
    have l1 : (cutV (nI d) none (some (t : Int))).length = t := by rw [cut_lo _ (by rw [nI_length]; omega), List.length_take, nI_length]; omega
    have l2 : (cutV (nI d) (some ((t : Int) + 1)) none).length = d.length - (t + 1) := by rw [cut_hi _ (by rw [nI_length]; omega), List.length_drop, nI_length]
    refine ⟨_, _, h1.ext (Ext.new np), ⟨p, rfl, upd_same⟩, szN (by rw [l1]; show t + 1 ≤ 1000; omega), fun x2 H2 e3 h2 => ?_⟩
    refine ⟨_, hd.ext (e2.trans e3), fun y2 H3 e4 h3 => ?_⟩
    refine ⟨_, _, h2.ext e4, h3, szN (by rw [List.length_append, l1, l2]; show t + 1 + (d.length - (t + 1)) ≤ 1000; omega), fun z H4 e5 h4 => q _ _ (((e2.trans e3).trans e4).trans e5) ?_⟩
    rw [cut_lo _ (by rw [nI_length]; omega), cut_hi _ (by rw [nI_length]; omega)] at h4
    have : nI (inc d t) = List.take t (nI d) ++ [V.int ((d.getD t 0 : Nat) + 1)] ++ List.drop (t + 1) (nI d) := by
      unfold inc nI
      rw [List.set_eq_take_append_cons_drop, if_pos ht]
      simp [List.map_take, List.map_drop]
    show Tu H4 z (nI (inc d t))
    rw [this]; exact h4
/-! ### values_after -/
abbrev sVals : Stmt := tx 8
def spVals : Sp := fun vs H Q _ => ∃ x y e st, vs = [x, y] ∧ EnvD H x e ∧ Tu H y (stepV st) ∧ e.length ≤ 3 ∧ (∀ c ∈ tch st, c ∈ dom e) ∧ ∀ v H', Ext H H' → EnvD H' v (app e st) → Q v H'
theorem scVals : FnScope ["values", "step"] ["values", "step"] (defScope sVals) := ⟨rfl, rfl, rfl, by decide +kernel, rfl, by decide +kernel, by decide +kernel⟩
theorem ok_vals {f : Addr} {fd : FuncData} (F : Fun K "values_after" "values_after" sVals f fd) : FnOk P w K mg base CX0 1 f fd ["values", "step"] spVals := by
  refine F.ok scVals (fun vs H Q E h => ?_) (fun cdv A outer s H vs Q E hr h => ?_)
  · obtain ⟨x, y, e, st, rfl, _⟩ := h
    rfl
  · obtain ⟨x, y, e, st, rfl, he, hs, hl, hc, q⟩ := h
    refine ⟨_, pss_cons (ps_if (pt_cmpR op_eq (pe_ix ix_tup (pv 1) pe_int (fun _ _ => rfl)) pe_str (nomark _))
        (pss_one (ps_ret (GX.pe_star (pv 0) (pe_ix ix_tup (pv 1) pe_int (fun _ _ => rfl)) (pe_op op_add (pe_dgetR (hu_of hr) (pv 0) (pe_ix ix_tup (pv 1) pe_int (fun _ _ => rfl))) (pe_ix ix_tup (pv 1) pe_int (fun _ _ => rfl)))))) pss_nil)
      (pss_cons (ps_if (pt_cmpR op_eq (pe_ix ix_tup (pv 1) pe_int (fun _ _ => rfl)) pe_str (nomark _))
        (pss_one (ps_ret (GX.pe_star (pv 0) (pe_ix ix_tup (pv 1) pe_int (fun _ _ => rfl)) (pe_dgetR (hu_of hr) (pv 0) (pe_ix ix_tup (pv 1) pe_int (fun _ _ => rfl)))))) pss_nil)
      (pss_one (ps_ret (pv 0)))), ?_⟩
    simp only [tVar, tC, tOp, tUn, tTest, tChain, tNil, tCons, tTup, tLst, tCall, tMeth, tMake, tCB, tIf, tAndV, tOrV, tNotV, tIsN, tNotN, tB, tAnd, tOr, tNot, tNext, tSeq, tDrop, tRet, tRetN, tIfS, tNever, gName, gNil, gCons, gSub, tAsg, tAug, tAugS, ipI, tBM, tBM0, tSl, tNoPart, tPart, tDGet, tDIn, tDNotIn, tDGet1, tDNewT, tDNewK, tYes, rI0, rI, rU, rAdd, rSub, rEq, rNe, L2.start, List.map_cons, List.map_nil, List.length_cons, List.length_nil, List.replicate, List.append_nil, List.nil_append, List.cons_append, List.getElem?_cons_zero, List.getElem?_cons_succ, List.set_cons_zero, List.set_cons_succ, Option.some.injEq, V.int.injEq, V.bl.injEq, V.ref.injEq, V.str.injEq, exists_eq_left', exists_eq_left, exists_and_left, true_and, and_true, Nat.reduceAdd, Nat.reduceSub, Nat.add_one_sub_one, Nat.sub_self, Bool.true_eq_false, Bool.false_eq_true, if_true, if_false, ite_true, ite_false, cxOf, Cx.nox, decide_eq_true_eq, reduceCtorEq, decide_false, decide_true, Bool.not_false, Bool.not_true, eq_self, upd_same, L2.upd_upd, List.cons.injEq, and_assoc, GX.tStar]
    obtain ⟨o, rfl, ho⟩ := id he
    have key : ∀ p, H p = none → ∀ r, upd H p (.dK (envK e)) r = none → Ext H (upd (upd H p (.dK (envK e))) r (.dK [])) ∧ upd (upd H p (.dK (envK e))) r (.dK []) p = some (.dK (envK e)) ∧
        ∀ c v, c ∈ dom e → Ext H (upd (upd (upd H p (.dK (envK e))) r (.dK [(Sum.inr (nm c), V.int v)])) p (.dK (putK (envK e) (Sum.inr (nm c)) (V.int v)))) ∧
          EnvD (upd (upd (upd H p (.dK (envK e))) r (.dK [(Sum.inr (nm c), V.int v)])) p (.dK (putK (envK e) (Sum.inr (nm c)) (V.int v)))) (.ref p) (eset e c v) := fun p np r nr => by
      have e1 : Ext H (upd H p (.dK (envK e))) := Ext.new np
      have nr' := e1.free nr
      have npr : p ≠ r := ne_of_none (upd_same (H := H) (a := p) (o := .dK (envK e))) nr
      refine ⟨e1.upd nr', by rw [upd_ne npr, upd_same], fun c v hc => ⟨(e1.upd nr').upd np, p, rfl, ?_⟩⟩
      rw [upd_same, envK_put hc]
    have hl' : (envK e).length < sizeLine := Nat.lt_of_le_of_lt (by rw [envK_length]; exact hl) (small1000 (n := 3) (by omega))
    cases st with
    | add c n =>
      refine tu_ix 0 hs rfl ⟨rfl, ?_⟩
      simp only [tVar, tC, tOp, tUn, tTest, tChain, tNil, tCons, tTup, tLst, tCall, tMeth, tMake, tCB, tIf, tAndV, tOrV, tNotV, tIsN, tNotN, tB, tAnd, tOr, tNot, tNext, tSeq, tDrop, tRet, tRetN, tIfS, tNever, gName, gNil, gCons, gSub, tAsg, tAug, tAugS, ipI, tBM, tBM0, tSl, tNoPart, tPart, tDGet, tDIn, tDNotIn, tDGet1, tDNewT, tDNewK, tYes, rI0, rI, rU, rAdd, rSub, rEq, rNe, L2.start, List.map_cons, List.map_nil, List.length_cons, List.length_nil, List.replicate, List.append_nil, List.nil_append, List.cons_append, List.getElem?_cons_zero, List.getElem?_cons_succ, List.set_cons_zero, List.set_cons_succ, Option.some.injEq, V.int.injEq, V.bl.injEq, V.ref.injEq, V.str.injEq, exists_eq_left', exists_eq_left, exists_and_left, true_and, and_true, Nat.reduceAdd, Nat.reduceSub, Nat.add_one_sub_one, Nat.sub_self, Bool.true_eq_false, Bool.false_eq_true, if_true, if_false, ite_true, ite_false, cxOf, Cx.nox, decide_eq_true_eq, reduceCtorEq, decide_false, decide_true, Bool.not_false, Bool.not_true, eq_self, upd_same, L2.upd_upd, List.cons.injEq, and_assoc, s_add_copy, s_add_wait, s_copy_add, s_copy_wait, s_wait_add, s_wait_copy, s_look_add, s_look_copy, s_look_wait]
      intro p np
      have nop : o ≠ p := ne_of_none ho np
      refine ⟨nop, envK e, by rw [upd_ne nop]; exact ho, hl', fun r nr => ?_⟩
      obtain ⟨k1, k2, k3⟩ := key p np r nr
      have hs' := hs.ext k1
      have he' : EnvD _ (V.ref o) e := he.kp k1.kp
      refine tu_ix 1 hs' rfl (tu_ix 1 hs' rfl (dg_env he' (hc c (by simp [tch])) (tu_ix 2 hs' rfl ⟨_, rfl, _, rfl, Sum.inr (nm c), rfl, k2, ?_⟩)))
      obtain ⟨k4, k5⟩ := k3 c (eget e c + n) (hc c (by simp [tch]))
      exact ⟨upd_same, by rw [L2.upd_upd]; exact q _ _ k4 k5⟩
    | copy c b =>
      refine tu_ix 0 hs rfl ⟨rfl, ?_⟩
      simp only [tVar, tC, tOp, tUn, tTest, tChain, tNil, tCons, tTup, tLst, tCall, tMeth, tMake, tCB, tIf, tAndV, tOrV, tNotV, tIsN, tNotN, tB, tAnd, tOr, tNot, tNext, tSeq, tDrop, tRet, tRetN, tIfS, tNever, gName, gNil, gCons, gSub, tAsg, tAug, tAugS, ipI, tBM, tBM0, tSl, tNoPart, tPart, tDGet, tDIn, tDNotIn, tDGet1, tDNewT, tDNewK, tYes, rI0, rI, rU, rAdd, rSub, rEq, rNe, L2.start, List.map_cons, List.map_nil, List.length_cons, List.length_nil, List.replicate, List.append_nil, List.nil_append, List.cons_append, List.getElem?_cons_zero, List.getElem?_cons_succ, List.set_cons_zero, List.set_cons_succ, Option.some.injEq, V.int.injEq, V.bl.injEq, V.ref.injEq, V.str.injEq, exists_eq_left', exists_eq_left, exists_and_left, true_and, and_true, Nat.reduceAdd, Nat.reduceSub, Nat.add_one_sub_one, Nat.sub_self, Bool.true_eq_false, Bool.false_eq_true, if_true, if_false, ite_true, ite_false, cxOf, Cx.nox, decide_eq_true_eq, reduceCtorEq, decide_false, decide_true, Bool.not_false, Bool.not_true, eq_self, upd_same, L2.upd_upd, List.cons.injEq, and_assoc, s_add_copy, s_add_wait, s_copy_add, s_copy_wait, s_wait_add, s_wait_copy, s_look_add, s_look_copy, s_look_wait]
      refine tu_ix 0 hs rfl ⟨rfl, ?_⟩
      simp only [tVar, tC, tOp, tUn, tTest, tChain, tNil, tCons, tTup, tLst, tCall, tMeth, tMake, tCB, tIf, tAndV, tOrV, tNotV, tIsN, tNotN, tB, tAnd, tOr, tNot, tNext, tSeq, tDrop, tRet, tRetN, tIfS, tNever, gName, gNil, gCons, gSub, tAsg, tAug, tAugS, ipI, tBM, tBM0, tSl, tNoPart, tPart, tDGet, tDIn, tDNotIn, tDGet1, tDNewT, tDNewK, tYes, rI0, rI, rU, rAdd, rSub, rEq, rNe, L2.start, List.map_cons, List.map_nil, List.length_cons, List.length_nil, List.replicate, List.append_nil, List.nil_append, List.cons_append, List.getElem?_cons_zero, List.getElem?_cons_succ, List.set_cons_zero, List.set_cons_succ, Option.some.injEq, V.int.injEq, V.bl.injEq, V.ref.injEq, V.str.injEq, exists_eq_left', exists_eq_left, exists_and_left, true_and, and_true, Nat.reduceAdd, Nat.reduceSub, Nat.add_one_sub_one, Nat.sub_self, Bool.true_eq_false, Bool.false_eq_true, if_true, if_false, ite_true, ite_false, cxOf, Cx.nox, decide_eq_true_eq, reduceCtorEq, decide_false, decide_true, Bool.not_false, Bool.not_true, eq_self, upd_same, L2.upd_upd, List.cons.injEq, and_assoc, s_add_copy, s_add_wait, s_copy_add, s_copy_wait, s_wait_add, s_wait_copy, s_look_add, s_look_copy, s_look_wait]
      intro p np
      have nop : o ≠ p := ne_of_none ho np
      refine ⟨nop, envK e, by rw [upd_ne nop]; exact ho, hl', fun r nr => ?_⟩
      obtain ⟨k1, k2, k3⟩ := key p np r nr
      have hs' := hs.ext k1
      have he' : EnvD _ (V.ref o) e := he.kp k1.kp
      refine tu_ix 1 hs' rfl (tu_ix 2 hs' rfl (dg_env he' (hc b (by simp [tch])) ⟨Sum.inr (nm c), rfl, k2, ?_⟩))
      obtain ⟨k4, k5⟩ := k3 c (eget e b) (hc c (by simp [tch]))
      exact ⟨upd_same, by rw [L2.upd_upd]; exact q _ _ k4 k5⟩
    | wait c n =>
      refine tu_ix 0 hs rfl ⟨rfl, ?_⟩
      simp only [tVar, tC, tOp, tUn, tTest, tChain, tNil, tCons, tTup, tLst, tCall, tMeth, tMake, tCB, tIf, tAndV, tOrV, tNotV, tIsN, tNotN, tB, tAnd, tOr, tNot, tNext, tSeq, tDrop, tRet, tRetN, tIfS, tNever, gName, gNil, gCons, gSub, tAsg, tAug, tAugS, ipI, tBM, tBM0, tSl, tNoPart, tPart, tDGet, tDIn, tDNotIn, tDGet1, tDNewT, tDNewK, tYes, rI0, rI, rU, rAdd, rSub, rEq, rNe, L2.start, List.map_cons, List.map_nil, List.length_cons, List.length_nil, List.replicate, List.append_nil, List.nil_append, List.cons_append, List.getElem?_cons_zero, List.getElem?_cons_succ, List.set_cons_zero, List.set_cons_succ, Option.some.injEq, V.int.injEq, V.bl.injEq, V.ref.injEq, V.str.injEq, exists_eq_left', exists_eq_left, exists_and_left, true_and, and_true, Nat.reduceAdd, Nat.reduceSub, Nat.add_one_sub_one, Nat.sub_self, Bool.true_eq_false, Bool.false_eq_true, if_true, if_false, ite_true, ite_false, cxOf, Cx.nox, decide_eq_true_eq, reduceCtorEq, decide_false, decide_true, Bool.not_false, Bool.not_true, eq_self, upd_same, L2.upd_upd, List.cons.injEq, and_assoc, s_add_copy, s_add_wait, s_copy_add, s_copy_wait, s_wait_add, s_wait_copy, s_look_add, s_look_copy, s_look_wait]
      refine tu_ix 0 hs rfl ⟨rfl, ?_⟩
      simp only [tVar, tC, tOp, tUn, tTest, tChain, tNil, tCons, tTup, tLst, tCall, tMeth, tMake, tCB, tIf, tAndV, tOrV, tNotV, tIsN, tNotN, tB, tAnd, tOr, tNot, tNext, tSeq, tDrop, tRet, tRetN, tIfS, tNever, gName, gNil, gCons, gSub, tAsg, tAug, tAugS, ipI, tBM, tBM0, tSl, tNoPart, tPart, tDGet, tDIn, tDNotIn, tDGet1, tDNewT, tDNewK, tYes, rI0, rI, rU, rAdd, rSub, rEq, rNe, L2.start, List.map_cons, List.map_nil, List.length_cons, List.length_nil, List.replicate, List.append_nil, List.nil_append, List.cons_append, List.getElem?_cons_zero, List.getElem?_cons_succ, List.set_cons_zero, List.set_cons_succ, Option.some.injEq, V.int.injEq, V.bl.injEq, V.ref.injEq, V.str.injEq, exists_eq_left', exists_eq_left, exists_and_left, true_and, and_true, Nat.reduceAdd, Nat.reduceSub, Nat.add_one_sub_one, Nat.sub_self, Bool.true_eq_false, Bool.false_eq_true, if_true, if_false, ite_true, ite_false, cxOf, Cx.nox, decide_eq_true_eq, reduceCtorEq, decide_false, decide_true, Bool.not_false, Bool.not_true, eq_self, upd_same, L2.upd_upd, List.cons.injEq, and_assoc, s_add_copy, s_add_wait, s_copy_add, s_copy_wait, s_wait_add, s_wait_copy, s_look_add, s_look_copy, s_look_wait]
      exact q _ _ (Ext.refl H) he
    | look c =>
      refine tu_ix 0 hs rfl ⟨rfl, ?_⟩
      simp only [tVar, tC, tOp, tUn, tTest, tChain, tNil, tCons, tTup, tLst, tCall, tMeth, tMake, tCB, tIf, tAndV, tOrV, tNotV, tIsN, tNotN, tB, tAnd, tOr, tNot, tNext, tSeq, tDrop, tRet, tRetN, tIfS, tNever, gName, gNil, gCons, gSub, tAsg, tAug, tAugS, ipI, tBM, tBM0, tSl, tNoPart, tPart, tDGet, tDIn, tDNotIn, tDGet1, tDNewT, tDNewK, tYes, rI0, rI, rU, rAdd, rSub, rEq, rNe, L2.start, List.map_cons, List.map_nil, List.length_cons, List.length_nil, List.replicate, List.append_nil, List.nil_append, List.cons_append, List.getElem?_cons_zero, List.getElem?_cons_succ, List.set_cons_zero, List.set_cons_succ, Option.some.injEq, V.int.injEq, V.bl.injEq, V.ref.injEq, V.str.injEq, exists_eq_left', exists_eq_left, exists_and_left, true_and, and_true, Nat.reduceAdd, Nat.reduceSub, Nat.add_one_sub_one, Nat.sub_self, Bool.true_eq_false, Bool.false_eq_true, if_true, if_false, ite_true, ite_false, cxOf, Cx.nox, decide_eq_true_eq, reduceCtorEq, decide_false, decide_true, Bool.not_false, Bool.not_true, eq_self, upd_same, L2.upd_upd, List.cons.injEq, and_assoc, s_add_copy, s_add_wait, s_copy_add, s_copy_wait, s_wait_add, s_wait_copy, s_look_add, s_look_copy, s_look_wait]
      refine tu_ix 0 hs rfl ⟨rfl, ?_⟩
      simp only [tVar, tC, tOp, tUn, tTest, tChain, tNil, tCons, tTup, tLst, tCall, tMeth, tMake, tCB, tIf, tAndV, tOrV, tNotV, tIsN, tNotN, tB, tAnd, tOr, tNot, tNext, tSeq, tDrop, tRet, tRetN, tIfS, tNever, gName, gNil, gCons, gSub, tAsg, tAug, tAugS, ipI, tBM, tBM0, tSl, tNoPart, tPart, tDGet, tDIn, tDNotIn, tDGet1, tDNewT, tDNewK, tYes, rI0, rI, rU, rAdd, rSub, rEq, rNe, L2.start, List.map_cons, List.map_nil, List.length_cons, List.length_nil, List.replicate, List.append_nil, List.nil_append, List.cons_append, List.getElem?_cons_zero, List.getElem?_cons_succ, List.set_cons_zero, List.set_cons_succ, Option.some.injEq, V.int.injEq, V.bl.injEq, V.ref.injEq, V.str.injEq, exists_eq_left', exists_eq_left, exists_and_left, true_and, and_true, Nat.reduceAdd, Nat.reduceSub, Nat.add_one_sub_one, Nat.sub_self, Bool.true_eq_false, Bool.false_eq_true, if_true, if_false, ite_true, ite_false, cxOf, Cx.nox, decide_eq_true_eq, reduceCtorEq, decide_false, decide_true, Bool.not_false, Bool.not_true, eq_self, upd_same, L2.upd_upd, List.cons.injEq, and_assoc, s_add_copy, s_add_wait, s_copy_add, s_copy_wait, s_wait_add, s_wait_copy, s_look_add, s_look_copy, s_look_wait]
      exact q _ _ (Ext.refl H) he
end
end TW

set_option maxHeartbeats 8000000
/-! TwD: touched, are_dependent, hang_together. -/
namespace TW
open PySem PySem.Spec PyProof.Rows L2
open TC hiding Step Env
theorem join_mem (c : Nat) : ∀ {ys : List (List Nat)}, c ∈ TL.joinL [] ys ↔ ∃ y ∈ ys, c ∈ y
  | [] => by simp [TL.joinL]
  | [p] => by simp [TL.joinL]
  | p :: q :: r => by
    have ih := join_mem c (ys := q :: r)
    rw [TL.joinL, List.mem_append, List.mem_append, ih]
    simp
theorem tjoin_mem (c : Nat) (ys : List Str) : c ∈ (Txt.join (Str.ofString "") ys).cps.toList ↔ ∃ y ∈ ys, c ∈ y.cps.toList := by
  have h1 := TL.tl_join (Str.ofString "") ys
  have h2 : Txt.join (Str.ofString "") ys = Str.join (Str.ofString "") ys := TL.join_eq _ _
  rw [h2]
  have h3 : (Str.join (Str.ofString "") ys).cps.toList = TL.joinL [] (ys.map TL.tl) := h1
  rw [h3, join_mem]
  constructor
  · rintro ⟨y, hy, hc⟩
    obtain ⟨z, hz, rfl⟩ := List.mem_map.mp hy
    exact ⟨z, hz, hc⟩
  · rintro ⟨y, hy, hc⟩
    exact ⟨_, List.mem_map.mpr ⟨y, hy, rfl⟩, hc⟩
def chgS (s : TC.Step) : Str := match chg s with
  | some x => nm x
  | none => Str.ofString ""
theorem nm_ne (x : Nat) : (nm x = Str.ofString "") = False := eq_false fun h => by
  have := congrArg (fun z : Str => z.cps.size) h
  have e : (Str.ofString "").cps.size = 0 := by decide +kernel
  simp only [e] at this
  simp [nm] at this
theorem sum_ones : ∀ {ys : List Str}, (∀ y ∈ ys, y.length ≤ 1) → (ys.map fun x : Str => x.length).sum ≤ ys.length
  | [], _ => Nat.le_refl 0
  | y :: ys, h => by
    have h1 := h y List.mem_cons_self
    have h2 := sum_ones fun z hz => h z (List.mem_cons_of_mem _ hz)
    rw [List.map_cons, List.sum_cons, List.length_cons]
    omega
/-- a tuple is taken apart -/
theorem tu_tgt {K : PySem.W.Frag} {n : Nat} {t : TGs} {H : Hp} {v : V} {xs : List V} {σ : L2.St} {Q : L2.St → Hp → Prop} (h : Tu H v xs) (q : t xs σ H Q) (hn : xs.length = n := by rfl) : gTup K n t v σ H Q := by
  obtain ⟨a, rfl, ha⟩ := h
  exact ⟨a, xs, rfl, SqT.of ha, hn, q⟩
section
variable {P : Program} {w : World} {K : PySem.W.Frag} {mg : Str → Option Value} {base : Heap}
abbrev sTouch : Stmt := tx 4
def spTouch : Sp := fun vs H Q _ => ∃ x st, vs = [x] ∧ Tu H x (stepV st) ∧ ∀ v H' z, Ext H H' → (∀ c, c ∈ z.cps.toList ↔ c ∈ tch st) → Tu H' v [.str z, .str (chgS st)] → Q v H'
theorem scTouch : FnScope ["step"] ["step"] (defScope sTouch) := ⟨rfl, rfl, rfl, by decide +kernel, rfl, by decide +kernel, by decide +kernel⟩
theorem ok_touch {f : Addr} {fd : FuncData} (F : Fun K "touched" "touched" sTouch f fd) (B : Bt mg) : FnOk P w K mg base CX0 1 f fd ["step"] spTouch := by
  refine F.ok scTouch (fun vs H Q E h => ?_) (fun cdv A outer s H vs Q E hr h => ?_)
  · obtain ⟨x, st, rfl, _⟩ := h
    rfl
  · obtain ⟨x, st, rfl, hs, q⟩ := h
    refine ⟨_, pss_cons (ps_if (pt_cmpR op_eq (pe_ix ix_tup (pv 0) pe_int (fun _ _ => rfl)) pe_str (nomark _))
        (pss_one (ps_ret (pe_tup (pa_cons (pe_bm PySem.F.plainAttrs_str PySem.F.slot_str_join PySem.F.type_str_join mt_join pe_str (pa_cons (pe_callB (GX.cr_sortX rfl) (by rfl) B.sorted (by decide +kernel) (pa_cons (pe_callTy (GX.cr_setX rfl) (by rfl) B.set (by decide +kernel) (pa_cons (pe_slice sl_tupS (pv 0) (po_some pe_int) po_none) pa_nil)) pa_nil)) pa_nil))
          (pa_cons (pe_ix ix_tup (pv 0) pe_int (fun _ _ => rfl)) pa_nil))))) pss_nil)
      (pss_one (ps_ret (pe_tup (pa_cons (pe_ix ix_tup (pv 0) pe_int (fun _ _ => rfl)) (pa_cons (pe_ifExp (pt_cmpR op_eq (pe_ix ix_tup (pv 0) pe_int (fun _ _ => rfl)) pe_str (nomark _)) (pe_ix ix_tup (pv 0) pe_int (fun _ _ => rfl)) pe_str) pa_nil))))), ?_⟩
    simp only [tVar, tC, tOp, tUn, tTest, tChain, tNil, tCons, tTup, tLst, tCall, tMeth, tMake, tCB, tIf, tAndV, tOrV, tNotV, tIsN, tNotN, tB, tAnd, tOr, tNot, tNext, tSeq, tDrop, tRet, tRetN, tIfS, tNever, gName, gNil, gCons, gSub, tAsg, tAug, tAugS, ipI, tBM, tBM0, tSl, tNoPart, tPart, tDGet, tDIn, tDNotIn, tDGet1, tDNewT, tDNewK, tYes, rI0, rI, rU, rAdd, rSub, rEq, rNe, L2.start, List.map_cons, List.map_nil, List.length_cons, List.length_nil, List.replicate, List.append_nil, List.nil_append, List.cons_append, List.getElem?_cons_zero, List.getElem?_cons_succ, List.set_cons_zero, List.set_cons_succ, Option.some.injEq, V.int.injEq, V.bl.injEq, V.ref.injEq, V.str.injEq, exists_eq_left', exists_eq_left, exists_and_left, true_and, and_true, Nat.reduceAdd, Nat.reduceSub, Nat.add_one_sub_one, Nat.sub_self, Bool.true_eq_false, Bool.false_eq_true, if_true, if_false, ite_true, ite_false, cxOf, Cx.nox, decide_eq_true_eq, reduceCtorEq, decide_false, decide_true, Bool.not_false, Bool.not_true, eq_self, upd_same, L2.upd_upd, List.cons.injEq, and_assoc]
    cases st with
    | copy a b =>
      refine tu_ix 0 hs rfl ⟨rfl, ?_⟩
      simp only [tVar, tC, tOp, tUn, tTest, tChain, tNil, tCons, tTup, tLst, tCall, tMeth, tMake, tCB, tIf, tAndV, tOrV, tNotV, tIsN, tNotN, tB, tAnd, tOr, tNot, tNext, tSeq, tDrop, tRet, tRetN, tIfS, tNever, gName, gNil, gCons, gSub, tAsg, tAug, tAugS, ipI, tBM, tBM0, tSl, tNoPart, tPart, tDGet, tDIn, tDNotIn, tDGet1, tDNewT, tDNewK, tYes, rI0, rI, rU, rAdd, rSub, rEq, rNe, L2.start, List.map_cons, List.map_nil, List.length_cons, List.length_nil, List.replicate, List.append_nil, List.nil_append, List.cons_append, List.getElem?_cons_zero, List.getElem?_cons_succ, List.set_cons_zero, List.set_cons_succ, Option.some.injEq, V.int.injEq, V.bl.injEq, V.ref.injEq, V.str.injEq, exists_eq_left', exists_eq_left, exists_and_left, true_and, and_true, Nat.reduceAdd, Nat.reduceSub, Nat.add_one_sub_one, Nat.sub_self, Bool.true_eq_false, Bool.false_eq_true, if_true, if_false, ite_true, ite_false, cxOf, Cx.nox, decide_eq_true_eq, reduceCtorEq, decide_false, decide_true, Bool.not_false, Bool.not_true, eq_self, upd_same, L2.upd_upd, List.cons.injEq, and_assoc, s_add_copy, s_add_wait, s_copy_add, s_copy_wait, s_wait_add, s_wait_copy, s_look_add, s_look_copy, s_look_wait]
      refine ⟨rfl, _, hs, fun y1 H1 e1 h1 => ?_⟩
      have hcut : cutV (stepV (.copy a b)) (some 1) none = [nm a, nm b].map V.str := rfl
      rw [hcut] at h1
      obtain ⟨p1, rfl, g1⟩ := id h1
      refine ⟨p1, [nm a, nm b], rfl, SqT.of g1, (by show 2 < 60; omega), fun p2 S n hS hn np2 => ?_⟩
      have e2 := e1.trans (Ext.new (o := GX.SetXO P w p2 S n) np2)
      refine ⟨p2, S, n, rfl, upd_same, Nat.lt_of_le_of_lt hn (by show 2 < 64; omega), fun ys p3 hys hyl np3 => ?_⟩
      have e3 := e2.trans (Ext.new (o := .lst (ys.map V.str)) np3)
      have hy1 : ∀ y ∈ ys, y = nm a ∨ y = nm b := fun y hy => by
        have := (hS y).mp ((hys y).mp hy)
        simpa using this
      refine ⟨p3, rfl, ys, .inl (SqL.of upd_same), ?_, tu_ix 1 (hs.ext e3) rfl ⟨szN (by decide), fun p4 np4 => ?_⟩⟩
      · have h2 : ys.length ≤ 2 := Nat.le_trans hyl hn
        have h3 : (ys.map fun x : Str => x.length).sum ≤ ys.length := sum_ones fun y hy => by
          rcases hy1 y hy with z | z <;> rw [z] <;> exact Nat.le_refl 1
        have h4 : (Str.ofString "").length = 0 := by decide +kernel
        rw [h4]
        omega
      · refine q _ _ _ (e3.trans (Ext.new np4)) (fun c => ?_) ⟨p4, rfl, upd_same⟩
        rw [tjoin_mem]
        constructor
        · rintro ⟨y, hy, hc⟩
          rcases hy1 y hy with z | z
          · rw [z] at hc
            have : c = a := by simpa [nm] using hc
            subst this; simp [tch]
          · rw [z] at hc
            have : c = b := by simpa [nm] using hc
            subst this; simp [tch]
        · intro hc
          have hc : c = a ∨ c = b := by simpa [tch] using hc
          have hin : ∀ z, z = nm a ∨ z = nm b → z ∈ ys := fun z hz => (hys z).mpr ((hS z).mpr (by simpa using hz))
          rcases hc with rfl | rfl
          · exact ⟨nm c, hin _ (.inl rfl), by simp [nm]⟩
          · exact ⟨nm c, hin _ (.inr rfl), by simp [nm]⟩
    | add a n =>
      refine tu_ix 0 hs rfl ⟨rfl, ?_⟩
      simp only [tVar, tC, tOp, tUn, tTest, tChain, tNil, tCons, tTup, tLst, tCall, tMeth, tMake, tCB, tIf, tAndV, tOrV, tNotV, tIsN, tNotN, tB, tAnd, tOr, tNot, tNext, tSeq, tDrop, tRet, tRetN, tIfS, tNever, gName, gNil, gCons, gSub, tAsg, tAug, tAugS, ipI, tBM, tBM0, tSl, tNoPart, tPart, tDGet, tDIn, tDNotIn, tDGet1, tDNewT, tDNewK, tYes, rI0, rI, rU, rAdd, rSub, rEq, rNe, L2.start, List.map_cons, List.map_nil, List.length_cons, List.length_nil, List.replicate, List.append_nil, List.nil_append, List.cons_append, List.getElem?_cons_zero, List.getElem?_cons_succ, List.set_cons_zero, List.set_cons_succ, Option.some.injEq, V.int.injEq, V.bl.injEq, V.ref.injEq, V.str.injEq, exists_eq_left', exists_eq_left, exists_and_left, true_and, and_true, Nat.reduceAdd, Nat.reduceSub, Nat.add_one_sub_one, Nat.sub_self, Bool.true_eq_false, Bool.false_eq_true, if_true, if_false, ite_true, ite_false, cxOf, Cx.nox, decide_eq_true_eq, reduceCtorEq, decide_false, decide_true, Bool.not_false, Bool.not_true, eq_self, upd_same, L2.upd_upd, List.cons.injEq, and_assoc, s_add_copy, s_add_wait, s_copy_add, s_copy_wait, s_wait_add, s_wait_copy, s_look_add, s_look_copy, s_look_wait]
      refine tu_ix 1 hs rfl (tu_ix 0 hs rfl ⟨rfl, ?_⟩)
      simp only [tVar, tC, tOp, tUn, tTest, tChain, tNil, tCons, tTup, tLst, tCall, tMeth, tMake, tCB, tIf, tAndV, tOrV, tNotV, tIsN, tNotN, tB, tAnd, tOr, tNot, tNext, tSeq, tDrop, tRet, tRetN, tIfS, tNever, gName, gNil, gCons, gSub, tAsg, tAug, tAugS, ipI, tBM, tBM0, tSl, tNoPart, tPart, tDGet, tDIn, tDNotIn, tDGet1, tDNewT, tDNewK, tYes, rI0, rI, rU, rAdd, rSub, rEq, rNe, L2.start, List.map_cons, List.map_nil, List.length_cons, List.length_nil, List.replicate, List.append_nil, List.nil_append, List.cons_append, List.getElem?_cons_zero, List.getElem?_cons_succ, List.set_cons_zero, List.set_cons_succ, Option.some.injEq, V.int.injEq, V.bl.injEq, V.ref.injEq, V.str.injEq, exists_eq_left', exists_eq_left, exists_and_left, true_and, and_true, Nat.reduceAdd, Nat.reduceSub, Nat.add_one_sub_one, Nat.sub_self, Bool.true_eq_false, Bool.false_eq_true, if_true, if_false, ite_true, ite_false, cxOf, Cx.nox, decide_eq_true_eq, reduceCtorEq, decide_false, decide_true, Bool.not_false, Bool.not_true, eq_self, upd_same, L2.upd_upd, List.cons.injEq, and_assoc, s_add_copy, s_add_wait, s_copy_add, s_copy_wait, s_wait_add, s_wait_copy, s_look_add, s_look_copy, s_look_wait]
      refine tu_ix 1 hs rfl ⟨szN (by decide), fun p np => q _ _ _ (Ext.new np) (fun c => ?_) ⟨p, rfl, upd_same⟩⟩
      simp [nm, tch]
    | wait a n =>
      refine tu_ix 0 hs rfl ⟨rfl, ?_⟩
      simp only [tVar, tC, tOp, tUn, tTest, tChain, tNil, tCons, tTup, tLst, tCall, tMeth, tMake, tCB, tIf, tAndV, tOrV, tNotV, tIsN, tNotN, tB, tAnd, tOr, tNot, tNext, tSeq, tDrop, tRet, tRetN, tIfS, tNever, gName, gNil, gCons, gSub, tAsg, tAug, tAugS, ipI, tBM, tBM0, tSl, tNoPart, tPart, tDGet, tDIn, tDNotIn, tDGet1, tDNewT, tDNewK, tYes, rI0, rI, rU, rAdd, rSub, rEq, rNe, L2.start, List.map_cons, List.map_nil, List.length_cons, List.length_nil, List.replicate, List.append_nil, List.nil_append, List.cons_append, List.getElem?_cons_zero, List.getElem?_cons_succ, List.set_cons_zero, List.set_cons_succ, Option.some.injEq, V.int.injEq, V.bl.injEq, V.ref.injEq, V.str.injEq, exists_eq_left', exists_eq_left, exists_and_left, true_and, and_true, Nat.reduceAdd, Nat.reduceSub, Nat.add_one_sub_one, Nat.sub_self, Bool.true_eq_false, Bool.false_eq_true, if_true, if_false, ite_true, ite_false, cxOf, Cx.nox, decide_eq_true_eq, reduceCtorEq, decide_false, decide_true, Bool.not_false, Bool.not_true, eq_self, upd_same, L2.upd_upd, List.cons.injEq, and_assoc, s_add_copy, s_add_wait, s_copy_add, s_copy_wait, s_wait_add, s_wait_copy, s_look_add, s_look_copy, s_look_wait]
      refine tu_ix 1 hs rfl (tu_ix 0 hs rfl ⟨rfl, ?_⟩)
      simp only [tVar, tC, tOp, tUn, tTest, tChain, tNil, tCons, tTup, tLst, tCall, tMeth, tMake, tCB, tIf, tAndV, tOrV, tNotV, tIsN, tNotN, tB, tAnd, tOr, tNot, tNext, tSeq, tDrop, tRet, tRetN, tIfS, tNever, gName, gNil, gCons, gSub, tAsg, tAug, tAugS, ipI, tBM, tBM0, tSl, tNoPart, tPart, tDGet, tDIn, tDNotIn, tDGet1, tDNewT, tDNewK, tYes, rI0, rI, rU, rAdd, rSub, rEq, rNe, L2.start, List.map_cons, List.map_nil, List.length_cons, List.length_nil, List.replicate, List.append_nil, List.nil_append, List.cons_append, List.getElem?_cons_zero, List.getElem?_cons_succ, List.set_cons_zero, List.set_cons_succ, Option.some.injEq, V.int.injEq, V.bl.injEq, V.ref.injEq, V.str.injEq, exists_eq_left', exists_eq_left, exists_and_left, true_and, and_true, Nat.reduceAdd, Nat.reduceSub, Nat.add_one_sub_one, Nat.sub_self, Bool.true_eq_false, Bool.false_eq_true, if_true, if_false, ite_true, ite_false, cxOf, Cx.nox, decide_eq_true_eq, reduceCtorEq, decide_false, decide_true, Bool.not_false, Bool.not_true, eq_self, upd_same, L2.upd_upd, List.cons.injEq, and_assoc, s_add_copy, s_add_wait, s_copy_add, s_copy_wait, s_wait_add, s_wait_copy, s_look_add, s_look_copy, s_look_wait]
      refine ⟨szN (by decide), fun p np => q _ _ _ (Ext.new np) (fun c => ?_) ⟨p, rfl, upd_same⟩⟩
      simp [nm, tch]
    | look a =>
      refine tu_ix 0 hs rfl ⟨rfl, ?_⟩
      simp only [tVar, tC, tOp, tUn, tTest, tChain, tNil, tCons, tTup, tLst, tCall, tMeth, tMake, tCB, tIf, tAndV, tOrV, tNotV, tIsN, tNotN, tB, tAnd, tOr, tNot, tNext, tSeq, tDrop, tRet, tRetN, tIfS, tNever, gName, gNil, gCons, gSub, tAsg, tAug, tAugS, ipI, tBM, tBM0, tSl, tNoPart, tPart, tDGet, tDIn, tDNotIn, tDGet1, tDNewT, tDNewK, tYes, rI0, rI, rU, rAdd, rSub, rEq, rNe, L2.start, List.map_cons, List.map_nil, List.length_cons, List.length_nil, List.replicate, List.append_nil, List.nil_append, List.cons_append, List.getElem?_cons_zero, List.getElem?_cons_succ, List.set_cons_zero, List.set_cons_succ, Option.some.injEq, V.int.injEq, V.bl.injEq, V.ref.injEq, V.str.injEq, exists_eq_left', exists_eq_left, exists_and_left, true_and, and_true, Nat.reduceAdd, Nat.reduceSub, Nat.add_one_sub_one, Nat.sub_self, Bool.true_eq_false, Bool.false_eq_true, if_true, if_false, ite_true, ite_false, cxOf, Cx.nox, decide_eq_true_eq, reduceCtorEq, decide_false, decide_true, Bool.not_false, Bool.not_true, eq_self, upd_same, L2.upd_upd, List.cons.injEq, and_assoc, s_add_copy, s_add_wait, s_copy_add, s_copy_wait, s_wait_add, s_wait_copy, s_look_add, s_look_copy, s_look_wait]
      refine tu_ix 1 hs rfl (tu_ix 0 hs rfl ⟨rfl, ?_⟩)
      simp only [tVar, tC, tOp, tUn, tTest, tChain, tNil, tCons, tTup, tLst, tCall, tMeth, tMake, tCB, tIf, tAndV, tOrV, tNotV, tIsN, tNotN, tB, tAnd, tOr, tNot, tNext, tSeq, tDrop, tRet, tRetN, tIfS, tNever, gName, gNil, gCons, gSub, tAsg, tAug, tAugS, ipI, tBM, tBM0, tSl, tNoPart, tPart, tDGet, tDIn, tDNotIn, tDGet1, tDNewT, tDNewK, tYes, rI0, rI, rU, rAdd, rSub, rEq, rNe, L2.start, List.map_cons, List.map_nil, List.length_cons, List.length_nil, List.replicate, List.append_nil, List.nil_append, List.cons_append, List.getElem?_cons_zero, List.getElem?_cons_succ, List.set_cons_zero, List.set_cons_succ, Option.some.injEq, V.int.injEq, V.bl.injEq, V.ref.injEq, V.str.injEq, exists_eq_left', exists_eq_left, exists_and_left, true_and, and_true, Nat.reduceAdd, Nat.reduceSub, Nat.add_one_sub_one, Nat.sub_self, Bool.true_eq_false, Bool.false_eq_true, if_true, if_false, ite_true, ite_false, cxOf, Cx.nox, decide_eq_true_eq, reduceCtorEq, decide_false, decide_true, Bool.not_false, Bool.not_true, eq_self, upd_same, L2.upd_upd, List.cons.injEq, and_assoc, s_add_copy, s_add_wait, s_copy_add, s_copy_wait, s_wait_add, s_wait_copy, s_look_add, s_look_copy, s_look_wait]
      refine ⟨szN (by decide), fun p np => q _ _ _ (Ext.new np) (fun c => ?_) ⟨p, rfl, upd_same⟩⟩
      simp [nm, tch]
/-! ### are_dependent -/
abbrev CTouch (P : Program) (w : World) (K : PySem.W.Frag) (mg : Str → Option Value) (base : Heap) : Prop := Cal P w K mg base 1 "touched" ["step"] spTouch
abbrev sDep : Stmt := tx 5
def spDep : Sp := fun vs H Q _ => ∃ x y a b, vs = [x, y] ∧ Tu H x (stepV a) ∧ Tu H y (stepV b) ∧ ∀ H', Ext H H' → Q (.bl (dep a b)) H'
theorem scDep : FnScope ["one", "other", "touches", "changes", "names", "changed"] ["one", "other"] (defScope sDep) := ⟨rfl, rfl, rfl, by decide +kernel, rfl, by decide +kernel, by decide +kernel⟩
theorem ok_dep {f : Addr} {fd : FuncData} (F : Fun K "are_dependent" "are_dependent" sDep f fd) (c1 : CTouch P w K mg base) : FnOk P w K mg base CX0 2 f fd ["one", "other"] spDep := by
  refine F.ok scDep (fun vs H Q E h => ?_) (fun cdv A outer s H vs Q E hr h => ?_)
  · obtain ⟨x, y, a, b, rfl, _⟩ := h
    rfl
  · obtain ⟨x, y, a, b, rfl, ha, hb, q⟩ := h
    refine ⟨_, pss_cons (ps_asg (pe_cal c1 hr rfl (pa_cons (pv 0) pa_nil)) (pg_tup rfl (pgs_cons (pg_name (i := 2) scDep.nd rfl (.inl rfl)) (pgs_cons (pg_name (i := 3) scDep.nd rfl (.inl rfl)) pgs_nil))))
      (pss_cons (ps_asg (pe_cal c1 hr rfl (pa_cons (pv 1) pa_nil)) (pg_tup rfl (pgs_cons (pg_name (i := 4) scDep.nd rfl (.inl rfl)) (pgs_cons (pg_name (i := 5) scDep.nd rfl (.inl rfl)) pgs_nil))))
      (pss_one (ps_ret (pe_or (pe_and (pe_cmpR op_ne (pv 3) pe_str (nomark _)) (pe_one (pe_cmpR op_in_sign (pv 3) (pv 4) rfl)))
        (pe_one (pe_and (pe_cmpR op_ne (pv 5) pe_str (nomark _)) (pe_one (pe_cmpR op_in_sign (pv 5) (pv 2) rfl)))))))), ?_⟩
    simp only [tVar, tC, tOp, tUn, tTest, tChain, tNil, tCons, tTup, tLst, tCall, tMeth, tMake, tCB, tIf, tAndV, tOrV, tNotV, tIsN, tNotN, tB, tAnd, tOr, tNot, tNext, tSeq, tDrop, tRet, tRetN, tIfS, tNever, gName, gNil, gCons, gSub, tAsg, tAug, tAugS, ipI, tBM, tBM0, tSl, tNoPart, tPart, tDGet, tDIn, tDNotIn, tDGet1, tDNewT, tDNewK, tYes, rI0, rI, rU, rAdd, rSub, rEq, rNe, L2.start, List.map_cons, List.map_nil, List.length_cons, List.length_nil, List.replicate, List.append_nil, List.nil_append, List.cons_append, List.getElem?_cons_zero, List.getElem?_cons_succ, List.set_cons_zero, List.set_cons_succ, Option.some.injEq, V.int.injEq, V.bl.injEq, V.ref.injEq, V.str.injEq, exists_eq_left', exists_eq_left, exists_and_left, true_and, and_true, Nat.reduceAdd, Nat.reduceSub, Nat.add_one_sub_one, Nat.sub_self, Bool.true_eq_false, Bool.false_eq_true, if_true, if_false, ite_true, ite_false, cxOf, Cx.nox, decide_eq_true_eq, reduceCtorEq, decide_false, decide_true, Bool.not_false, Bool.not_true, eq_self, upd_same, L2.upd_upd, List.cons.injEq, and_assoc]
    refine ⟨x, a, rfl, ha, fun v H1 z e1 hz hv => ?_⟩
    refine tu_tgt hv ?_
    simp only [tVar, tC, tOp, tUn, tTest, tChain, tNil, tCons, tTup, tLst, tCall, tMeth, tMake, tCB, tIf, tAndV, tOrV, tNotV, tIsN, tNotN, tB, tAnd, tOr, tNot, tNext, tSeq, tDrop, tRet, tRetN, tIfS, tNever, gName, gNil, gCons, gSub, tAsg, tAug, tAugS, ipI, tBM, tBM0, tSl, tNoPart, tPart, tDGet, tDIn, tDNotIn, tDGet1, tDNewT, tDNewK, tYes, rI0, rI, rU, rAdd, rSub, rEq, rNe, L2.start, List.map_cons, List.map_nil, List.length_cons, List.length_nil, List.replicate, List.append_nil, List.nil_append, List.cons_append, List.getElem?_cons_zero, List.getElem?_cons_succ, List.set_cons_zero, List.set_cons_succ, Option.some.injEq, V.int.injEq, V.bl.injEq, V.ref.injEq, V.str.injEq, exists_eq_left', exists_eq_left, exists_and_left, true_and, and_true, Nat.reduceAdd, Nat.reduceSub, Nat.add_one_sub_one, Nat.sub_self, Bool.true_eq_false, Bool.false_eq_true, if_true, if_false, ite_true, ite_false, cxOf, Cx.nox, decide_eq_true_eq, reduceCtorEq, decide_false, decide_true, Bool.not_false, Bool.not_true, eq_self, upd_same, L2.upd_upd, List.cons.injEq, and_assoc]
    refine ⟨y, b, rfl, hb.ext e1, fun v' H2 z' e2 hz' hv' => tu_tgt hv' ?_⟩
    simp only [tVar, tC, tOp, tUn, tTest, tChain, tNil, tCons, tTup, tLst, tCall, tMeth, tMake, tCB, tIf, tAndV, tOrV, tNotV, tIsN, tNotN, tB, tAnd, tOr, tNot, tNext, tSeq, tDrop, tRet, tRetN, tIfS, tNever, gName, gNil, gCons, gSub, tAsg, tAug, tAugS, ipI, tBM, tBM0, tSl, tNoPart, tPart, tDGet, tDIn, tDNotIn, tDGet1, tDNewT, tDNewK, tYes, rI0, rI, rU, rAdd, rSub, rEq, rNe, L2.start, List.map_cons, List.map_nil, List.length_cons, List.length_nil, List.replicate, List.append_nil, List.nil_append, List.cons_append, List.getElem?_cons_zero, List.getElem?_cons_succ, List.set_cons_zero, List.set_cons_succ, Option.some.injEq, V.int.injEq, V.bl.injEq, V.ref.injEq, V.str.injEq, exists_eq_left', exists_eq_left, exists_and_left, true_and, and_true, Nat.reduceAdd, Nat.reduceSub, Nat.add_one_sub_one, Nat.sub_self, Bool.true_eq_false, Bool.false_eq_true, if_true, if_false, ite_true, ite_false, cxOf, Cx.nox, decide_eq_true_eq, reduceCtorEq, decide_false, decide_true, Bool.not_false, Bool.not_true, eq_self, upd_same, L2.upd_upd, List.cons.injEq, and_assoc]
    have hq := q H2 (e1.trans e2)
    unfold dep at hq
    refine ⟨rfl, ?_⟩
    have two : Q (.bl (hit (chg b) (tch a))) H2 → scal (V.str (chgS b)) (V.str (Str.ofString "")) = true ∧ if (!decide (chgS b = Str.ofString "")) = true then ∃ c, chgS b = { cps := #[c] } ∧ Q (V.bl (decide (c ∈ z.cps.toList))) H2 else Q (V.bl false) H2 := fun k => by
      refine ⟨rfl, ?_⟩
      cases cb : chg b with
      | some c =>
        have ec : chgS b = nm c := by unfold chgS; rw [cb]
        rw [ec]
        simp only [tVar, tC, tOp, tUn, tTest, tChain, tNil, tCons, tTup, tLst, tCall, tMeth, tMake, tCB, tIf, tAndV, tOrV, tNotV, tIsN, tNotN, tB, tAnd, tOr, tNot, tNext, tSeq, tDrop, tRet, tRetN, tIfS, tNever, gName, gNil, gCons, gSub, tAsg, tAug, tAugS, ipI, tBM, tBM0, tSl, tNoPart, tPart, tDGet, tDIn, tDNotIn, tDGet1, tDNewT, tDNewK, tYes, rI0, rI, rU, rAdd, rSub, rEq, rNe, L2.start, List.map_cons, List.map_nil, List.length_cons, List.length_nil, List.replicate, List.append_nil, List.nil_append, List.cons_append, List.getElem?_cons_zero, List.getElem?_cons_succ, List.set_cons_zero, List.set_cons_succ, Option.some.injEq, V.int.injEq, V.bl.injEq, V.ref.injEq, V.str.injEq, exists_eq_left', exists_eq_left, exists_and_left, true_and, and_true, Nat.reduceAdd, Nat.reduceSub, Nat.add_one_sub_one, Nat.sub_self, Bool.true_eq_false, Bool.false_eq_true, if_true, if_false, ite_true, ite_false, cxOf, Cx.nox, decide_eq_true_eq, reduceCtorEq, decide_false, decide_true, Bool.not_false, Bool.not_true, eq_self, upd_same, L2.upd_upd, List.cons.injEq, and_assoc, nm_ne]
        refine ⟨c, rfl, ?_⟩
        rw [cb] at k
        have : decide (c ∈ z.cps.toList) = hit (some c) (tch a) := decide_eq_decide.mpr (hz c)
        rw [this]; exact k
      | none =>
        have ec : chgS b = Str.ofString "" := by unfold chgS; rw [cb]
        rw [ec]
        simp only [tVar, tC, tOp, tUn, tTest, tChain, tNil, tCons, tTup, tLst, tCall, tMeth, tMake, tCB, tIf, tAndV, tOrV, tNotV, tIsN, tNotN, tB, tAnd, tOr, tNot, tNext, tSeq, tDrop, tRet, tRetN, tIfS, tNever, gName, gNil, gCons, gSub, tAsg, tAug, tAugS, ipI, tBM, tBM0, tSl, tNoPart, tPart, tDGet, tDIn, tDNotIn, tDGet1, tDNewT, tDNewK, tYes, rI0, rI, rU, rAdd, rSub, rEq, rNe, L2.start, List.map_cons, List.map_nil, List.length_cons, List.length_nil, List.replicate, List.append_nil, List.nil_append, List.cons_append, List.getElem?_cons_zero, List.getElem?_cons_succ, List.set_cons_zero, List.set_cons_succ, Option.some.injEq, V.int.injEq, V.bl.injEq, V.ref.injEq, V.str.injEq, exists_eq_left', exists_eq_left, exists_and_left, true_and, and_true, Nat.reduceAdd, Nat.reduceSub, Nat.add_one_sub_one, Nat.sub_self, Bool.true_eq_false, Bool.false_eq_true, if_true, if_false, ite_true, ite_false, cxOf, Cx.nox, decide_eq_true_eq, reduceCtorEq, decide_false, decide_true, Bool.not_false, Bool.not_true, eq_self, upd_same, L2.upd_upd, List.cons.injEq, and_assoc]
        rw [cb] at k
        exact k
    cases ca : chg a with
    | some c =>
      have ec : chgS a = nm c := by unfold chgS; rw [ca]
      rw [ec]
      simp only [tVar, tC, tOp, tUn, tTest, tChain, tNil, tCons, tTup, tLst, tCall, tMeth, tMake, tCB, tIf, tAndV, tOrV, tNotV, tIsN, tNotN, tB, tAnd, tOr, tNot, tNext, tSeq, tDrop, tRet, tRetN, tIfS, tNever, gName, gNil, gCons, gSub, tAsg, tAug, tAugS, ipI, tBM, tBM0, tSl, tNoPart, tPart, tDGet, tDIn, tDNotIn, tDGet1, tDNewT, tDNewK, tYes, rI0, rI, rU, rAdd, rSub, rEq, rNe, L2.start, List.map_cons, List.map_nil, List.length_cons, List.length_nil, List.replicate, List.append_nil, List.nil_append, List.cons_append, List.getElem?_cons_zero, List.getElem?_cons_succ, List.set_cons_zero, List.set_cons_succ, Option.some.injEq, V.int.injEq, V.bl.injEq, V.ref.injEq, V.str.injEq, exists_eq_left', exists_eq_left, exists_and_left, true_and, and_true, Nat.reduceAdd, Nat.reduceSub, Nat.add_one_sub_one, Nat.sub_self, Bool.true_eq_false, Bool.false_eq_true, if_true, if_false, ite_true, ite_false, cxOf, Cx.nox, decide_eq_true_eq, reduceCtorEq, decide_false, decide_true, Bool.not_false, Bool.not_true, eq_self, upd_same, L2.upd_upd, List.cons.injEq, and_assoc, nm_ne]
      refine ⟨c, rfl, ?_⟩
      rw [ca] at hq
      by_cases hc : c ∈ z'.cps.toList
      · rw [if_pos hc]
        have : hit (some c) (tch b) = true := decide_eq_true ((hz' c).mp hc)
        rw [this, Bool.true_or] at hq
        exact hq
      · rw [if_neg hc]
        have : hit (some c) (tch b) = false := decide_eq_false fun k => hc ((hz' c).mpr k)
        rw [this, Bool.false_or] at hq
        exact two hq
    | none =>
      have ec : chgS a = Str.ofString "" := by unfold chgS; rw [ca]
      rw [ec]
      simp only [tVar, tC, tOp, tUn, tTest, tChain, tNil, tCons, tTup, tLst, tCall, tMeth, tMake, tCB, tIf, tAndV, tOrV, tNotV, tIsN, tNotN, tB, tAnd, tOr, tNot, tNext, tSeq, tDrop, tRet, tRetN, tIfS, tNever, gName, gNil, gCons, gSub, tAsg, tAug, tAugS, ipI, tBM, tBM0, tSl, tNoPart, tPart, tDGet, tDIn, tDNotIn, tDGet1, tDNewT, tDNewK, tYes, rI0, rI, rU, rAdd, rSub, rEq, rNe, L2.start, List.map_cons, List.map_nil, List.length_cons, List.length_nil, List.replicate, List.append_nil, List.nil_append, List.cons_append, List.getElem?_cons_zero, List.getElem?_cons_succ, List.set_cons_zero, List.set_cons_succ, Option.some.injEq, V.int.injEq, V.bl.injEq, V.ref.injEq, V.str.injEq, exists_eq_left', exists_eq_left, exists_and_left, true_and, and_true, Nat.reduceAdd, Nat.reduceSub, Nat.add_one_sub_one, Nat.sub_self, Bool.true_eq_false, Bool.false_eq_true, if_true, if_false, ite_true, ite_false, cxOf, Cx.nox, decide_eq_true_eq, reduceCtorEq, decide_false, decide_true, Bool.not_false, Bool.not_true, eq_self, upd_same, L2.upd_upd, List.cons.injEq, and_assoc]
      rw [ca] at hq
      exact two hq
/-! ### hang_together -/
abbrev CDep (P : Program) (w : World) (K : PySem.W.Frag) (mg : Str → Option Value) (base : Heap) : Prop := Cal P w K mg base 2 "are_dependent" ["one", "other"] spDep
abbrev sHang : Stmt := tx 14
/-- (thread, step) -/
def TS2 (H : Hp) (x : V) (p : Nat × TC.Step) : Prop := ∃ y, Tu H x [.int (p.1 : Nat), y] ∧ Tu H y (stepV p.2)
theorem TS2.kp {H H' : Hp} {x : V} {p : Nat × TC.Step} (h : TS2 H x p) (e : Kp H H') : TS2 H' x p := by
  obtain ⟨y, h1, h2⟩ := h
  exact ⟨y, h1.kp e, h2.kp e⟩
def spHang : Sp := fun vs H Q _ => ∃ x y p r, vs = [x, y] ∧ TS2 H x p ∧ TS2 H y r ∧ ∀ H', Ext H H' → Q (.bl (decide (p.1 = r.1) || dep p.2 r.2)) H'
theorem scHang : FnScope ["one", "other"] ["one", "other"] (defScope sHang) := ⟨rfl, rfl, rfl, by decide +kernel, rfl, by decide +kernel, by decide +kernel⟩
theorem ok_hang {f : Addr} {fd : FuncData} (F : Fun K "hang_together" "hang_together" sHang f fd) (c1 : CDep P w K mg base) : FnOk P w K mg base CX0 3 f fd ["one", "other"] spHang := by
  refine F.ok scHang (fun vs H Q E h => ?_) (fun cdv A outer s H vs Q E hr h => ?_)
  · obtain ⟨x, y, p, r, rfl, _⟩ := h
    rfl
  · obtain ⟨x, y, ⟨t, a⟩, ⟨u, b⟩, rfl, ⟨xa, h1, h2⟩, ⟨yb, h3, h4⟩, q⟩ := h
    refine ⟨_, pss_one (ps_ret (pe_or (pe_cmpR op_eq (pe_ix ix_tup (pv 0) pe_int (fun _ _ => rfl)) (pe_ix ix_tup (pv 1) pe_int (fun _ _ => rfl)) (nomark _))
      (pe_one (pe_cal c1 hr rfl (pa_cons (pe_ix ix_tup (pv 0) pe_int (fun _ _ => rfl)) (pa_cons (pe_ix ix_tup (pv 1) pe_int (fun _ _ => rfl)) pa_nil)))))), ?_⟩
    simp only [tVar, tC, tOp, tUn, tTest, tChain, tNil, tCons, tTup, tLst, tCall, tMeth, tMake, tCB, tIf, tAndV, tOrV, tNotV, tIsN, tNotN, tB, tAnd, tOr, tNot, tNext, tSeq, tDrop, tRet, tRetN, tIfS, tNever, gName, gNil, gCons, gSub, tAsg, tAug, tAugS, ipI, tBM, tBM0, tSl, tNoPart, tPart, tDGet, tDIn, tDNotIn, tDGet1, tDNewT, tDNewK, tYes, rI0, rI, rU, rAdd, rSub, rEq, rNe, L2.start, List.map_cons, List.map_nil, List.length_cons, List.length_nil, List.replicate, List.append_nil, List.nil_append, List.cons_append, List.getElem?_cons_zero, List.getElem?_cons_succ, List.set_cons_zero, List.set_cons_succ, Option.some.injEq, V.int.injEq, V.bl.injEq, V.ref.injEq, V.str.injEq, exists_eq_left', exists_eq_left, exists_and_left, true_and, and_true, Nat.reduceAdd, Nat.reduceSub, Nat.add_one_sub_one, Nat.sub_self, Bool.true_eq_false, Bool.false_eq_true, if_true, if_false, ite_true, ite_false, cxOf, Cx.nox, decide_eq_true_eq, reduceCtorEq, decide_false, decide_true, Bool.not_false, Bool.not_true, eq_self, upd_same, L2.upd_upd, List.cons.injEq, and_assoc]
    refine tu_ix 0 h1 rfl (tu_ix 0 h3 rfl ⟨rfl, ?_⟩)
    simp only [tVar, tC, tOp, tUn, tTest, tChain, tNil, tCons, tTup, tLst, tCall, tMeth, tMake, tCB, tIf, tAndV, tOrV, tNotV, tIsN, tNotN, tB, tAnd, tOr, tNot, tNext, tSeq, tDrop, tRet, tRetN, tIfS, tNever, gName, gNil, gCons, gSub, tAsg, tAug, tAugS, ipI, tBM, tBM0, tSl, tNoPart, tPart, tDGet, tDIn, tDNotIn, tDGet1, tDNewT, tDNewK, tYes, rI0, rI, rU, rAdd, rSub, rEq, rNe, L2.start, List.map_cons, List.map_nil, List.length_cons, List.length_nil, List.replicate, List.append_nil, List.nil_append, List.cons_append, List.getElem?_cons_zero, List.getElem?_cons_succ, List.set_cons_zero, List.set_cons_succ, Option.some.injEq, V.int.injEq, V.bl.injEq, V.ref.injEq, V.str.injEq, exists_eq_left', exists_eq_left, exists_and_left, true_and, and_true, Nat.reduceAdd, Nat.reduceSub, Nat.add_one_sub_one, Nat.sub_self, Bool.true_eq_false, Bool.false_eq_true, if_true, if_false, ite_true, ite_false, cxOf, Cx.nox, decide_eq_true_eq, reduceCtorEq, decide_false, decide_true, Bool.not_false, Bool.not_true, eq_self, upd_same, L2.upd_upd, List.cons.injEq, and_assoc]
    by_cases e : t = u
    · subst e
      rw [if_pos rfl]
      have := q H (Ext.refl H)
      simpa using this
    · have : ¬ ((t : Int) = (u : Int)) := fun z => e (Int.ofNat.inj z)
      rw [if_neg this]
      refine tu_ix 1 h1 rfl (tu_ix 1 h3 rfl ⟨xa, yb, a, b, rfl, h2, h4, fun H' eH => ?_⟩)
      have := q H' eH
      simpa [e] using this
end
end TW

set_option maxHeartbeats 8000000
/-! TwE: played, steps_of. -/
namespace TW
open PySem PySem.Spec PyProof.Rows L2
open TC hiding Step Env
/-! ### programs of the law -/
structure PW (H : Hp) (x : V) (e0 : TC.Env) (P : Thr) : Prop where
  prog : Prog H x e0 P
  wf : Wf e0 P
  n1 : 1 ≤ P.length
  n3 : P.length ≤ 3
  l2 : ∀ l ∈ P, l.length ≤ 2
theorem PW.kp {H H' : Hp} {x : V} {e0 : TC.Env} {P : Thr} (h : PW H x e0 P) (e : Kp H H') : PW H' x e0 P := ⟨h.prog.kp e, h.wf, h.n1, h.n3, h.l2⟩
theorem PW.ext {H H' : Hp} {x : V} {e0 : TC.Env} {P : Thr} (h : PW H x e0 P) (e : Ext H H') : PW H' x e0 P := h.kp e.kp
theorem EnvD.ext {H H' : Hp} {x : V} {e : TC.Env} (h : EnvD H x e) (k : Ext H H') : EnvD H' x e := h.kp k.kp
theorem take_at {w : List Nat} {i t : Nat} (h : w[i]? = some t) : w.take (i + 1) = w.take i ++ [t] := by
  rw [List.take_add_one, h]; rfl
theorem okw_at {P : Thr} {e : TC.Env} {d w : List Nat} (hw : okw P e d w = true) {i t : Nat} (h : w[i]? = some t) : poss P (play P e d (w.take i)).1 (play P e d (w.take i)).2 t = true := by
  have h1 : w = w.take (i + 1) ++ w.drop (i + 1) := (List.take_append_drop _ _).symm
  rw [h1, okw_append, take_at h, okw_append] at hw
  simp only [Bool.and_eq_true] at hw
  have := hw.1.2
  simp only [okw, Bool.and_true] at this
  exact this
theorem play_at {P : Thr} {e : TC.Env} {d w : List Nat} {i t : Nat} (h : w[i]? = some t) : play P e d (w.take (i + 1)) = (app (play P e d (w.take i)).1 (nx P (play P e d (w.take i)).2 t), inc (play P e d (w.take i)).2 t) := by
  rw [take_at h, play_append]; rfl
theorem poss_lt {P : Thr} {e : TC.Env} {d : List Nat} {t : Nat} (h : poss P e d t = true) : t < P.length := by
  obtain ⟨s, h1, _⟩ := poss_some h
  exact nxt_lt h1
theorem nx_of {P : Thr} {e : TC.Env} {d : List Nat} {t : Nat} (h : poss P e d t = true) : nxt P d t = some (nx P d t) := by
  obtain ⟨s, h1, _⟩ := poss_some h
  unfold nx; rw [h1]; rfl
theorem dom_play {P : Thr} : ∀ (w : List Nat) (e : TC.Env) (d : List Nat), dom (play P e d w).1 = dom e
  | [], _, _ => rfl
  | t :: w, e, d => by
    show dom (play P _ _ w).1 = _
    rw [dom_play w, dom_app]
theorem Wf.names {e0 : TC.Env} {P : Thr} (h : Wf e0 P) {d : List Nat} {t : Nat} {s : TC.Step} (hs : nxt P d t = some s) : ∀ c ∈ tch s, c ∈ dom e0 := by
  obtain ⟨l, hl, hm⟩ := nxt_mem hs
  exact h.2.2 l hl s hm
theorem dom_len {e e0 : TC.Env} (h : dom e = dom e0) : e.length = e0.length := by
  have := congrArg List.length h
  simpa [dom] using this
theorem mergeK_fresh : ∀ (more acc : List (Key × V)), ((acc ++ more).map (·.1)).Nodup → mergeK acc more = acc ++ more
  | [], acc, _ => by simp [mergeK]
  | kv :: more, acc, h => by
    have h1 : ¬ (acc.any fun x => decide (x.1 = kv.1)) = true := by
      rw [List.any_eq_true]
      rintro ⟨x, hx, he⟩
      rw [List.map_append, List.nodup_append] at h
      exact h.2.2 x.1 (List.mem_map.mpr ⟨x, hx, rfl⟩) kv.1 (by simp) (of_decide_eq_true he)
    have h2 : putK acc kv.1 kv.2 = acc ++ [kv] := by
      unfold putK; rw [if_neg h1]
    have h3 : mergeK acc (kv :: more) = mergeK (putK acc kv.1 kv.2) more := rfl
    rw [h3, h2, mergeK_fresh more (acc ++ [kv]) (by simpa using h)]
    simp
theorem envK_keys {e : TC.Env} (h : (dom e).Nodup) : ((envK e).map (·.1)).Nodup := by
  unfold envK
  rw [List.map_map]
  have : ((fun x : Key × V => x.1) ∘ fun p : Nat × Int => ((Sum.inr (nm p.1) : Key), V.int p.2)) = (fun c : Nat => (Sum.inr (nm c) : Key)) ∘ fun p : Nat × Int => p.1 := rfl
  rw [this, ← List.map_map]
  exact List.pairwise_map.mpr (List.Pairwise.imp (fun hab z => hab (nm_inj (Sum.inr.inj z))) h)
theorem env_merge {e : TC.Env} (h : (dom e).Nodup) : mergeK [] (envK e) = envK e := by
  have := mergeK_fresh (envK e) [] (by simpa using envK_keys h)
  simpa using this
theorem A2.cons {α β : Type} {R : α → β → Prop} {x : α} {xs : List α} {b : β} {l : List β} (h : A2 R (x :: xs) (b :: l)) : R x b ∧ A2 R xs l := by
  refine ⟨?_, ?_, fun i y hy => ?_⟩
  · obtain ⟨c, h1, h2⟩ := h.2 0 x rfl
    cases h1; exact h2
  · have := h.1; simpa using this
  · obtain ⟨c, h1, h2⟩ := h.2 (i + 1) y (by simpa using hy)
    exact ⟨c, by simpa using h1, h2⟩
theorem A2.nil_right {α β : Type} {R : α → β → Prop} {xs : List α} (h : A2 R xs ([] : List β)) : xs = [] := List.eq_nil_of_length_eq_zero h.1
theorem pairs_ref {K : PySem.W.Frag} {H : Hp} : ∀ {e : TC.Env} {ps : List V}, A2 (pairP H) ps e → ∃ as : List Addr, ps = as.map V.ref ∧ Paired (fun p kv => SqT K H p [kV kv.1, kv.2]) as (envK e)
  | [], ps, h => by
    rw [h.nil_right]
    exact ⟨[], rfl, .nil⟩
  | p :: e, [], h => by have := h.1; simp at this
  | p :: e, x :: ps, h => by
    obtain ⟨⟨a, h1, h2⟩, ht⟩ := h.cons
    obtain ⟨as, e1, h3⟩ := pairs_ref ht
    subst h1 e1
    exact ⟨a :: as, rfl, .cons (SqT.of h2) h3⟩
/-- dict(program[1]) -/
def rDictE : List V → Hp → VK → Prop := fun vs H Q => ∃ x ps e0, vs = [x] ∧ Pt H x ps ∧ A2 (pairP H) ps e0 ∧ (dom e0).Nodup ∧ ∀ v H', Ext H H' → EnvD H' v e0 → Q v H'
theorem cr_dictE {X : Cx} (hc : X.calm = true) : CallR X (.type "dict") rDictE := fun pins s σ H vs us Q I r h => by
  obtain ⟨x, ps, e0, rfl, ⟨a, o, rfl, ha, hd⟩, hA, nd, q⟩ := h
  obtain ⟨as, rfl, hp⟩ := pairs_ref (K := X.K) hA
  refine GX.call_dictT hc pins s σ H _ us Q I r ⟨a, o, as, envK e0, rfl, ha, hd, hp, fun p np => ?_⟩
  rw [env_merge nd]
  exact q _ _ (Ext.new np) ⟨p, rfl, upd_same⟩
/-! ### loops -/
theorem for_enumT {K : PySem.W.Frag} {ta : TA} {g : TG} {tb : TS} {D : Ends} {σ : L2.St} {H : Hp} {a : Addr} {xs : List V} (hta : ∀ R : List V → Hp → Prop, R [V.ref a] H → ta σ H R) (h : H a = some (.tup xs)) (Pv : Nat → L2.St → Hp → Prop) (h0 : Pv 0 σ H)
    (hG : ∀ i σ' H', Pv i σ' H' → H' a = some (.tup xs))
    (hs : ∀ (i : Nat) (x : V) (T : Addr) (σ' : L2.St) (H' : Hp), xs[i]? = some x → Pv i σ' H' → H' T = none → g (.ref T) σ' (upd H' T (.tup [.int (i : Nat), x])) fun σ2 H2 => tb { D with nx := Pv (i + 1), ct := Pv (i + 1), bk := D.nx } σ2 H2)
    (hd : ∀ σ' H', Pv xs.length σ' H' → D.nx σ' H') : tFor (GX.iEnumT K ta) g tb D σ H := by
  unfold tFor GX.iEnumT
  refine hta _ ⟨a, xs, rfl, SqT.of h, ?_⟩
  refine for_it GX.walk_enumT Pv h0 (fun i σ' H' _ p => SqT.of (hG i σ' H' p)) (fun i x σ' H' H'' hi p y => ?_) hd
  obtain ⟨T, x1, y1, e1, nT, e2, e3, e4⟩ := y
  cases e3
  subst e1 e2
  exact hs i y1 T σ' H' e4 p nT
theorem for_tupT {K : PySem.W.Frag} {te : TE} {g : TG} {tb : TS} {D : Ends} {σ : L2.St} {H : Hp} {a : Addr} {xs : List V} (hte : ∀ R : VK, R (V.ref a) H → te σ H R) (h : H a = some (.tup xs)) (Pv : Nat → L2.St → Hp → Prop) (h0 : Pv 0 σ H)
    (hG : ∀ i σ' H', Pv i σ' H' → H' a = some (.tup xs))
    (hs : ∀ (i : Nat) (x : V) (σ' : L2.St) (H' : Hp), xs[i]? = some x → Pv i σ' H' → g x σ' H' fun σ2 H2 => tb { D with nx := Pv (i + 1), ct := Pv (i + 1), bk := D.nx } σ2 H2)
    (hd : ∀ σ' H', Pv xs.length σ' H' → D.nx σ' H') : tFor (iTup K te) g tb D σ H := by
  unfold tFor iTup
  refine hte _ ⟨a, rfl, ⟨xs, SqT.of h⟩, ?_⟩
  refine for_it walk_tup Pv h0 (fun i σ' H' _ p => SqT.of (hG i σ' H' p)) (fun i x σ' H' H'' hi p y => ?_) hd
  obtain ⟨e1, e2⟩ := y
  subst e1
  exact hs i x σ' _ e2 p
theorem for_lstT {K : PySem.W.Frag} {te : TE} {g : TG} {tb : TS} {D : Ends} {σ : L2.St} {H : Hp} {a : Addr} {xs : List V} (hte : ∀ R : VK, R (V.ref a) H → te σ H R) (h : H a = some (.lst xs)) (Pv : Nat → L2.St → Hp → Prop) (h0 : Pv 0 σ H)
    (hG : ∀ i σ' H', Pv i σ' H' → H' a = some (.lst xs))
    (hs : ∀ (i : Nat) (x : V) (σ' : L2.St) (H' : Hp), xs[i]? = some x → Pv i σ' H' → g x σ' H' fun σ2 H2 => tb { D with nx := Pv (i + 1), ct := Pv (i + 1), bk := D.nx } σ2 H2)
    (hd : ∀ σ' H', Pv xs.length σ' H' → D.nx σ' H') : tFor (iList K te) g tb D σ H := by
  unfold tFor iList
  refine hte _ ⟨a, rfl, ⟨xs, SqL.of h⟩, ?_⟩
  refine for_it walk_list Pv h0 (fun i σ' H' _ p => SqL.of (hG i σ' H' p)) (fun i x σ' H' H'' hi p y => ?_) hd
  obtain ⟨e1, e2⟩ := y
  subst e1
  exact hs i x σ' _ e2 p
theorem for_rngT {ta : TA} {g : TG} {tb : TS} {D : Ends} {σ : L2.St} {H H1 : Hp} {n : Nat} (hta : ∀ R : List V → Hp → Prop, R [V.int (n : Nat)] H1 → ta σ H R) (hn : n ≤ 1000) (Pv : Nat → L2.St → Hp → Prop) (h0 : Pv 0 σ H1)
    (hs : ∀ (i : Nat) (σ' : L2.St) (H' : Hp), i < n → Pv i σ' H' → g (.int (i : Nat)) σ' H' fun σ2 H2 => tb { D with nx := Pv (i + 1), ct := Pv (i + 1), bk := D.nx } σ2 H2)
    (hd : ∀ σ' H', Pv n σ' H' → D.nx σ' H') : tFor (iRng1 ta) g tb D σ H := by
  unfold tFor iRng1
  refine hta _ ⟨n, rfl, by omega, by omega, ?_⟩
  rw [Int.toNat_natCast]
  refine for_it walk_range Pv h0 (fun i σ' H' _ p => trivial) (fun i x σ' H' H'' hi p y => ?_) hd
  obtain ⟨e1, e2⟩ := y
  subst e1 e2
  simp only [Int.zero_add]
  exact hs i σ' _ hi p
section
variable {P : Program} {w : World} {K : PySem.W.Frag} {mg : Str → Option Value} {base : Heap}
abbrev CPoss (P : Program) (w : World) (K : PySem.W.Frag) (mg : Str → Option Value) (base : Heap) : Prop := Cal P w K mg base 2 "is_possible" ["program", "values", "done", "thread"] spPoss
abbrev CAfter (P : Program) (w : World) (K : PySem.W.Frag) (mg : Str → Option Value) (base : Heap) : Prop := Cal P w K mg base 1 "done_after" ["done", "thread"] spAfter
abbrev CVals (P : Program) (w : World) (K : PySem.W.Frag) (mg : Str → Option Value) (base : Heap) : Prop := Cal P w K mg base 1 "values_after" ["values", "step"] spVals
theorem Cal.mono {j k : Nat} {x : Str} {ps : List Str} {sp : Sp} (c : Cal P w K mg base j x ps sp) (h : j ≤ k) : Cal P w K mg base k x ps sp := by
  obtain ⟨f, fd, h1, h2, h3, h4⟩ := c.ex
  exact ⟨f, fd, h1, h2, h3, h4.mono h⟩
abbrev sPlay : Stmt := tx 10
def spPlay : Sp := fun vs H Q _ => ∃ x y e0 Th ws, vs = [x, y] ∧ PW H x e0 Th ∧ Tn H y ws ∧ okw Th e0 (zeroL Th.length) ws = true ∧
  ∀ v H' vv dd, Ext H H' → Tu H' v [vv, dd] → EnvD H' vv (play Th e0 (zeroL Th.length) ws).1 → Tn H' dd (play Th e0 (zeroL Th.length) ws).2 → Q v H'
theorem scPlay : FnScope ["program", "schedule", "values", "done", "number", "thread"] ["program", "schedule"] (defScope sPlay) := ⟨rfl, rfl, rfl, by decide +kernel, rfl, by decide +kernel, by decide +kernel⟩
theorem ok_play {f : Addr} {fd : FuncData} (F : Fun K "played" "played" sPlay f fd) (B : Bt mg) (c1 : CNext P w K mg base) (c2 : CPoss P w K mg base) (c3 : CVals P w K mg base) (c4 : CAfter P w K mg base) : FnOk P w K mg base CX0 3 f fd ["program", "schedule"] spPlay := by
  refine F.ok scPlay (fun vs H Q E h => ?_) (fun cdv A outer s H vs Q E hr h => ?_)
  · obtain ⟨x, y, e0, Th, ws, rfl, _⟩ := h
    rfl
  · obtain ⟨x, y, e0, Th, ws, rfl, hp, hw, hok, q⟩ := h
    have hr1 : Room 1 _ := hr.mono (by decide)
    refine ⟨_, pss_cons (ps_set (i := 2) scPlay.nd rfl (Or.inl rfl) (pe_callTy (cr_dictE rfl) (by rfl) B.dict (by decide +kernel) (pa_cons (pe_ix ix_tup (pv 0) pe_int (fun _ _ => rfl)) pa_nil)))
      (pss_cons (ps_set (i := 3) scPlay.nd rfl (Or.inl rfl) (pe_op op_repZ (pe_tup (pa_cons pe_int pa_nil)) (pe_callB call_len (by rfl) B.len PySem.boot_len (pa_cons (pe_ix ix_tup (pv 0) pe_int (fun _ _ => rfl)) pa_nil))))
      (pss_cons (ps_for PassesOwn.never rfl (GX.pi_enumT (by rfl) B.enumerate (pa_cons (pv 1) pa_nil)) (pg_tup rfl (pgs_cons (pg_name (i := 4) scPlay.nd rfl (.inl rfl)) (pgs_cons (pg_name (i := 5) scPlay.nd rfl (.inl rfl)) pgs_nil)))
        (pss_cons (ps_if (PW.pt (pw_or (pt_not (pt_chain op_le op_lt pe_int (pv 5) (pe_callB call_len (by rfl) B.len PySem.boot_len (pa_cons (pv 3) pa_nil)))) (pw_or1 (pt_not (pt_val (pe_cal c2 hr rfl (pa_cons (pv 0) (pa_cons (pv 2) (pa_cons (pv 3) (pa_cons (pv 5) pa_nil))))))))))
            (pss_one ps_never) pss_nil)
        (pss_cons (ps_set (i := 2) scPlay.nd rfl (Or.inl rfl) (pe_cal c3 hr1 rfl (pa_cons (pv 2) (pa_cons (pe_cal c1 hr1 rfl (pa_cons (pv 0) (pa_cons (pv 3) (pa_cons (pv 5) pa_nil)))) pa_nil))))
        (pss_one (ps_set (i := 3) scPlay.nd rfl (Or.inl rfl) (pe_cal c4 hr1 rfl (pa_cons (pv 3) (pa_cons (pv 5) pa_nil))))))))
      (pss_one (ps_ret (pe_tup (pa_cons (pv 2) (pa_cons (pv 3) pa_nil))))))), ?_⟩
    simp only [tVar, tC, tOp, tUn, tTest, tChain, tNil, tCons, tTup, tLst, tCall, tMeth, tMake, tCB, tIf, tAndV, tOrV, tNotV, tIsN, tNotN, tB, tAnd, tOr, tNot, tNext, tSeq, tDrop, tRet, tRetN, tIfS, tNever, gName, gNil, gCons, gSub, tAsg, tAug, tAugS, ipI, tBM, tBM0, tSl, tNoPart, tPart, tDGet, tDIn, tDNotIn, tDGet1, tDNewT, tDNewK, tYes, rI0, rI, rU, rAdd, rSub, rEq, rNe, L2.start, List.map_cons, List.map_nil, List.length_cons, List.length_nil, List.replicate, List.append_nil, List.nil_append, List.cons_append, List.getElem?_cons_zero, List.getElem?_cons_succ, List.set_cons_zero, List.set_cons_succ, Option.some.injEq, V.int.injEq, V.bl.injEq, V.ref.injEq, V.str.injEq, exists_eq_left', exists_eq_left, exists_and_left, true_and, and_true, Nat.reduceAdd, Nat.reduceSub, Nat.add_one_sub_one, Nat.sub_self, Bool.true_eq_false, Bool.false_eq_true, if_true, if_false, ite_true, ite_false, cxOf, Cx.nox, decide_eq_true_eq, reduceCtorEq, decide_false, decide_true, Bool.not_false, Bool.not_true, eq_self, upd_same, L2.upd_upd, List.cons.injEq, and_assoc]
    obtain ⟨v, tt, ps, rows, g1, g2, g3, g4, g5⟩ := hp.prog
    have hn := g5.1
    have n3 := hp.n3
    refine tu_ix 1 g1 rfl ⟨v, ps, e0, rfl, g2, g3, hp.wf.1, fun vv H1 e1 hv => ⟨szN (by decide), fun p np => ?_⟩⟩
    have e2 := e1.trans (Ext.new (o := .tup [V.int 0]) np)
    refine tu_ix 2 (g1.ext e2) rfl (tu_len (g4.ext e2) ⟨rows.length, ⟨p, rfl, upd_same⟩, rfl, by rw [hn]; exact hp.n1, by rw [hn]; omega, fun dd H2 e3 hd => ?_⟩)
    rw [hn] at hd
    obtain ⟨wa, rfl, hwa⟩ := id hw
    have e4 := e2.trans e3
    refine for_enumT (a := wa) (xs := nI ws) (fun R h => ⟨_, rfl, h⟩) (e4.1 _ _ hwa (by simp)) (fun i σ' H' => ∃ vv dd nu th, σ' = [some x, some (.ref wa), some vv, some dd, nu, th] ∧ Ext H H' ∧ EnvD H' vv (play Th e0 (zeroL Th.length) (ws.take i)).1 ∧ Tn H' dd (play Th e0 (zeroL Th.length) (ws.take i)).2)
      ⟨vv, dd, none, none, rfl, e4, by simpa [play] using hv.kp ((Ext.new np).trans e3).kp, by simpa [play, zeroL] using hd⟩ (fun i σ' H' ⟨_, _, _, _, _, e, _⟩ => e.1 _ _ hwa (by simp)) ?_ ?_
    · rintro i it T σ' H' hi ⟨vv, dd, nu, th, rfl, e5, hv, hd⟩ nT
      obtain ⟨t, ht, rfl⟩ := nI_inv hi
      have e6 := e5.trans (Ext.new (o := .tup [V.int (i : Nat), V.int (t : Nat)]) nT)
      have hps := okw_at hok ht
      have htl := poss_lt hps
      have hv6 : EnvD _ vv _ := hv.ext (Ext.new (o := .tup [V.int (i : Nat), V.int (t : Nat)]) nT)
      have hd6 : Tn _ dd _ := hd.ext (Ext.new (o := .tup [V.int (i : Nat), V.int (t : Nat)]) nT)
      have hpa := play_at (P := Th) (e := e0) (d := zeroL Th.length) ht
      have hdl : (play Th e0 (zeroL Th.length) (ws.take i)).2.length = Th.length := by rw [play_length, zeroL_length]
      have hdom : dom (play Th e0 (zeroL Th.length) (ws.take i)).1 = dom e0 := dom_play _ _ _
      generalize play Th e0 (zeroL Th.length) (ws.take i) = pl at *
      refine tu_tgt ⟨T, rfl, upd_same⟩ ?_
      simp only [tVar, tC, tOp, tUn, tTest, tChain, tNil, tCons, tTup, tLst, tCall, tMeth, tMake, tCB, tIf, tAndV, tOrV, tNotV, tIsN, tNotN, tB, tAnd, tOr, tNot, tNext, tSeq, tDrop, tRet, tRetN, tIfS, tNever, gName, gNil, gCons, gSub, tAsg, tAug, tAugS, ipI, tBM, tBM0, tSl, tNoPart, tPart, tDGet, tDIn, tDNotIn, tDGet1, tDNewT, tDNewK, tYes, rI0, rI, rU, rAdd, rSub, rEq, rNe, L2.start, List.map_cons, List.map_nil, List.length_cons, List.length_nil, List.replicate, List.append_nil, List.nil_append, List.cons_append, List.getElem?_cons_zero, List.getElem?_cons_succ, List.set_cons_zero, List.set_cons_succ, Option.some.injEq, V.int.injEq, V.bl.injEq, V.ref.injEq, V.str.injEq, exists_eq_left', exists_eq_left, exists_and_left, true_and, and_true, Nat.reduceAdd, Nat.reduceSub, Nat.add_one_sub_one, Nat.sub_self, Bool.true_eq_false, Bool.false_eq_true, if_true, if_false, ite_true, ite_false, cxOf, Cx.nox, decide_eq_true_eq, reduceCtorEq, decide_false, decide_true, Bool.not_false, Bool.not_true, eq_self, upd_same, L2.upd_upd, List.cons.injEq, and_assoc]
      have hlt : (t : Int) < ((nI pl.2).length : Nat) := by rw [nI_length, hdl]; omega
      rw [if_pos (Int.natCast_nonneg t)]
      refine tu_len hd6 ⟨_, rfl, ?_⟩
      rw [decide_eq_true hlt]
      simp only [tVar, tC, tOp, tUn, tTest, tChain, tNil, tCons, tTup, tLst, tCall, tMeth, tMake, tCB, tIf, tAndV, tOrV, tNotV, tIsN, tNotN, tB, tAnd, tOr, tNot, tNext, tSeq, tDrop, tRet, tRetN, tIfS, tNever, gName, gNil, gCons, gSub, tAsg, tAug, tAugS, ipI, tBM, tBM0, tSl, tNoPart, tPart, tDGet, tDIn, tDNotIn, tDGet1, tDNewT, tDNewK, tYes, rI0, rI, rU, rAdd, rSub, rEq, rNe, L2.start, List.map_cons, List.map_nil, List.length_cons, List.length_nil, List.replicate, List.append_nil, List.nil_append, List.cons_append, List.getElem?_cons_zero, List.getElem?_cons_succ, List.set_cons_zero, List.set_cons_succ, Option.some.injEq, V.int.injEq, V.bl.injEq, V.ref.injEq, V.str.injEq, exists_eq_left', exists_eq_left, exists_and_left, true_and, and_true, Nat.reduceAdd, Nat.reduceSub, Nat.add_one_sub_one, Nat.sub_self, Bool.true_eq_false, Bool.false_eq_true, if_true, if_false, ite_true, ite_false, cxOf, Cx.nox, decide_eq_true_eq, reduceCtorEq, decide_false, decide_true, Bool.not_false, Bool.not_true, eq_self, upd_same, L2.upd_upd, List.cons.injEq, and_assoc]
      refine ⟨x, vv, dd, e0, pl.1, Th, pl.2, t, rfl, (hp.ext e6).prog, hp.wf, hv6, hdom, hd6, htl, by omega, true, by rw [hps], ?_⟩
      simp only [tVar, tC, tOp, tUn, tTest, tChain, tNil, tCons, tTup, tLst, tCall, tMeth, tMake, tCB, tIf, tAndV, tOrV, tNotV, tIsN, tNotN, tB, tAnd, tOr, tNot, tNext, tSeq, tDrop, tRet, tRetN, tIfS, tNever, gName, gNil, gCons, gSub, tAsg, tAug, tAugS, ipI, tBM, tBM0, tSl, tNoPart, tPart, tDGet, tDIn, tDNotIn, tDGet1, tDNewT, tDNewK, tYes, rI0, rI, rU, rAdd, rSub, rEq, rNe, L2.start, List.map_cons, List.map_nil, List.length_cons, List.length_nil, List.replicate, List.append_nil, List.nil_append, List.cons_append, List.getElem?_cons_zero, List.getElem?_cons_succ, List.set_cons_zero, List.set_cons_succ, Option.some.injEq, V.int.injEq, V.bl.injEq, V.ref.injEq, V.str.injEq, exists_eq_left', exists_eq_left, exists_and_left, true_and, and_true, Nat.reduceAdd, Nat.reduceSub, Nat.add_one_sub_one, Nat.sub_self, Bool.true_eq_false, Bool.false_eq_true, if_true, if_false, ite_true, ite_false, cxOf, Cx.nox, decide_eq_true_eq, reduceCtorEq, decide_false, decide_true, Bool.not_false, Bool.not_true, eq_self, upd_same, L2.upd_upd, List.cons.injEq, and_assoc]
      refine ⟨x, dd, e0, Th, pl.2, t, rfl, (hp.ext e6).prog, hd6, htl, by omega, fun sv hsv => ?_⟩
      rw [nx_of hps] at hsv
      have hnm := hp.wf.names (nx_of hps)
      refine ⟨vv, sv, pl.1, nx Th pl.2 t, rfl, hv6, hsv, by rw [dom_len hdom]; exact hp.wf.2.1, fun c hc => by rw [hdom]; exact hnm c hc, fun v2 H2 e7 hv2 => ?_⟩
      refine ⟨dd, pl.2, t, rfl, hd6.ext e7, by omega, by omega, fun d2 H3 e8 hd3 => ?_⟩
      rw [hpa]
      exact ⟨(e6.trans e7).trans e8, hv2.ext e8, hd3⟩
    · rintro σ' H' ⟨vv, dd, nu, th, rfl, e5, hv, hd⟩
      rw [nI_length, List.take_length] at hv hd
      simp only [tVar, tC, tOp, tUn, tTest, tChain, tNil, tCons, tTup, tLst, tCall, tMeth, tMake, tCB, tIf, tAndV, tOrV, tNotV, tIsN, tNotN, tB, tAnd, tOr, tNot, tNext, tSeq, tDrop, tRet, tRetN, tIfS, tNever, gName, gNil, gCons, gSub, tAsg, tAug, tAugS, ipI, tBM, tBM0, tSl, tNoPart, tPart, tDGet, tDIn, tDNotIn, tDGet1, tDNewT, tDNewK, tYes, rI0, rI, rU, rAdd, rSub, rEq, rNe, L2.start, List.map_cons, List.map_nil, List.length_cons, List.length_nil, List.replicate, List.append_nil, List.nil_append, List.cons_append, List.getElem?_cons_zero, List.getElem?_cons_succ, List.set_cons_zero, List.set_cons_succ, Option.some.injEq, V.int.injEq, V.bl.injEq, V.ref.injEq, V.str.injEq, exists_eq_left', exists_eq_left, exists_and_left, true_and, and_true, Nat.reduceAdd, Nat.reduceSub, Nat.add_one_sub_one, Nat.sub_self, Bool.true_eq_false, Bool.false_eq_true, if_true, if_false, ite_true, ite_false, cxOf, Cx.nox, decide_eq_true_eq, reduceCtorEq, decide_false, decide_true, Bool.not_false, Bool.not_true, eq_self, upd_same, L2.upd_upd, List.cons.injEq, and_assoc]
      exact ⟨szN (by decide), fun p np => q _ _ vv dd (e5.trans (Ext.new np)) ⟨p, rfl, upd_same⟩ (hv.ext (Ext.new np)) (hd.ext (Ext.new np))⟩
end
end TW

set_option maxHeartbeats 8000000
/-! TwF: steps_of, possible. -/
namespace TW
open PySem PySem.Spec PyProof.Rows L2
open TC hiding Step Env
theorem play_cnt {P : Thr} : ∀ (w : List Nat) (e : TC.Env) (d : List Nat), okw P e d w = true → d.length = P.length → ∀ u, (play P e d w).2.getD u 0 = d.getD u 0 + w.count u
  | [], _, _, _, _, _ => rfl
  | t :: w, e, d, h, hl, u => by
    have h : (poss P e d t && okw P (app e (nx P d t)) (inc d t) w) = true := h
    rw [Bool.and_eq_true] at h
    show (play P (app e (nx P d t)) (inc d t) w).2.getD u 0 = _
    have hlt : t < d.length := by rw [hl]; exact poss_lt h.1
    rw [play_cnt w _ _ h.2 (by rw [inc_length]; exact hl), inc_getD hlt, List.count_cons]
    unfold TC.bump cf
    by_cases e : u = t
    · subst e; simp; omega
    · have : (t == u) = false := by simpa using fun z : t = u => e z.symm
      simp [e, this]
theorem okw_take {P : Thr} {e : TC.Env} {d w : List Nat} (h : okw P e d w = true) (i : Nat) : okw P e d (w.take i) = true := by
  have h1 : w = w.take i ++ w.drop i := (List.take_append_drop _ _).symm
  rw [h1, okw_append] at h
  simp only [Bool.and_eq_true] at h
  exact h.1
theorem zero_getD (n u : Nat) : (zeroL n).getD u 0 = 0 := by
  unfold zeroL
  rw [List.getD_eq_getElem?_getD]
  by_cases h : u < n
  · simp [h]
  · rw [List.getElem?_eq_none (by simpa using h)]; rfl
theorem sAt_of {P : Thr} {e : TC.Env} {w : List Nat} (h : okw P e (zeroL P.length) w = true) {i t : Nat} (ht : w[i]? = some t) : sAt P w i = nx P (play P e (zeroL P.length) (w.take i)).2 t := by
  have h1 : w.getD i 0 = t := by rw [List.getD_eq_getElem?_getD, ht]; rfl
  unfold sAt evt nx nxt
  simp only [h1]
  rw [play_cnt _ _ _ (okw_take h i) (zeroL_length _), zero_getD, Nat.zero_add]
theorem A2.snoc {α β : Type} {R : α → β → Prop} {xs : List α} {l : List β} {x : α} {b : β} (h : A2 R xs l) (r : R x b) : A2 R (xs ++ [x]) (l ++ [b]) := by
  refine ⟨by rw [List.length_append, List.length_append, h.1]; rfl, fun i y hy => ?_⟩
  by_cases hi : i < xs.length
  · rw [List.getElem?_append_left hi] at hy
    obtain ⟨c, h1, h2⟩ := h.2 i y hy
    exact ⟨c, by rw [List.getElem?_append_left (by rw [← h.1]; exact hi)]; exact h1, h2⟩
  · have hle : xs.length ≤ i := Nat.le_of_not_lt hi
    rw [List.getElem?_append_right hle] at hy
    have hz : i - xs.length = 0 := by
      have := (List.getElem?_eq_some_iff.mp hy).1
      simp at this
      omega
    rw [hz] at hy
    cases hy
    refine ⟨b, ?_, r⟩
    rw [List.getElem?_append_right (by rw [← h.1]; exact hle), ← h.1, hz]
    rfl
theorem A2.nil {α β : Type} {R : α → β → Prop} : A2 R ([] : List α) ([] : List β) := ⟨rfl, fun i x h => by simp at h⟩
theorem ty_list {K : PySem.W.Frag} {H : Hp} {l : Addr} {xs : List V} (h : H l = some (.lst xs)) : tyV K "list" (.ref l) H := .inl ⟨rfl, _, SqL.of h⟩
theorem ap_list {H : Hp} {l : Addr} {xs : List V} {y : V} {Q : VK} (h : H l = some (.lst xs)) (hz : xs.length ≤ 1000) (q : Q .non (upd H l (.lst (xs ++ [y])))) : rAppend (.ref l) [y] H Q := ⟨l, xs, y, rfl, rfl, h, small1000 hz, q⟩
theorem Kp.lst {H : Hp} {l : Addr} {xs : List V} {o : HO} (h : H l = some (.lst xs)) : Kp H (upd H l o) := Kp.set h (fun z => z) (fun ps z => by cases z)
theorem range_snoc {α : Type} (f : Nat → α) (i : Nat) : (List.range (i + 1)).map f = (List.range i).map f ++ [f i] := by
  rw [List.range_succ, List.map_append]; rfl
/-- a run's steps -/
def stepAt (P : Thr) (w : List Nat) (k : Nat) : Nat × TC.Step := (w.getD k 0, sAt P w k)
section
variable {P : Program} {w : World} {K : PySem.W.Frag} {mg : Str → Option Value} {base : Heap}
abbrev sSteps : Stmt := tx 13
def spSteps : Sp := fun vs H Q _ => ∃ x y e0 Th ws, vs = [x, y] ∧ PW H x e0 Th ∧ Tn H y ws ∧ okw Th e0 (zeroL Th.length) ws = true ∧ ws.length ≤ 900 ∧
  ∀ H' p its, Ext H H' → H p = none → H' p = some (.lst its) → A2 (TS2 H') its ((List.range ws.length).map (stepAt Th ws)) → Q (.ref p) H'
theorem scSteps : FnScope ["program", "schedule", "done", "found", "thread"] ["program", "schedule"] (defScope sSteps) := ⟨rfl, rfl, rfl, by decide +kernel, rfl, by decide +kernel, by decide +kernel⟩
theorem ok_steps {f : Addr} {fd : FuncData} (F : Fun K "steps_of" "steps_of" sSteps f fd) (B : Bt mg) (c1 : CNext P w K mg base) (c4 : CAfter P w K mg base) : FnOk P w K mg base CX0 2 f fd ["program", "schedule"] spSteps := by
  refine F.ok scSteps (fun vs H Q E h => ?_) (fun cdv A outer s H vs Q E hr h => ?_)
  · obtain ⟨x, y, e0, Th, ws, rfl, _⟩ := h
    rfl
  · obtain ⟨x, y, e0, Th, ws, rfl, hp, hw, hok, hwl, q⟩ := h
    refine ⟨_, pss_cons (ps_set (i := 2) scSteps.nd rfl (Or.inl rfl) (pe_op op_repZ (pe_tup (pa_cons pe_int pa_nil)) (pe_callB call_len (by rfl) B.len PySem.boot_len (pa_cons (pe_ix ix_tup (pv 0) pe_int (fun _ _ => rfl)) pa_nil))))
      (pss_cons (ps_set (i := 3) scSteps.nd rfl (Or.inl rfl) (pe_lst pa_nil))
      (pss_cons (ps_for PassesOwn.never rfl (pi_tup (pv 1)) (pg_name (i := 4) scSteps.nd rfl (.inl rfl))
        (pss_cons (ps_expr (pe_bm PySem.F.plainAttrs_list PySem.F.slot_list_append PySem.F.type_list_append mt_append (pv 3) (pa_cons (pe_tup (pa_cons (pv 4) (pa_cons (pe_cal c1 hr rfl (pa_cons (pv 0) (pa_cons (pv 2) (pa_cons (pv 4) pa_nil)))) pa_nil))) pa_nil)))
        (pss_one (ps_set (i := 2) scSteps.nd rfl (Or.inl rfl) (pe_cal c4 hr rfl (pa_cons (pv 2) (pa_cons (pv 4) pa_nil)))))))
      (pss_one (ps_ret (pv 3))))), ?_⟩
    simp only [tVar, tC, tOp, tUn, tTest, tChain, tNil, tCons, tTup, tLst, tCall, tMeth, tMake, tCB, tIf, tAndV, tOrV, tNotV, tIsN, tNotN, tB, tAnd, tOr, tNot, tNext, tSeq, tDrop, tRet, tRetN, tIfS, tNever, gName, gNil, gCons, gSub, tAsg, tAug, tAugS, ipI, tBM, tBM0, tSl, tNoPart, tPart, tDGet, tDIn, tDNotIn, tDGet1, tDNewT, tDNewK, tYes, rI0, rI, rU, rAdd, rSub, rEq, rNe, L2.start, List.map_cons, List.map_nil, List.length_cons, List.length_nil, List.replicate, List.append_nil, List.nil_append, List.cons_append, List.getElem?_cons_zero, List.getElem?_cons_succ, List.set_cons_zero, List.set_cons_succ, Option.some.injEq, V.int.injEq, V.bl.injEq, V.ref.injEq, V.str.injEq, exists_eq_left', exists_eq_left, exists_and_left, true_and, and_true, Nat.reduceAdd, Nat.reduceSub, Nat.add_one_sub_one, Nat.sub_self, Bool.true_eq_false, Bool.false_eq_true, if_true, if_false, ite_true, ite_false, cxOf, Cx.nox, decide_eq_true_eq, reduceCtorEq, decide_false, decide_true, Bool.not_false, Bool.not_true, eq_self, upd_same, L2.upd_upd, List.cons.injEq, and_assoc]
    obtain ⟨v, tt, ps, rows, g1, g2, g3, g4, g5⟩ := hp.prog
    have hn := g5.1
    have n3 := hp.n3
    refine ⟨szN (by decide), fun p np => ?_⟩
    have e2 : Ext H _ := Ext.new (o := .tup [V.int 0]) np
    refine tu_ix 2 (g1.ext e2) rfl (tu_len (g4.ext e2) ⟨rows.length, ⟨p, rfl, upd_same⟩, rfl, by rw [hn]; exact hp.n1, by rw [hn]; omega, fun dd H2 e3 hd => ⟨Nat.zero_le _, fun l nl => ?_⟩⟩)
    rw [hn] at hd
    obtain ⟨wa, rfl, hwa⟩ := id hw
    have e4 := e2.trans e3
    have nl0 : H l = none := e4.free nl
    have e5 := e4.trans (Ext.new (o := .lst []) nl)
    refine for_tupT (a := wa) (xs := nI ws) (fun R h => ⟨_, rfl, h⟩) (e5.1 _ _ hwa (by simp)) (fun i σ' H' => i ≤ ws.length ∧ ∃ dd th its, σ' = [some x, some (.ref wa), some dd, some (.ref l), th] ∧ Ext H H' ∧ Tn H' dd (play Th e0 (zeroL Th.length) (ws.take i)).2 ∧ H' l = some (.lst its) ∧ A2 (TS2 H') its ((List.range i).map (stepAt Th ws)))
      ⟨Nat.zero_le _, dd, none, [], rfl, e5, by simpa [play, zeroL] using hd.ext (Ext.new nl), upd_same, A2.nil⟩ (fun i σ' H' ⟨_, _, _, _, _, e, _⟩ => e.1 _ _ hwa (by simp)) ?_ ?_
    · rintro i it σ' H' hi ⟨hil, dd, th, its, rfl, e6, hd, hl, hA⟩
      obtain ⟨t, ht, rfl⟩ := nI_inv hi
      have hps := okw_at hok ht
      have htl := poss_lt hps
      have hpa := play_at (P := Th) (e := e0) (d := zeroL Th.length) ht
      have hsa := sAt_of hok ht
      have hg : ws.getD i 0 = t := by rw [List.getD_eq_getElem?_getD, ht]; rfl
      have hdl : (play Th e0 (zeroL Th.length) (ws.take i)).2.length = Th.length := by rw [play_length, zeroL_length]
      have hiw := (List.getElem?_eq_some_iff.mp ht).1
      generalize play Th e0 (zeroL Th.length) (ws.take i) = pl at *
      simp only [tVar, tC, tOp, tUn, tTest, tChain, tNil, tCons, tTup, tLst, tCall, tMeth, tMake, tCB, tIf, tAndV, tOrV, tNotV, tIsN, tNotN, tB, tAnd, tOr, tNot, tNext, tSeq, tDrop, tRet, tRetN, tIfS, tNever, gName, gNil, gCons, gSub, tAsg, tAug, tAugS, ipI, tBM, tBM0, tSl, tNoPart, tPart, tDGet, tDIn, tDNotIn, tDGet1, tDNewT, tDNewK, tYes, rI0, rI, rU, rAdd, rSub, rEq, rNe, L2.start, List.map_cons, List.map_nil, List.length_cons, List.length_nil, List.replicate, List.append_nil, List.nil_append, List.cons_append, List.getElem?_cons_zero, List.getElem?_cons_succ, List.set_cons_zero, List.set_cons_succ, Option.some.injEq, V.int.injEq, V.bl.injEq, V.ref.injEq, V.str.injEq, exists_eq_left', exists_eq_left, exists_and_left, true_and, and_true, Nat.reduceAdd, Nat.reduceSub, Nat.add_one_sub_one, Nat.sub_self, Bool.true_eq_false, Bool.false_eq_true, if_true, if_false, ite_true, ite_false, cxOf, Cx.nox, decide_eq_true_eq, reduceCtorEq, decide_false, decide_true, Bool.not_false, Bool.not_true, eq_self, upd_same, L2.upd_upd, List.cons.injEq, and_assoc]
      refine ⟨ty_list hl, x, dd, e0, Th, pl.2, t, rfl, (hp.ext e6).prog, hd, htl, by omega, fun sv hsv => ⟨szN (by decide), fun p np => ?_⟩⟩
      rw [nx_of hps] at hsv
      have npl : l ≠ p := ne_of_none hl np
      have e7 : Ext H' (upd H' p (.tup [V.int (t : Nat), sv])) := Ext.new np
      have hl2 : upd H' p (.tup [V.int (t : Nat), sv]) l = some (.lst its) := by rw [upd_ne npl]; exact hl
      refine ap_list hl2 (by rw [hA.1]; simp; omega) ?_
      have k1 : Kp (upd H' p (.tup [V.int (t : Nat), sv])) _ := Kp.lst (o := .lst (its ++ [V.ref p])) hl2
      have e8 : Ext H _ := (e6.trans e7).upd (p := l) (o := .lst (its ++ [V.ref p])) nl0
      refine ⟨dd, pl.2, t, rfl, (hd.ext e7).kp k1, by omega, by omega, fun d2 H3 e9 hd3 => ⟨by omega, e8.trans e9, by rw [hpa]; exact hd3, its ++ [V.ref p], e9.1 _ _ upd_same (by simp), ?_⟩⟩
      rw [range_snoc]
      have kk : Kp H' H3 := (e7.kp.trans k1).trans e9.kp
      refine A2.snoc (hA.imp fun _ _ z => z.kp kk) ⟨sv, ?_, ?_⟩
      · have : Tu (upd H' p (.tup [V.int (t : Nat), sv])) (V.ref p) [V.int (t : Nat), sv] := ⟨p, rfl, upd_same⟩
        show Tu H3 (V.ref p) [V.int ((ws.getD i 0 : Nat) : Int), sv]
        rw [hg]
        exact (this.kp k1).kp e9.kp
      · show Tu H3 sv (stepV (sAt Th ws i))
        rw [hsa]
        have hsv : Tu H' sv (stepV (nx Th pl.2 t)) := hsv
        exact hsv.kp kk
    · rintro σ' H' ⟨_, dd, th, its, rfl, e6, hd, hl, hA⟩
      rw [nI_length] at hA
      simp only [tVar, tC, tOp, tUn, tTest, tChain, tNil, tCons, tTup, tLst, tCall, tMeth, tMake, tCB, tIf, tAndV, tOrV, tNotV, tIsN, tNotN, tB, tAnd, tOr, tNot, tNext, tSeq, tDrop, tRet, tRetN, tIfS, tNever, gName, gNil, gCons, gSub, tAsg, tAug, tAugS, ipI, tBM, tBM0, tSl, tNoPart, tPart, tDGet, tDIn, tDNotIn, tDGet1, tDNewT, tDNewK, tYes, rI0, rI, rU, rAdd, rSub, rEq, rNe, L2.start, List.map_cons, List.map_nil, List.length_cons, List.length_nil, List.replicate, List.append_nil, List.nil_append, List.cons_append, List.getElem?_cons_zero, List.getElem?_cons_succ, List.set_cons_zero, List.set_cons_succ, Option.some.injEq, V.int.injEq, V.bl.injEq, V.ref.injEq, V.str.injEq, exists_eq_left', exists_eq_left, exists_and_left, true_and, and_true, Nat.reduceAdd, Nat.reduceSub, Nat.add_one_sub_one, Nat.sub_self, Bool.true_eq_false, Bool.false_eq_true, if_true, if_false, ite_true, ite_false, cxOf, Cx.nox, decide_eq_true_eq, reduceCtorEq, decide_false, decide_true, Bool.not_false, Bool.not_true, eq_self, upd_same, L2.upd_upd, List.cons.injEq, and_assoc]
      exact q H' l its e6 nl0 hl hA
end
end TW

set_option maxHeartbeats 8000000
/-! TwG: possible; the draws of generator expressions over a walk. -/
namespace TW
open PySem PySem.Spec PyProof.Rows L2
open TC hiding Step Env
section
variable {wi : TI} {g : TG} {tt : TT} {te : TE} {vs : List Nat} {Pa : Addr} {σ : L2.St} {H H1 : Hp} {Q : VK} {J : It} {n : Nat} {G : Hp → Prop} {Y : Nat → Hp → V → Hp → Prop}
theorem tupG_it (hwi : ∀ R : It → Hp → Prop, R J H1 → wi σ H R) (w : Walk J n G Y) (tab : GxR.TabG H1 Pa) (Pv : Nat → List V → Hp → Prop) (h0 : ∀ H2, Ext H1 H2 → Pv 0 [] H2) (hG : ∀ i ys H', Pv i ys H' → G H')
    (hs : ∀ (i : Nat) (x : V) (ys : List V) (H' H'' : Hp), i < n → Pv i ys H' → Y i H' x H'' → g x (wipe σ vs) H'' fun σ2 H2 => wipe σ2 vs = wipe σ vs ∧ tt σ2 H2 fun b H3 => if b = true then te σ2 H3 fun y H4 => True ∧ ys.length < sizeLine ∧ (True → Pv (i + 1) (ys ++ [y]) H4) else Pv (i + 1) ys H3)
    (hd : ∀ (ys : List V) (H' : Hp), Pv n ys H' → ys.length ≤ 1000 ∧ ∀ p, H' p = none → Q (.ref p) (upd H' p (.tup ys))) : GX.tTupG wi g tt te vs Pa σ H Q := by
  refine hwi _ ⟨tab, fun H2 hT => ⟨_, fun _ _ _ => True, fun ys H' => Pv n ys H', n, ⟨rfl, Nat.zero_le _, h0 H2 (Ext.tabbed tab hT)⟩, GX.g_it w Pv (fun i ys H' _ p => hG i ys H' p) hs fun ys H' p => p, fun ys H' p => ?_⟩⟩
  obtain ⟨h1, h2⟩ := hd ys H' p
  exact ⟨szN h1, h2⟩
theorem sortG_it {K : PySem.W.Frag} (hwi : ∀ R : It → Hp → Prop, R J H1 → wi σ H R) (w : Walk J n G Y) (tab : GxR.TabG H1 Pa) (Pv : Nat → List V → Hp → Prop) (h0 : ∀ H2, Ext H1 H2 → Pv 0 [] H2) (hG : ∀ i ys H', Pv i ys H' → G H')
    (hs : ∀ (i : Nat) (x : V) (ys : List V) (H' H'' : Hp), i < n → Pv i ys H' → Y i H' x H'' → g x (wipe σ vs) H'' fun σ2 H2 => wipe σ2 vs = wipe σ vs ∧ tt σ2 H2 fun b H3 => if b = true then te σ2 H3 fun y H4 => True ∧ ys.length < sizeLine ∧ (True → Pv (i + 1) (ys ++ [y]) H4) else Pv (i + 1) ys H3)
    (hd : ∀ (ys : List V) (H' : Hp), Pv n ys H' → GX.rSortTI K ys H' Q) : GX.tSortG K wi g tt te vs Pa σ H Q := by
  exact hwi _ ⟨tab, fun H2 hT => ⟨_, fun _ _ _ => True, fun ys H' => Pv n ys H', n, ⟨rfl, Nat.zero_le _, h0 H2 (Ext.tabbed tab hT)⟩, GX.g_it w Pv (fun i ys H' _ p => hG i ys H' p) hs fun ys H' p => p, fun ys H' p => hd ys H' p⟩⟩
theorem allG_it (hwi : ∀ R : It → Hp → Prop, R J H1 → wi σ H R) (w : Walk J n G Y) (tab : GxR.TabG H1 Pa) (Pv : Nat → List V → Hp → Prop) (h0 : ∀ H2, Ext H1 H2 → Pv 0 [] H2) (hG : ∀ i ys H', Pv i ys H' → G H')
    (hs : ∀ (i : Nat) (x : V) (ys : List V) (H' H'' : Hp), i < n → Pv i ys H' → Y i H' x H'' → g x (wipe σ vs) H'' fun σ2 H2 => wipe σ2 vs = wipe σ vs ∧ tt σ2 H2 fun b H3 => if b = true then te σ2 H3 fun y H4 => (∃ b, y = .bl b ∧ (b = false → Q (.bl false) H4)) ∧ ys.length < sizeLine ∧ (y = .bl true → Pv (i + 1) (ys ++ [y]) H4) else Pv (i + 1) ys H3)
    (hd : ∀ (ys : List V) (H' : Hp), Pv n ys H' → Q (.bl true) H') : GX.tAllG wi g tt te vs Pa σ H Q := by
  exact hwi _ ⟨tab, fun H2 hT => ⟨_, fun _ x H' => ∃ b, x = .bl b ∧ (b = false → Q (.bl false) H'), fun ys H' => Pv n ys H', n, ⟨rfl, Nat.zero_le _, h0 H2 (Ext.tabbed tab hT)⟩, GX.g_it w Pv (fun i ys H' _ p => hG i ys H' p) hs fun ys H' p => p, fun ys H' p => hd ys H' p, fun ys x H' p => p⟩⟩
theorem anyG_it (hwi : ∀ R : It → Hp → Prop, R J H1 → wi σ H R) (w : Walk J n G Y) (tab : GxR.TabG H1 Pa) (Pv : Nat → List V → Hp → Prop) (h0 : ∀ H2, Ext H1 H2 → Pv 0 [] H2) (hG : ∀ i ys H', Pv i ys H' → G H')
    (hs : ∀ (i : Nat) (x : V) (ys : List V) (H' H'' : Hp), i < n → Pv i ys H' → Y i H' x H'' → g x (wipe σ vs) H'' fun σ2 H2 => wipe σ2 vs = wipe σ vs ∧ tt σ2 H2 fun b H3 => if b = true then te σ2 H3 fun y H4 => (∃ b, y = .bl b ∧ (b = true → Q (.bl true) H4)) ∧ ys.length < sizeLine ∧ (y = .bl false → Pv (i + 1) (ys ++ [y]) H4) else Pv (i + 1) ys H3)
    (hd : ∀ (ys : List V) (H' : Hp), Pv n ys H' → Q (.bl false) H') : GX.tAnyG wi g tt te vs Pa σ H Q := by
  exact hwi _ ⟨tab, fun H2 hT => ⟨_, fun _ x H' => ∃ b, x = .bl b ∧ (b = true → Q (.bl true) H'), fun ys H' => Pv n ys H', n, ⟨rfl, Nat.zero_le _, h0 H2 (Ext.tabbed tab hT)⟩, GX.g_it w Pv (fun i ys H' _ p => hG i ys H' p) hs fun ys H' p => p, fun ys H' p => hd ys H' p, fun ys x H' p => p⟩⟩
end
section
variable {P : Program} {w : World} {K : PySem.W.Frag} {mg : Str → Option Value} {base : Heap}
abbrev CPlay (P : Program) (w : World) (K : PySem.W.Frag) (mg : Str → Option Value) (base : Heap) : Prop := Cal P w K mg base 3 "played" ["program", "schedule"] spPlay
abbrev sPossL : Stmt := tx 12
def spPossL (Pa : Addr) : Sp := fun vs H Q _ => ∃ x y e0 Th ws, vs = [x, y] ∧ PW H x e0 Th ∧ Tn H y ws ∧ okw Th e0 (zeroL Th.length) ws = true ∧ GxR.TabG H Pa ∧
  ∀ v H', Ext H H' → Tn H' v (possL Th (play Th e0 (zeroL Th.length) ws).1 (play Th e0 (zeroL Th.length) ws).2) → Q v H'
theorem scPossL : FnScope ["program", "schedule", "done", "values", "thread"] ["program", "schedule"] (defScope sPossL) := ⟨rfl, rfl, rfl, by decide +kernel, rfl, by decide +kernel, by decide +kernel⟩
theorem ok_possL {f c Pa : Addr} {fd : FuncData} (F : FunC K "possible" "possible" sPossL f fd c) (TB : GxR.TabB base mg c Pa) (B : Bt mg) (c1 : CPlay P w K mg base) (c2 : CPoss P w K mg base) : FnOk P w K mg base CX0 5 f fd ["program", "schedule"] (spPossL Pa) := by
  refine F.ok scPossL (fun vs H Q E h => ?_) (fun A outer s H vs Q E hr h => ?_)
  · obtain ⟨x, y, e0, Th, ws, rfl, _⟩ := h
    rfl
  · obtain ⟨x, y, e0, Th, ws, rfl, hp, hw, hok, tab, q⟩ := h
    refine ⟨_, pss_cons (ps_asg (pe_cal c1 (hr.mono (by decide)) rfl (pa_cons (pv 0) (pa_cons (pv 1) pa_nil))) (pg_tup rfl (pgs_cons (pg_name (i := 3) scPossL.nd rfl (.inr rfl)) (pgs_cons (pg_name (i := 2) scPossL.nd rfl (.inr rfl)) pgs_nil))))
      (pss_one (ps_ret (GX.pe_tupG (own := [("thread", 4)]) (g := gName 4) (k := 3) rfl hr TB rfl scPossL.nd (by rfl) B.tuple (pi_range1 (by rfl) B.range (pa_cons (pe_callB call_len (by rfl) B.len PySem.boot_len (pa_cons (pv 2) pa_nil)) pa_nil)) (blkOk_by (N := ["program", "schedule", "done", "values", "thread"]) (sc := defScope sPossL) (by decide +kernel)) rfl (by decide +kernel) (by decide +kernel)
        (fun _ _ _ _ _ _ _ _ _ => pg_name (i := 4) scPossL.nd rfl (.inl rfl)) (fun _ _ _ _ _ _ _ _ hrw => pts_one (pt_val (pe_cal c2 (hrw.deeper _) rfl (pa_cons (pv 0) (pa_cons (pv 3) (pa_cons (pv 2) (pa_cons (pv 4) pa_nil))))))) (fun _ _ _ _ _ _ _ _ _ => pv 4)))), ?_⟩
    simp only [tVar, tC, tOp, tUn, tTest, tChain, tNil, tCons, tTup, tLst, tCall, tMeth, tMake, tCB, tIf, tAndV, tOrV, tNotV, tIsN, tNotN, tB, tAnd, tOr, tNot, tNext, tSeq, tDrop, tRet, tRetN, tIfS, tNever, gName, gNil, gCons, gSub, tAsg, tAug, tAugS, ipI, tBM, tBM0, tSl, tNoPart, tPart, tDGet, tDIn, tDNotIn, tDGet1, tDNewT, tDNewK, tYes, rI0, rI, rU, rAdd, rSub, rEq, rNe, L2.start, List.map_cons, List.map_nil, List.length_cons, List.length_nil, List.replicate, List.append_nil, List.nil_append, List.cons_append, List.getElem?_cons_zero, List.getElem?_cons_succ, List.set_cons_zero, List.set_cons_succ, Option.some.injEq, V.int.injEq, V.bl.injEq, V.ref.injEq, V.str.injEq, exists_eq_left', exists_eq_left, exists_and_left, true_and, and_true, Nat.reduceAdd, Nat.reduceSub, Nat.add_one_sub_one, Nat.sub_self, Bool.true_eq_false, Bool.false_eq_true, if_true, if_false, ite_true, ite_false, cxOf, Cx.nox, decide_eq_true_eq, reduceCtorEq, decide_false, decide_true, Bool.not_false, Bool.not_true, eq_self, upd_same, L2.upd_upd, List.cons.injEq, and_assoc]
    refine ⟨x, y, e0, Th, ws, rfl, hp, hw, hok, fun v H1 vv dd e1 hv hvv hdd => tu_tgt hv ?_⟩
    simp only [tVar, tC, tOp, tUn, tTest, tChain, tNil, tCons, tTup, tLst, tCall, tMeth, tMake, tCB, tIf, tAndV, tOrV, tNotV, tIsN, tNotN, tB, tAnd, tOr, tNot, tNext, tSeq, tDrop, tRet, tRetN, tIfS, tNever, gName, gNil, gCons, gSub, tAsg, tAug, tAugS, ipI, tBM, tBM0, tSl, tNoPart, tPart, tDGet, tDIn, tDNotIn, tDGet1, tDNewT, tDNewK, tYes, rI0, rI, rU, rAdd, rSub, rEq, rNe, L2.start, List.map_cons, List.map_nil, List.length_cons, List.length_nil, List.replicate, List.append_nil, List.nil_append, List.cons_append, List.getElem?_cons_zero, List.getElem?_cons_succ, List.set_cons_zero, List.set_cons_succ, Option.some.injEq, V.int.injEq, V.bl.injEq, V.ref.injEq, V.str.injEq, exists_eq_left', exists_eq_left, exists_and_left, true_and, and_true, Nat.reduceAdd, Nat.reduceSub, Nat.add_one_sub_one, Nat.sub_self, Bool.true_eq_false, Bool.false_eq_true, if_true, if_false, ite_true, ite_false, cxOf, Cx.nox, decide_eq_true_eq, reduceCtorEq, decide_false, decide_true, Bool.not_false, Bool.not_true, eq_self, upd_same, L2.upd_upd, List.cons.injEq, and_assoc]
    have hdl : (play Th e0 (zeroL Th.length) ws).2.length = Th.length := by rw [play_length, zeroL_length]
    have hdom : dom (play Th e0 (zeroL Th.length) ws).1 = dom e0 := dom_play _ _ _
    have n3 := hp.n3
    generalize play Th e0 (zeroL Th.length) ws = pl at *
    have hlen : (nI pl.2).length = Th.length := by rw [nI_length, hdl]
    refine tupG_it (J := Itr 0 Th.length) (n := Th.length) (H1 := H1) (fun R h => ?_) walk_range (e1.2.tab tab) (fun i ys H' => Ext H1 H' ∧ ys = nI ((List.range i).filter (poss Th pl.1 pl.2))) (fun H2 e2 => ⟨e2, rfl⟩) (fun _ _ _ _ => trivial) ?_ ?_
    · unfold iRng1
      simp only [tVar, tC, tOp, tUn, tTest, tChain, tNil, tCons, tTup, tLst, tCall, tMeth, tMake, tCB, tIf, tAndV, tOrV, tNotV, tIsN, tNotN, tB, tAnd, tOr, tNot, tNext, tSeq, tDrop, tRet, tRetN, tIfS, tNever, gName, gNil, gCons, gSub, tAsg, tAug, tAugS, ipI, tBM, tBM0, tSl, tNoPart, tPart, tDGet, tDIn, tDNotIn, tDGet1, tDNewT, tDNewK, tYes, rI0, rI, rU, rAdd, rSub, rEq, rNe, L2.start, List.map_cons, List.map_nil, List.length_cons, List.length_nil, List.replicate, List.append_nil, List.nil_append, List.cons_append, List.getElem?_cons_zero, List.getElem?_cons_succ, List.set_cons_zero, List.set_cons_succ, Option.some.injEq, V.int.injEq, V.bl.injEq, V.ref.injEq, V.str.injEq, exists_eq_left', exists_eq_left, exists_and_left, true_and, and_true, Nat.reduceAdd, Nat.reduceSub, Nat.add_one_sub_one, Nat.sub_self, Bool.true_eq_false, Bool.false_eq_true, if_true, if_false, ite_true, ite_false, cxOf, Cx.nox, decide_eq_true_eq, reduceCtorEq, decide_false, decide_true, Bool.not_false, Bool.not_true, eq_self, upd_same, L2.upd_upd, List.cons.injEq, and_assoc]
      refine tu_len hdd ⟨_, rfl, by omega, by omega, ?_⟩
      rw [hlen, Int.toNat_natCast]
      exact h
    · rintro i x1 ys H' H'' hi ⟨e2, rfl⟩ ⟨rfl, rfl⟩
      simp only [tVar, tC, tOp, tUn, tTest, tChain, tNil, tCons, tTup, tLst, tCall, tMeth, tMake, tCB, tIf, tAndV, tOrV, tNotV, tIsN, tNotN, tB, tAnd, tOr, tNot, tNext, tSeq, tDrop, tRet, tRetN, tIfS, tNever, gName, gNil, gCons, gSub, tAsg, tAug, tAugS, ipI, tBM, tBM0, tSl, tNoPart, tPart, tDGet, tDIn, tDNotIn, tDGet1, tDNewT, tDNewK, tYes, rI0, rI, rU, rAdd, rSub, rEq, rNe, L2.start, List.map_cons, List.map_nil, List.length_cons, List.length_nil, List.replicate, List.append_nil, List.nil_append, List.cons_append, List.getElem?_cons_zero, List.getElem?_cons_succ, List.set_cons_zero, List.set_cons_succ, Option.some.injEq, V.int.injEq, V.bl.injEq, V.ref.injEq, V.str.injEq, exists_eq_left', exists_eq_left, exists_and_left, true_and, and_true, Nat.reduceAdd, Nat.reduceSub, Nat.add_one_sub_one, Nat.sub_self, Bool.true_eq_false, Bool.false_eq_true, if_true, if_false, ite_true, ite_false, cxOf, Cx.nox, decide_eq_true_eq, reduceCtorEq, decide_false, decide_true, Bool.not_false, Bool.not_true, eq_self, upd_same, L2.upd_upd, List.cons.injEq, and_assoc, wipe, Int.zero_add]
      have hps := hp.ext (e1.trans e2)
      refine ⟨x, vv, dd, e0, pl.1, Th, pl.2, i, rfl, hps.prog, hp.wf, hvv.ext e2, hdom, hdd.ext e2, hi, by omega, _, rfl, ?_⟩
      refine ifd (fun hps => ?_) (fun hps => ?_)
      · refine ⟨small1000 ?_, fun _ => ⟨e2, ?_⟩⟩
        · rw [nI_length]
          have := List.length_filter_le (poss Th pl.1 pl.2) (List.range i)
          rw [List.length_range] at this
          omega
        · rw [List.range_succ, List.filter_append, nI_append]
          simp [hps, nI]
      · refine ⟨e2, ?_⟩
        rw [List.range_succ, List.filter_append, nI_append]
        simp [hps, nI]
    · rintro ys H' ⟨e2, rfl⟩
      refine ⟨?_, fun p np => q _ _ ((e1.trans e2).trans (Ext.new np)) ⟨p, rfl, ?_⟩⟩
      · rw [nI_length]
        have := List.length_filter_le (poss Th pl.1 pl.2) (List.range Th.length)
        rw [List.length_range] at this
        omega
      · rw [upd_same]
        unfold possL
        rw [hdl]
end
end TW

set_option maxHeartbeats 8000000
/-! TwH: sorted(d.items()) of the values, values_behind. -/
namespace TW
open PySem PySem.Spec PyProof.Rows L2
open TC hiding Step Env
def chOf (x : Str) : Nat := x.cps.toList.headD 0
def rk (h : Heap) (v : Value) : Int := (chOf (DT.txOf (DT.seqAt0 h (DT.refOf (some v)))) : Nat)
/-- v is a pair (name, value) -/
def EnvP (h : Heap) (v : Value) (p : Nat × Int) : Prop := ∃ a t u, v = .ref a ∧ IsTup h a #[.str (nm p.1) t, .int p.2 u]
theorem EnvP.rk {h : Heap} {v : Value} {p : Nat × Int} (x : EnvP h v p) : rk h v = (p.1 : Nat) := by
  obtain ⟨a, t, u, rfl, ht⟩ := x
  unfold TW.rk
  have : DT.seqAt0 h (DT.refOf (some (Value.ref a))) = some (.str (nm p.1) t) := by
    show DT.seqAt0 h a = _
    rw [DT.seqAt0_of ht]; rfl
  rw [this]
  rfl
theorem nm_lt (a b : Nat) : decide ((nm a).cps.toList < (nm b).cps.toList) = decide ((a : Int) < (b : Int)) := by
  have : ((nm a).cps.toList < (nm b).cps.toList) ↔ a < b := by simp [nm, List.cons_lt_cons_iff]
  simp only [this, Int.ofNat_lt]
section
variable {prog : Program} {w : World} {A : Around} {E : Value → Shared → Prop} {s : Shared}
theorem env_firsts {h : Heap} : ∀ vs : List Value, (∀ v ∈ vs, ∃ p, EnvP h v p) → ∃ fs : List Value, PySem.W.KatTups h vs fs ∧ fs.length = vs.length ∧ ∀ f ∈ fs, ∃ x t, f = Value.str x t
  | [], _ => ⟨[], PySem.W.KatTups.nil, rfl, fun f hf => by simp at hf⟩
  | v :: vs, x => by
    obtain ⟨fs, k, hl, hi⟩ := env_firsts vs fun u hu => x u (List.mem_cons_of_mem _ hu)
    obtain ⟨p, a, t, u, rfl, ⟨o, ho, hc, n, hd⟩⟩ := x v (List.mem_cons_self ..)
    refine ⟨.str (nm p.1) t :: fs, PySem.W.KatTups.cons ho hc hd rfl k, by rw [List.length_cons, List.length_cons, hl], fun f hf => ?_⟩
    rcases List.mem_cons.mp hf with rfl | hf
    · exact ⟨_, _, rfl⟩
    · exact hi f hf
theorem env_kind {vs : List Value} (h2 : 2 ≤ vs.length) (x : ∀ v ∈ vs, ∃ p, EnvP s.heap v p) (uq : ∀ v ∈ vs, ∀ u ∈ vs, ∀ p q, EnvP s.heap v p → EnvP s.heap u q → p.1 = q.1 → p = q) (Q : SortKind → Shared → Prop)
    (h : ∀ κ, TS.Cmp prog w A s κ (pairsOf vs) (rk s.heap) → Q κ s) : wpAny (model prog w) A (keyKind' vs.toArray) Q E s := by
  obtain ⟨fs, k, hl, hi⟩ := env_firsts vs x
  refine PySem.W.kat_kind (T := Value.type "str") k (by omega) (fun f hf => ?_) rfl (h _ ?_)
  · obtain ⟨y, t, rfl⟩ := hi f hf
    exact PySem.W.Looks.now
  · have hb : (Value.type "str" != Value.type "tuple") = true := by first | decide +kernel | rfl | decide
    rw [hb]
    intro p q hp hq Q' E' hQ
    rw [pairsOf_toList] at hp hq
    have mp := (mem_zip_self hp).2
    have mq := (mem_zip_self hq).2
    obtain ⟨c, pc⟩ := x _ mp
    obtain ⟨d, pd⟩ := x _ mq
    have hu := uq _ mp _ mq c d pc pd
    rw [pc.rk, pd.rk] at hQ
    obtain ⟨a, t, u, e1, ⟨o, ho, hc, n, hd⟩⟩ := pc
    obtain ⟨a', t', u', e2, ⟨o', ho', hc', n', hd'⟩⟩ := pd
    rw [e1, e2]
    refine PySem.W.kat_lt ho hd ho' hd' ?_
    show PySem.W.KatLex prog w A true _ Q' [(Value.str (nm c.1) t, Value.str (nm d.1) t'), (Value.int c.2 u, Value.int d.2 u')] 0 s
    by_cases e : c.1 = d.1
    · have ecd := hu e
      subst ecd
      refine PySem.W.kat_cons (SeqAt.EqAt.str_str _ _ _ _ prog w _ _ ?_)
      refine PySem.W.kat_go (fun _ => ?_) (fun e0 => absurd e0 (by simp))
      refine PySem.W.kat_yes (PySem.W.kat_cons (SeqAt.EqAt.int_int _ _ _ _ prog w _ _ ?_))
      refine PySem.W.kat_go (fun _ => ?_) (fun e0 => absurd e0 (by simp))
      refine PySem.W.kat_yes (PySem.W.kat_nil ?_)
      have z : decide (((c.1 : Nat) : Int) < ((c.1 : Nat) : Int)) = decide ((#[Value.str (nm c.1) t, Value.int c.2 u] : Array Value).size < (#[Value.str (nm c.1) t', Value.int c.2 u'] : Array Value).size) := by simp
      rw [← z]; exact hQ
    · refine PySem.W.kat_cons (SeqAt.EqAt.str_str _ _ _ _ prog w _ _ ?_)
      refine PySem.W.kat_go (fun e0 => ?_) (fun _ => ?_)
      · exact absurd (nm_inj (by simpa using e0)) e
      · refine PySem.W.kat_no (PyProof.Rows.oneLt_str ?_)
        rw [nm_lt]; exact hQ
end
section
variable {X : Cx}
/-- sorted(d.items()) -/
def rSortEnv : List V → Hp → VK → Prop := fun vs H Q => ∃ (p a : Addr) (e : TC.Env), vs = [.ref p] ∧ H p = some (DX.itemsO p a) ∧ H a = some (.dK (envK e)) ∧ e.length < 64 ∧ (dom e).Nodup ∧
  ∀ (H' : Hp) (l : Addr) (zs : List (Addr × Nat × Int)), Same H H' → H l = none → (zs.map (·.2)).Perm e → (zs.map (·.2)).Pairwise (fun p q => p.1 ≤ q.1) → H' l = some (.lst (zs.map fun z => V.ref z.1)) →
    (∀ z ∈ zs, H' z.1 = some (.tup [.str (nm z.2.1), .int z.2.2])) → Q (.ref l) H'
theorem cr_sortEnv (hc : X.calm = true) : CallR X (.builtin "sorted") rSortEnv := by
  intro pins s σ H xs us Q I r h
  obtain ⟨p, a, ks, rfl, hp, ha, h64, hnd, q⟩ := h
  obtain rfl := Vals.ref1 r
  have view : s.heap.IsItemsView p a := (show ObjOk X.prog X.w H s.heap p (DX.itemsO p a) from I.hok p _ hp).1
  obtain ⟨z, hd, vs0, rel, o, es, ep, ho, hx, hdat, hkeys, hprs, hn⟩ := dk_of I.hok ha
  have l1 : ks.length = vs0.length := by
    have := rel.length
    rw [envK_length] at this
    exact this
  have l2 : es.size = vs0.length := by rw [← hprs.length]; simp
  have hh : X.A.handled = none := I.ok.hd hc
  refine DT.sortedI (es := es) (ep := ep) hh view ⟨o, ho, hx, hdat⟩ (by rw [sizeLine_eq]; omega) fun h' tk as hk hlt hl hG => ?_
  have lak : as.length = ks.length := by omega
  have nd : as.Nodup := List.Pairwise.imp (fun h => Nat.ne_of_lt h) hG.rise
  -- the pairs that were made
  have pr : ∀ (j : Nat) (b : Addr), as[j]? = some b → ∃ (e : Nat × Int) (t u : Tok), ks[j]? = some e ∧ h'.get? b = some { cls := .type "tuple", data := .seq #[Value.str (nm e.1) t, Value.int e.2 u] } := by
    intro j b hj
    obtain ⟨en, he, hg⟩ := hG.pairs j b hj
    have hjl : j < ks.length := by rw [← lak]; exact (List.getElem?_eq_some_iff.mp hj).1
    obtain ⟨e, hej⟩ := eq_at hjl
    obtain ⟨y, hy, r1, r2⟩ : ∃ y, vs0[j]? = some y ∧ (Sum.inr (nm e.1) : Key) = y.1 ∧ RelV (.int e.2) y.2 := by
      have hjv : j < vs0.length := by rw [← l1]; exact hjl
      obtain ⟨y, hy⟩ := eq_at hjv
      obtain ⟨x0, hx0, g1, g2⟩ := DX.pget rel hy
      have : (envK ks)[j]? = some (Sum.inr (nm e.1), V.int e.2) := by unfold envK; rw [List.getElem?_map, hej]; rfl
      rw [this] at hx0
      cases hx0
      exact ⟨y, hy, g1, g2⟩
    obtain ⟨k, v⟩ := y
    obtain ⟨hkey, hval⟩ := hprs.get? (e := en) (by rw [Array.getElem?_toList]; exact he) hy
    have r1 : k = Sum.inr (nm e.1) := r1.symm
    subst r1
    obtain ⟨u, hu⟩ := r2
    have hu : v = Value.int e.2 u := hu
    have hkey : keyIs (Sum.inr (nm e.1)) en.key = true := hkey
    rcases keyIs_shape hkey with ⟨i, t, e1, e2⟩ | ⟨x, t, e1, e2⟩
    · cases e1
    · cases e1
      refine ⟨e, t, u, hej, ?_⟩
      rw [hg, e2, hval, hu]
  have hob : (h'.push { cls := .type "list", data := .seq (as.map Value.ref).toArray }).get? h'.objs.size = some (seqObj "list" (as.map Value.ref).toArray 0) := Heap.get?_push_size _ rfl
  have kb : ∀ b o, s.heap.get? b = some o → (h'.push { cls := .type "list", data := .seq (as.map Value.ref).toArray }).get? b = some o := fun b o e => Heap.get?_push_of_some _ (hk b o e)
  have ne0 : ∀ b o, h'.get? b = some o → b ≠ h'.objs.size := fun b o e => Nat.ne_of_lt (Heap.lt_size e)
  generalize hh2 : h'.push { cls := .type "list", data := .seq (as.map Value.ref).toArray } = h2 at hob kb ⊢
  have ka : ∀ b o, h'.get? b = some o → h2.get? b = some o := fun b o e => by rw [← hh2]; exact Heap.get?_push_of_some _ e
  have pin : ∀ (j : Nat) (b : Addr), as[j]? = some b → ∃ e : Nat × Int, ks[j]? = some e ∧ EnvP (TS.midHeap h2 h'.objs.size (as.map Value.ref)) (.ref b) e := by
    intro j b hj
    obtain ⟨e, t, u, he, hg⟩ := pr j b hj
    exact ⟨e, he, b, t, u, rfl, ⟨_, TS.midHeap_old (ne0 _ _ hg) (ka _ _ hg), rfl, 0, rfl⟩⟩
  have at_ : ∀ v ∈ as.map Value.ref, ∃ (j : Nat) (b : Addr) (e : Nat × Int), v = .ref b ∧ as[j]? = some b ∧ ks[j]? = some e ∧ EnvP (TS.midHeap h2 h'.objs.size (as.map Value.ref)) (.ref b) e := by
    intro v hv'
    obtain ⟨b, hb, rfl⟩ := List.mem_map.mp hv'
    obtain ⟨j, hj⟩ := List.mem_iff_getElem?.mp hb
    obtain ⟨e, he, hp'⟩ := pin j b hj
    exact ⟨j, b, e, rfl, hj, he, hp'⟩
  have one : ∀ {h : Heap} {v : Value} {p q : Nat × Int}, EnvP h v p → EnvP h v q → p = q := fun {h v p q} x y => by
    obtain ⟨a1, t1, u1, e1, ⟨o1, g1, _, n1, d1⟩⟩ := x
    obtain ⟨a2, t2, u2, e2, ⟨o2, g2, _, n2, d2⟩⟩ := y
    rw [e1] at e2
    cases e2
    rw [g1] at g2
    cases g2
    rw [d1] at d2
    injection d2 with d3 _
    have d4 := congrArg Array.toList d3
    simp only [List.cons.injEq, Value.str.injEq, Value.int.injEq] at d4
    exact Prod.ext (nm_inj d4.1.1) d4.2.1.1
  have uqk : ∀ (i j : Nat) (e f : Nat × Int), ks[i]? = some e → ks[j]? = some f → e.1 = f.1 → e = f := fun i j e f hi hj hef => by
    have d1 : (dom ks)[i]? = some e.1 := by unfold dom; rw [List.getElem?_map, hi]; rfl
    have d2 : (dom ks)[j]? = some e.1 := by unfold dom; rw [List.getElem?_map, hj, hef]; rfl
    have : i = j := (List.getElem?_inj (List.getElem?_eq_some_iff.mp d1).1 hnd).mp (d1.trans d2.symm)
    subst this
    rw [hi] at hj
    cases hj; rfl
  refine wpAny_call_entry PyProof.Rows.slot_list_sort ⟨_, hob, rfl⟩ PyProof.Rows.entry_list_sort
    (SK.plain_sort (s := { s with heap := h2, toks := tk }) (r := rk (TS.midHeap h2 h'.objs.size (as.map Value.ref))) hob (by rw [List.length_map]; omega) (fun h2' Qk hQk => ?_) fun ps out o1 o2 o3 => ⟨.none, rfl, ?_⟩) (PyProof.Rows.args_list_sort _)
  · refine env_kind (s := { s with heap := TS.midHeap h2 h'.objs.size (as.map Value.ref), toks := tk }) h2' (fun v hv' => ?_) (fun v hv' u hu' p q hp hq hpq => ?_) Qk hQk
    · obtain ⟨j, b, e, rfl, _, _, hp'⟩ := at_ v hv'
      exact ⟨e, hp'⟩
    · obtain ⟨j, b, e, rfl, _, he, hp'⟩ := at_ v hv'
      obtain ⟨j2, b2, e2, rfl, _, he2, hp2⟩ := at_ u hu'
      have q1 : p = e := one hp hp'
      have q2 : q = e2 := one hq hp2
      rw [q1, q2] at hpq ⊢
      exact uqk _ _ _ _ he he2 hpq
  · show EP X pins σ Q (.ref h'.objs.size) { s with heap := sortedHeap h2 h'.objs.size (as.map Value.ref) out, toks := tk }
    obtain ⟨zs, pz, ez⟩ := perm_lift (fun z : Addr × Nat × Int => (Value.ref z.1, Value.ref z.1)) o2 (as.zip ks) (DX.zip_self Value.ref as ks lak)
    have idx : ∀ z ∈ zs, ∃ j : Nat, as[j]? = some z.1 ∧ ks[j]? = some z.2 := by
      intro z' hz'
      obtain ⟨j, hj⟩ := List.mem_iff_getElem?.mp (pz.mem_iff.mp hz')
      exact ⟨j, List.getElem?_zip_eq_some.mp hj⟩
    have hout : out.toList = zs.map fun z => Value.ref z.1 := by
      rw [o1, ← ez, List.map_map]
      all_goals rfl
    have hperm : (zs.map (·.2)).Perm ks := by
      have e := pz.map (·.2)
      have m2 : (as.zip ks).map (·.2) = ks := List.map_snd_zip (by rw [lak]; exact Nat.le_refl _)
      rw [m2] at e
      exact e
    have rkz : ∀ z ∈ zs, rk (TS.midHeap h2 h'.objs.size (as.map Value.ref)) (.ref z.1) = (z.2.1 : Nat) := fun z' hz' => by
      obtain ⟨j, j1, j2⟩ := idx z' hz'
      obtain ⟨e, he, hp'⟩ := pin j _ j1
      rw [j2] at he
      cases he
      exact hp'.rk
    have hsort : (zs.map (·.2)).Pairwise (fun e f => e.1 ≤ f.1) := by
      rw [← ez, List.pairwise_map] at o3
      rw [List.pairwise_map]
      refine List.Pairwise.imp_of_mem (fun {x y} hx hy h => ?_) o3
      have h' : rk (TS.midHeap h2 h'.objs.size (as.map Value.ref)) (.ref x.1) ≤ rk (TS.midHeap h2 h'.objs.size (as.map Value.ref)) (.ref y.1) := h
      rw [rkz x hx, rkz y hy] at h'
      exact Int.ofNat_le.mp h'
    have kF : ∀ b o, b ≠ h'.objs.size → h2.get? b = some o → (sortedHeap h2 h'.objs.size (as.map Value.ref) out).get? b = some o := fun b o hb e => (PyProof.Rows.sortedHeap_old hb (Heap.lt_size e)).trans e
    have kS : ∀ b o, s.heap.get? b = some o → (sortedHeap h2 h'.objs.size (as.map Value.ref) out).get? b = some o := fun b o e => kF b o (ne0 _ _ (hk b o e)) (kb b o e)
    obtain ⟨eF, heF⟩ := PyProof.Rows.sortedHeap_at (vs := as.map Value.ref) (out := out) hob
    have I1 : Inv X pins σ H { s with heap := sortedHeap h2 h'.objs.size (as.map Value.ref) out, toks := tk } := I.kept (t' := tk) kS
    have hn0 : H h'.objs.size = none := I.hok.fresh (Nat.le_of_lt hlt)
    have hlen : (zs.map fun z => V.ref z.1).length ≤ sizeLine := by
      have e := hperm.length_eq
      rw [List.length_map] at e
      rw [List.length_map, sizeLine_eq]
      omega
    have rv : Vals (zs.map fun z => V.ref z.1) out.toList := by
      rw [hout]
      exact vals_maps (fun z : Addr × Nat × Int => V.ref z.1) (fun z => Value.ref z.1) zs fun _ _ => rfl
    have I2 : Inv X pins σ (upd H h'.objs.size (.lst (zs.map fun z => V.ref z.1))) { s with heap := sortedHeap h2 h'.objs.size (as.map Value.ref) out, toks := tk } :=
      I1.take (h' := sortedHeap h2 h'.objs.size (as.map Value.ref) out) (t' := tk) (fun b ob _ e => e) (I.fpOk (Nat.le_of_lt hlt) hn0) ⟨hlen, out.toList, eF, rv, heF⟩
    obtain ⟨H2, I3, g, qt⟩ := DX.takeT (P := fun b vs => ∃ (j : Nat) (e : Nat × Int), as[j]? = some b ∧ ks[j]? = some e ∧ vs = [.str (nm e.1), .int e.2]) I as _ I2 nd fun b hb => by
      obtain ⟨j, hj⟩ := List.mem_iff_getElem?.mp hb
      obtain ⟨e, t, u, he, hg⟩ := pr j b hj
      have hbl : s.heap.objs.size ≤ b := Nat.le_of_lt (hG.above b hb)
      refine ⟨hbl, ?_, [.str (nm e.1), .int e.2], ⟨j, e, hj, he, rfl⟩, fun H3 => ⟨(by rw [sizeLine_eq]; show 2 ≤ 16777216; omega), [Value.str (nm e.1) t, Value.int e.2 u], .cons ⟨t, rfl⟩ (.cons ⟨u, rfl⟩ .nil), ⟨_, kF _ _ (ne0 _ _ hg) (ka _ _ hg), rfl, 0, rfl⟩⟩⟩
      rw [upd_ne (ne0 _ _ hg)]
      exact I.hok.fresh hbl
    have gr : ∀ b o, H b = some o → H2 b = some o := fun b o e => g b o (by rw [upd_ne (ne_of_none e hn0)]; exact e)
    refine ⟨.ref h'.objs.size, H2, I3, rfl, q H2 h'.objs.size zs gr hn0 hperm hsort (g _ _ upd_same) fun z' hz' => ?_⟩
    obtain ⟨i, i1, i2⟩ := idx z' hz'
    obtain ⟨vs, ⟨j, e, j1, j2, ev⟩, hH⟩ := qt z'.1 (List.mem_of_getElem? i1)
    have eij : i = j := (List.getElem?_inj (List.getElem?_eq_some_iff.mp i1).1 nd).mp (i1.trans j1.symm)
    subst eij
    have ee : e = z'.2 := Option.some.inj (j2.symm.trans i2)
    rw [ev, ee] at hH
    exact hH
/-- d.items() -/
def rItemsK : V → List V → Hp → VK → Prop := fun x xs H Q => ∃ (a : Addr) (kvs : List (Key × V)), x = .ref a ∧ xs = [] ∧ H a = some (.dK kvs) ∧ ∀ p, H p = none → Q (.ref p) (upd H p (DX.itemsO p a))
theorem mt_itemsK : MtR X "dict.items" rItemsK := by
  intro pins s σ H x xs v us Q I rx rxs h
  obtain ⟨a, kvs, rfl, rfl, ha, q⟩ := h
  cases rx
  cases rxs
  obtain ⟨z, hd, xs', rel, o, es, ep, ho, hx, hdat, _⟩ := dk_of I.hok ha
  refine DT.callItems (es := es) (ep := ep) hd ⟨o, ho, hx, hdat⟩ ?_
  have hf : H s.heap.objs.size = none := I.hok.fresh (Nat.le_refl _)
  exact ⟨.ref s.heap.objs.size, upd H s.heap.objs.size (DX.itemsO s.heap.objs.size a), I.laid (t' := s.toks) (fun b u e => Heap.get?_push_of_some _ e) (Nat.le_refl _) (DX.itemsO_ok (Heap.get?_push_size _ rfl)), rfl, q _ hf⟩
/-- tuple(xs), a plain one -/
def rTupF (K : PySem.W.Frag) : List V → Hp → VK → Prop := fun xs H Q => ∃ p ys, xs = [.ref p] ∧ SqL K H p ys ∧ ∀ l o, H l = none → o.dict = none → Q (.ref l) (upd H l (.frz o (.tup ys)))
theorem cr_tupF : CallR X (.type "tuple") (rTupF X.K) := GX.cr_tupleF
end
section
variable {P : Program} {w : World} {K : PySem.W.Frag} {mg : Str → Option Value} {base : Heap}
theorem A2.of_map {α β γ : Type} {R : α → β → Prop} (l : List γ) (f : γ → α) (g : γ → β) (h : ∀ z ∈ l, R (f z) (g z)) : A2 R (l.map f) (l.map g) := by
  refine ⟨by rw [List.length_map, List.length_map], fun i x hx => ?_⟩
  rw [List.getElem?_map] at hx
  cases q : l[i]? with
  | none => rw [q] at hx; cases hx
  | some z =>
    rw [q] at hx
    cases hx
    exact ⟨g z, by rw [List.getElem?_map, q]; rfl, h z (List.mem_of_getElem? q)⟩
abbrev sBehind : Stmt := tx 11
def spBehind : Sp := fun vs H Q _ => ∃ x y e0 Th ws, vs = [x, y] ∧ PW H x e0 Th ∧ Tn H y ws ∧ okw Th e0 (zeroL Th.length) ws = true ∧
  ∀ v H' ps e', Ext H H' → Pt H' v ps → A2 (pairP H') ps e' → e'.Perm (play Th e0 (zeroL Th.length) ws).1 → e'.Pairwise (fun p q => p.1 ≤ q.1) → Q v H'
theorem scBehind : FnScope ["program", "schedule"] ["program", "schedule"] (defScope sBehind) := ⟨rfl, rfl, rfl, by decide +kernel, rfl, by decide +kernel, by decide +kernel⟩
theorem ok_behind {f : Addr} {fd : FuncData} (F : Fun K "values_behind" "values_behind" sBehind f fd) (B : Bt mg) (c1 : CPlay P w K mg base) : FnOk P w K mg base CX0 4 f fd ["program", "schedule"] spBehind := by
  refine F.ok scBehind (fun vs H Q E h => ?_) (fun cdv A outer s H vs Q E hr h => ?_)
  · obtain ⟨x, y, e0, Th, ws, rfl, _⟩ := h
    rfl
  · obtain ⟨x, y, e0, Th, ws, rfl, hp, hw, hok, q⟩ := h
    refine ⟨_, pss_one (ps_ret (pe_callTy cr_tupF (by rfl) B.tuple (by decide +kernel) (pa_cons (pe_callB (cr_sortEnv rfl) (by rfl) B.sorted (by decide +kernel) (pa_cons (pe_bm0 PySem.F.plainAttrs_dict PySem.F.slot_dict_items PySem.F.type_dict_items mt_itemsK
      (pe_ix ix_tup (pe_cal c1 hr rfl (pa_cons (pv 0) (pa_cons (pv 1) pa_nil))) pe_int (fun _ _ => rfl))) pa_nil)) pa_nil))), ?_⟩
    simp only [tVar, tC, tOp, tUn, tTest, tChain, tNil, tCons, tTup, tLst, tCall, tMeth, tMake, tCB, tIf, tAndV, tOrV, tNotV, tIsN, tNotN, tB, tAnd, tOr, tNot, tNext, tSeq, tDrop, tRet, tRetN, tIfS, tNever, gName, gNil, gCons, gSub, tAsg, tAug, tAugS, ipI, tBM, tBM0, tSl, tNoPart, tPart, tDGet, tDIn, tDNotIn, tDGet1, tDNewT, tDNewK, tYes, rI0, rI, rU, rAdd, rSub, rEq, rNe, L2.start, List.map_cons, List.map_nil, List.length_cons, List.length_nil, List.replicate, List.append_nil, List.nil_append, List.cons_append, List.getElem?_cons_zero, List.getElem?_cons_succ, List.set_cons_zero, List.set_cons_succ, Option.some.injEq, V.int.injEq, V.bl.injEq, V.ref.injEq, V.str.injEq, exists_eq_left', exists_eq_left, exists_and_left, true_and, and_true, Nat.reduceAdd, Nat.reduceSub, Nat.add_one_sub_one, Nat.sub_self, Bool.true_eq_false, Bool.false_eq_true, if_true, if_false, ite_true, ite_false, cxOf, Cx.nox, decide_eq_true_eq, reduceCtorEq, decide_false, decide_true, Bool.not_false, Bool.not_true, eq_self, upd_same, L2.upd_upd, List.cons.injEq, and_assoc]
    refine ⟨x, y, e0, Th, ws, rfl, hp, hw, hok, fun v H1 vv dd e1 hv hvv hdd => tu_ix 0 hv rfl ?_⟩
    have hdom : dom (play Th e0 (zeroL Th.length) ws).1 = dom e0 := dom_play _ _ _
    generalize play Th e0 (zeroL Th.length) ws = pl at *
    obtain ⟨a, rfl, ha⟩ := hvv
    refine ⟨.inr (.inr (.inl ⟨rfl, .inl ⟨_, ha⟩⟩)), a, envK pl.1, rfl, rfl, ha, fun p np => ?_⟩
    have nap : a ≠ p := ne_of_none ha np
    refine ⟨p, a, pl.1, rfl, upd_same, by rw [upd_ne nap]; exact ha, by rw [dom_len hdom]; exact Nat.lt_of_le_of_lt hp.wf.2.1 (by omega), by rw [hdom]; exact hp.wf.1, fun H2 l zs sm nl hpm hso hl hz => ?_⟩
    refine ⟨l, _, rfl, SqL.of hl, fun t o nt od => ?_⟩
    have e2 : Ext H1 H2 := (Ext.new (o := DX.itemsO p a) np).trans (Ext.same sm)
    have e3 := e2.trans (Ext.new (o := .frz o (.tup (zs.map fun z => V.ref z.1))) nt)
    refine q _ _ _ _ (e1.trans e3) ⟨t, o, rfl, upd_same, od⟩ (A2.of_map zs _ _ fun z hz' => ?_) hpm hso
    have := hz z hz'
    exact ⟨z.1, rfl, by rw [upd_ne (ne_of_none this nt)]; exact this⟩
end
end TW

set_option maxHeartbeats 8000000
/-! TwI: all_before. -/
namespace TW
open PySem PySem.Spec PyProof.Rows L2
open TC hiding Step Env
theorem remL_le : ∀ {P : Thr} {d : List Nat}, (∀ l ∈ P, l.length ≤ 2) → remL P d ≤ 2 * P.length
  | [], d, _ => by cases d <;> simp [remL]
  | s :: P, [], _ => by simp [remL]
  | s :: P, k :: d, h => by
    have h1 := h s List.mem_cons_self
    have h2 := remL_le (P := P) (d := d) fun l hl => h l (List.mem_cons_of_mem _ hl)
    simp only [remL, List.length_cons]
    omega
theorem okw_rem {P : Thr} : ∀ {w : List Nat} {e : TC.Env} {d : List Nat}, okw P e d w = true → d.length = P.length → w.length ≤ remL P d
  | [], _, _, _, _ => Nat.zero_le _
  | t :: w, e, d, h, hl => by
    have h : (poss P e d t && okw P (app e (nx P d t)) (inc d t) w) = true := h
    rw [Bool.and_eq_true] at h
    have h1 := okw_rem h.2 (by rw [inc_length]; exact hl)
    have h2 := rem_inc hl (nx_of h.1)
    rw [List.length_cons]; omega
theorem run_len {H : Hp} {x : V} {e0 : TC.Env} {P : Thr} (hp : PW H x e0 P) {w : List Nat} {e : TC.Env} (h : okw P e (zeroL P.length) w = true) : w.length ≤ 6 := by
  have h1 := okw_rem h (zeroL_length _)
  have h2 := remL_le (d := zeroL P.length) hp.l2
  have := hp.n3
  omega
/-- x is a list of numbers, not l0, new behind H0 -/
def LsN (H0 : Hp) (l0 : Addr) (H : Hp) (x : V) (r : List Nat) : Prop := ∃ a, x = .ref a ∧ a ≠ l0 ∧ H0 a = none ∧ H a = some (.lst (nI r))
theorem LsN.ext {H0 : Hp} {l0 : Addr} {H H' : Hp} {x : V} {r : List Nat} (h : LsN H0 l0 H x r) (e : Ext H H') : LsN H0 l0 H' x r := by
  obtain ⟨a, rfl, h1, h0, h2⟩ := h
  exact ⟨a, rfl, h1, h0, e.1 _ _ h2 (by simp)⟩
theorem LsN.set {H0 : Hp} {l0 : Addr} {H : Hp} {x : V} {r : List Nat} {o : HO} (h : LsN H0 l0 H x r) : LsN H0 l0 (upd H l0 o) x r := by
  obtain ⟨a, rfl, h1, h0, h2⟩ := h
  exact ⟨a, rfl, h1, h0, by rw [upd_ne h1]; exact h2⟩
/-- the heap but p -/
def del (p : Addr) (H : Hp) : Hp := fun b => if b = p then none else H b
theorem del_same {p : Addr} {H : Hp} : del p H p = none := if_pos rfl
theorem del_ne {p b : Addr} {H : Hp} (h : b ≠ p) : del p H b = H b := if_neg h
theorem Ext.del {p : Addr} {H : Hp} : Ext (del p H) H := by
  have k : ∀ {b o}, TW.del p H b = some o → H b = some o := fun {b o} h => by
    by_cases e : b = p
    · rw [e, del_same] at h; cases h
    · rw [del_ne e] at h; exact h
  exact ⟨fun b o h _ => k h, fun b ps h => ⟨ps, k h, id⟩⟩
theorem Ext.todel {p : Addr} {H H1 : Hp} (e : Ext H H1) (n : H p = none) : Ext H (TW.del p H1) := by
  have k : ∀ {b o}, H b = some o → b ≠ p := fun {b o} h q => by rw [q, n] at h; cases h
  refine ⟨fun b o h i => by rw [del_ne (k h)]; exact e.1 b o h i, fun b ps h => ?_⟩
  rw [del_ne (k h)]
  exact e.2 b ps h
theorem nats_of_ints : ∀ {ns : List Int}, (∀ k ∈ ns, ∃ j : Nat, k = j) → ∃ js : List Nat, ns = js.map (fun j : Nat => (j : Int))
  | [], _ => ⟨[], rfl⟩
  | n :: ns, h => by
    obtain ⟨j, rfl⟩ := h n List.mem_cons_self
    obtain ⟨js, rfl⟩ := nats_of_ints fun k hk => h k (List.mem_cons_of_mem _ hk)
    exact ⟨j :: js, rfl⟩
theorem ints_uniq {ns : List Int} {r : List Nat} (h1 : ns.Pairwise (· < ·)) (h2 : r.Pairwise (· < ·)) (h : ∀ k : Int, k ∈ ns ↔ ∃ j ∈ r, k = ((j : Nat) : Int)) : ns.map V.int = nI r := by
  obtain ⟨js, rfl⟩ := nats_of_ints (ns := ns) fun k hk => by
    obtain ⟨j, _, e⟩ := (h k).mp hk
    exact ⟨j, e⟩
  have h3 : js.Pairwise (· < ·) := by
    rw [List.pairwise_map] at h1
    exact h1.imp fun z => Int.ofNat_lt.mp z
  have : js = r := sorted_uniq h3 h2 fun k => by
    constructor
    · intro hk
      obtain ⟨j, hj, e⟩ := (h (k : Int)).mp (List.mem_map.mpr ⟨k, hk, rfl⟩)
      have : k = j := Int.ofNat.inj e
      rw [this]; exact hj
    · intro hk
      obtain ⟨j, hj, e⟩ := List.mem_map.mp ((h (k : Int)).mpr ⟨k, hk, rfl⟩)
      have : j = k := Int.ofNat.inj e
      rw [← this]; exact hj
  rw [this, List.map_map]
  rfl
/-! ### loops, comprehensions -/
theorem for_enumL {K : PySem.W.Frag} {ta : TA} {g : TG} {tb : TS} {D : Ends} {σ : L2.St} {H : Hp} {a : Addr} {xs : List V} (hta : ∀ R : List V → Hp → Prop, R [V.ref a] H → ta σ H R) (h : H a = some (.lst xs)) (Pv : Nat → L2.St → Hp → Prop) (h0 : Pv 0 σ H)
    (hG : ∀ i σ' H', Pv i σ' H' → H' a = some (.lst xs))
    (hs : ∀ (i : Nat) (x : V) (T : Addr) (σ' : L2.St) (H' : Hp), xs[i]? = some x → Pv i σ' H' → H' T = none → g (.ref T) σ' (upd H' T (.tup [.int (i : Nat), x])) fun σ2 H2 => tb { D with nx := Pv (i + 1), ct := Pv (i + 1), bk := D.nx } σ2 H2)
    (hd : ∀ σ' H', Pv xs.length σ' H' → D.nx σ' H') : tFor (iEnum K ta) g tb D σ H := by
  unfold tFor iEnum
  refine hta _ ⟨a, xs, rfl, SqL.of h, ?_⟩
  refine for_it walk_enum Pv h0 (fun i σ' H' _ p => SqL.of (hG i σ' H' p)) (fun i x σ' H' H'' hi p y => ?_) hd
  obtain ⟨T, x1, y1, e1, nT, e2, e3, e4⟩ := y
  cases e3
  subst e1 e2
  exact hs i y1 T σ' H' e4 p nT
section
variable {wi wi1 : TI} {g g1 : TG} {tt tt1 : TT} {te : TE} {vs vs1 : List Nat} {σ : L2.St} {H H1 : Hp} {Q : VK} {J : It} {n : Nat} {G : Hp → Prop} {Y : Nat → Hp → V → Hp → Prop}
theorem lc_w (hwi : ∀ R : It → Hp → Prop, R J H1 → wi σ H R) (w : Walk J n G Y) (h : ∀ D, H1 D = none → ∃ Pv : Nat → Hp → Prop, Pv 0 (upd H1 D (.lst [])) ∧ (∀ i H', Pv i H' → G H') ∧
    (∀ (i : Nat) (x : V) (H' H'' : Hp), i < n → Pv i H' → Y i H' x H'' → g x (wipe σ vs) H'' fun σ2 H2 => wipe σ2 vs = wipe σ vs ∧ tt σ2 H2 fun b H3 =>
      if b = true then te σ2 H3 fun y H4 => ∃ acc, H4 D = some (.lst acc) ∧ acc.length < sizeLine ∧ Pv (i + 1) (upd H4 D (.lst (acc ++ [y]))) else Pv (i + 1) H3) ∧ ∀ H', Pv n H' → Q (.ref D) H') : tLc wi g tt te vs σ H Q := by
  refine hwi _ fun D nD => ?_
  obtain ⟨Pv, a, b, c, d⟩ := h D nD
  exact lc_it w Pv a (fun i H' _ p => b i H' p) c d
/-- the inner walk of two -/
theorem in_w {J1 : It} {n1 : Nat} {G1 : Hp → Prop} {Y1 : Nat → Hp → V → Hp → Prop} {H4 : Hp} {Nx : Hp → Prop} {B : (Hp → Prop) → V → Hp → Prop} (w : Walk J1 n1 G1 Y1) (Pv : Nat → Hp → Prop) (h0 : Pv 0 H4) (hG : ∀ i H', Pv i H' → G1 H')
    (hs : ∀ (j : Nat) (x : V) (H' H'' : Hp), j < n1 → Pv j H' → Y1 j H' x H'' → B (Pv (j + 1)) x H'') (hd : ∀ H', Pv n1 H' → Nx H') :
    ∃ W1 : Nat → Nat → Hp → Prop, (∃ m, W1 0 m H4) ∧ ∀ j k H, W1 j k H → (J1.stop j H ∧ Nx H) ∨ (J1.go j H ∧ ∃ Nx1 : Hp → Prop, (∀ H', Nx1 H' → ∃ k', k' < k ∧ W1 (j + 1) k' H') ∧ ∀ x H', J1.yld j H x H' → B Nx1 x H') := by
  refine ⟨fun i m H => m = n1 - i ∧ i ≤ n1 ∧ Pv i H, ⟨n1, by simp, Nat.zero_le _, h0⟩, ?_⟩
  rintro i m H ⟨rfl, hi, p⟩
  have q := hG i H p
  by_cases hlt : i < n1
  · exact .inr ⟨w.goes i H hlt q, Pv (i + 1), fun H' p' => ⟨n1 - (i + 1), by omega, rfl, hlt, p'⟩, fun x H' y => hs i x H H' hlt p (w.yields i H x H' hlt q y)⟩
  · have e : i = n1 := by omega
    subst e
    exact .inl ⟨w.stops H q, hd H p⟩
theorem lc2_w (hwi : ∀ R : It → Hp → Prop, R J H1 → wi σ H R) (w : Walk J n G Y) (h : ∀ D, H1 D = none → ∃ Pv : Nat → Hp → Prop, Pv 0 (upd H1 D (.lst [])) ∧ (∀ i H', Pv i H' → G H') ∧
    (∀ (i : Nat) (x : V) (H' H'' : Hp), i < n → Pv i H' → Y i H' x H'' → g x (wipe σ vs) H'' fun σ2 H2 => wipe σ2 vs = wipe σ vs ∧ tt σ2 H2 fun b H3 =>
      if b = true then wi1 σ2 H3 fun J1 H4 => ∃ W1 : Nat → Nat → Hp → Prop, (∃ m, W1 0 m H4) ∧ ∀ j k H, W1 j k H → (J1.stop j H ∧ Pv (i + 1) H) ∨ (J1.go j H ∧ ∃ Nx1 : Hp → Prop, (∀ H', Nx1 H' → ∃ k', k' < k ∧ W1 (j + 1) k' H') ∧ ∀ x H', J1.yld j H x H' → g1 x (wipe σ2 vs1) H' fun σ3 H5 => wipe σ3 vs1 = wipe σ2 vs1 ∧ tt1 σ3 H5 fun b H6 =>
        if b = true then te σ3 H6 fun y H7 => ∃ acc, H7 D = some (.lst acc) ∧ acc.length < sizeLine ∧ Nx1 (upd H7 D (.lst (acc ++ [y]))) else Nx1 H6) else Pv (i + 1) H3) ∧ ∀ H', Pv n H' → Q (.ref D) H') : tLc2 wi g tt wi1 g1 tt1 te vs vs1 σ H Q := by
  refine hwi _ fun D nD => ?_
  obtain ⟨Pv, a, b, c, d⟩ := h D nD
  refine ⟨fun i m H => m = n - i ∧ i ≤ n ∧ Pv i H, ⟨n, by simp, Nat.zero_le _, a⟩, ?_⟩
  rintro i m H ⟨rfl, hi, p⟩
  have q := b i H p
  by_cases hlt : i < n
  · exact .inr ⟨w.goes i H hlt q, Pv (i + 1), fun H' p' => ⟨n - (i + 1), by omega, rfl, hlt, p'⟩, fun x H' y => c i x H H' hlt p (w.yields i H x H' hlt q y)⟩
  · have e : i = n := by omega
    subst e
    exact .inl ⟨w.stops H q, d H p⟩
end
theorem row_len (P : Thr) (w : List Nat) (m : Nat) : (row P w m).length ≤ m := by
  unfold row rowN
  have := List.length_filter_le (fun j => (List.range m).any fun m' => hangAt P w m' m && (decide (j = m') || decide (j ∈ (befL P w m).getD m' []))) (List.range m)
  rw [List.length_range] at this
  exact this
theorem flat_len {f : Nat → List Nat} (h : ∀ m, (f m).length ≤ 6) : ∀ l : List Nat, (l.flatMap f).length ≤ 6 * l.length
  | [] => Nat.zero_le _
  | a :: l => by
    have h1 := h a
    have h2 := flat_len h l
    rw [List.flatMap_cons, List.length_append, List.length_cons]
    omega
section
variable {P : Program} {w : World} {K : PySem.W.Frag} {mg : Str → Option Value} {base : Heap}
abbrev CSteps (P : Program) (w : World) (K : PySem.W.Frag) (mg : Str → Option Value) (base : Heap) : Prop := Cal P w K mg base 2 "steps_of" ["program", "schedule"] spSteps
abbrev CHang (P : Program) (w : World) (K : PySem.W.Frag) (mg : Str → Option Value) (base : Heap) : Prop := Cal P w K mg base 3 "hang_together" ["one", "other"] spHang
abbrev sAllB : Stmt := tx 16
abbrev nAllB : List Str := ["program", "schedule", "steps", "found", "number", "step", "rows", "known", "other"]
def spAllB : Sp := fun vs H Q _ => ∃ x y e0 Th ws, vs = [x, y] ∧ PW H x e0 Th ∧ Tn H y ws ∧ okw Th e0 (zeroL Th.length) ws = true ∧
  ∀ H' p its, Ext H H' → H p = none → H' p = some (.lst its) → A2 (LsN H p H') its (befL Th ws ws.length) → Q (.ref p) H'
theorem scAllB : FnScope nAllB ["program", "schedule"] (defScope sAllB) := ⟨rfl, rfl, rfl, by decide +kernel, rfl, by decide +kernel, by decide +kernel⟩
theorem ok_allB {f : Addr} {fd : FuncData} (F : Fun K "all_before" "all_before" sAllB f fd) (B : Bt mg) (c1 : CSteps P w K mg base) (c2 : CHang P w K mg base) : FnOk P w K mg base CX0 4 f fd ["program", "schedule"] spAllB := by
  refine F.ok scAllB (fun vs H Q E h => ?_) (fun cdv A outer s H vs Q E hr h => ?_)
  · obtain ⟨x, y, e0, Th, ws, rfl, _⟩ := h
    rfl
  · obtain ⟨x, y, e0, Th, ws, rfl, hp, hw, hok, q⟩ := h
    refine ⟨_, pss_cons (ps_set (i := 2) scAllB.nd rfl (Or.inr rfl) (pe_cal c1 (hr.mono (by decide)) rfl (pa_cons (pv 0) (pa_cons (pv 1) pa_nil))))
      (pss_cons (ps_set (i := 3) scAllB.nd rfl (Or.inr rfl) (pe_lst pa_nil))
      (pss_cons (ps_for PassesOwn.never rfl (pi_enum (by rfl) B.enumerate (pa_cons (pv 2) pa_nil)) (pg_tup rfl (pgs_cons (pg_name (i := 4) scAllB.nd rfl (.inl rfl)) (pgs_cons (pg_name (i := 5) scAllB.nd rfl (.inr rfl)) pgs_nil)))
        (pss_cons (ps_setLc (i := 6) (own := [("known", 7)]) (g := gName 7) (tt := tB (tCall spHang [] E0 (tCons (tOp (rIxL K) (tVar 2) (tVar 7)) (tCons (tVar 5) tNil)))) rfl scAllB.nd rfl rfl (sw_true rfl rfl rfl (by decide +kernel)) (pi_range1 (by rfl) B.range (pa_cons (pv 4) pa_nil)) (blkOk_by (N := nAllB) (sc := defScope sAllB) (by decide +kernel))
            (fun _ _ _ _ _ => pg_name (i := 7) scAllB.nd rfl (Or.inl rfl)) (fun _ _ _ _ _ => pts_one (pt_val (pe_cal c2 hr rfl (pa_cons (pe_ix ix_list (pv 2) (pv 7) (fun _ _ => rfl)) (pa_cons (pv 5) pa_nil))))) (fun _ _ _ _ _ => pv 7))
        (pss_one (ps_expr (pe_bm PySem.F.plainAttrs_list PySem.F.slot_list_append PySem.F.type_list_append mt_append (pv 3) (pa_cons (pe_callB (cr_sortedSet rfl) (by rfl) B.sorted (by decide +kernel) (pa_cons (pe_callTy (GX.cr_setN rfl) (by rfl) B.set (by decide +kernel)
            (pa_cons (pe_op op_cat (pe_lc2 (own := [("known", 7), ("other", 8)]) (wi1 := iList K (tOp (rIxL K) (tVar 3) (tVar 7))) (vs1 := [8]) (g := gName 7) (g1 := gName 8) (tt := tYes) (tt1 := tYes) rfl scAllB.nd (pi_list (pv 6)) (blkOk_by (N := nAllB) (sc := defScope sAllB) (by decide +kernel)) (by decide +kernel)
              (fun _ _ _ _ _ => pg_name (i := 7) scAllB.nd rfl (Or.inl rfl)) (fun _ _ _ _ _ => pts_nil) (fun _ _ _ _ _ => pi_list (pe_ix ix_list (pv 3) (pv 7) (fun _ _ => rfl))) (fun _ _ _ _ _ => pg_name (i := 8) scAllB.nd rfl (Or.inl rfl)) (fun _ _ _ _ _ => pts_nil) (fun _ _ _ _ _ => pv 8)) (pv 6)) pa_nil)) pa_nil)) pa_nil))))))
      (pss_one (ps_ret (pv 3))))), ?_⟩
    simp only [tVar, tC, tOp, tUn, tTest, tChain, tNil, tCons, tTup, tLst, tCall, tMeth, tMake, tCB, tIf, tAndV, tOrV, tNotV, tIsN, tNotN, tB, tAnd, tOr, tNot, tNext, tSeq, tDrop, tRet, tRetN, tIfS, tNever, gName, gNil, gCons, gSub, tAsg, tAug, tAugS, ipI, tBM, tBM0, tSl, tNoPart, tPart, tDGet, tDIn, tDNotIn, tDGet1, tDNewT, tDNewK, tYes, rI0, rI, rU, rAdd, rSub, rEq, rNe, L2.start, List.map_cons, List.map_nil, List.length_cons, List.length_nil, List.replicate, List.append_nil, List.nil_append, List.cons_append, List.getElem?_cons_zero, List.getElem?_cons_succ, List.set_cons_zero, List.set_cons_succ, Option.some.injEq, V.int.injEq, V.bl.injEq, V.ref.injEq, V.str.injEq, exists_eq_left', exists_eq_left, exists_and_left, true_and, and_true, Nat.reduceAdd, Nat.reduceSub, Nat.add_one_sub_one, Nat.sub_self, Bool.true_eq_false, Bool.false_eq_true, if_true, if_false, ite_true, ite_false, cxOf, Cx.nox, decide_eq_true_eq, reduceCtorEq, decide_false, decide_true, Bool.not_false, Bool.not_true, eq_self, upd_same, L2.upd_upd, List.cons.injEq, and_assoc]
    have hwl := run_len hp hok
    refine ⟨x, y, e0, Th, ws, rfl, hp, hw, hok, by omega, fun H2 st its e2 nst hst hA => ⟨Nat.zero_le _, fun p np => ?_⟩⟩
    have hsp : st ≠ p := ne_of_none hst np
    have hlen : its.length = ws.length := by rw [hA.1]; simp
    refine for_enumL (a := st) (xs := its) (fun R h => ⟨_, rfl, h⟩) (by rw [upd_ne hsp]; exact hst) (fun i σ' H' => i ≤ ws.length ∧ ∃ nu sp ro fs, σ' = [some x, some y, some (.ref st), some (.ref p), nu, sp, ro, none, none] ∧ Ext H2 H' ∧ H' p = some (.lst fs) ∧ A2 (LsN H p H') fs (befL Th ws i))
      ⟨Nat.zero_le _, none, none, none, [], rfl, Ext.new np, upd_same, A2.nil⟩ (fun i σ' H' ⟨_, _, _, _, _, _, e, _⟩ => e.1 _ _ hst (by simp)) ?_ ?_
    · rintro i it T σ' H' hi ⟨hil, nu, sp, ro, fs, rfl, e3, hp3, hF⟩ nT
      have hi6 : i < ws.length := by rw [← hlen]; exact (List.getElem?_eq_some_iff.mp hi).1
      refine tu_tgt ⟨T, rfl, upd_same⟩ ?_
      simp only [tVar, tC, tOp, tUn, tTest, tChain, tNil, tCons, tTup, tLst, tCall, tMeth, tMake, tCB, tIf, tAndV, tOrV, tNotV, tIsN, tNotN, tB, tAnd, tOr, tNot, tNext, tSeq, tDrop, tRet, tRetN, tIfS, tNever, gName, gNil, gCons, gSub, tAsg, tAug, tAugS, ipI, tBM, tBM0, tSl, tNoPart, tPart, tDGet, tDIn, tDNotIn, tDGet1, tDNewT, tDNewK, tYes, rI0, rI, rU, rAdd, rSub, rEq, rNe, L2.start, List.map_cons, List.map_nil, List.length_cons, List.length_nil, List.replicate, List.append_nil, List.nil_append, List.cons_append, List.getElem?_cons_zero, List.getElem?_cons_succ, List.set_cons_zero, List.set_cons_succ, Option.some.injEq, V.int.injEq, V.bl.injEq, V.ref.injEq, V.str.injEq, exists_eq_left', exists_eq_left, exists_and_left, true_and, and_true, Nat.reduceAdd, Nat.reduceSub, Nat.add_one_sub_one, Nat.sub_self, Bool.true_eq_false, Bool.false_eq_true, if_true, if_false, ite_true, ite_false, cxOf, Cx.nox, decide_eq_true_eq, reduceCtorEq, decide_false, decide_true, Bool.not_false, Bool.not_true, eq_self, upd_same, L2.upd_upd, List.cons.injEq, and_assoc]
      have e4 : Ext H' (upd H' T (.tup [V.int (i : Nat), it])) := Ext.new nT
      generalize hHa : upd H' T (.tup [V.int (i : Nat), it]) = Ha at *
      have e5 : Ext H2 Ha := e3.trans e4
      obtain ⟨b0, hb0, hit⟩ := hA.2 i it hi
      have eb0 : b0 = stepAt Th ws i := by
        rw [List.getElem?_map, List.getElem?_range hi6] at hb0
        exact (Option.some.inj hb0).symm
      subst eb0
      have stA : ∀ {Hx : Hp}, Ext H2 Hx → Hx st = some (.lst its) := fun e => e.1 _ _ hst (by simp)
      refine lc_w (J := Itr 0 i) (n := i) (H1 := Ha) (fun R h => ⟨_, rfl, (i : Int), rfl, by omega, by omega, by rw [Int.toNat_natCast]; exact h⟩) walk_range fun D nD => ⟨fun j Hj => Ext Ha Hj ∧ Hj D = some (.lst (nI ((List.range j).filter fun m => hangAt Th ws m i))),
        ⟨Ext.new nD, upd_same⟩, fun _ _ _ => trivial, ?_, ?_⟩
      · rintro j xx Hj _ hj ⟨ej, hD⟩ ⟨rfl, rfl⟩
        simp only [tVar, tC, tOp, tUn, tTest, tChain, tNil, tCons, tTup, tLst, tCall, tMeth, tMake, tCB, tIf, tAndV, tOrV, tNotV, tIsN, tNotN, tB, tAnd, tOr, tNot, tNext, tSeq, tDrop, tRet, tRetN, tIfS, tNever, gName, gNil, gCons, gSub, tAsg, tAug, tAugS, ipI, tBM, tBM0, tSl, tNoPart, tPart, tDGet, tDIn, tDNotIn, tDGet1, tDNewT, tDNewK, tYes, rI0, rI, rU, rAdd, rSub, rEq, rNe, L2.start, List.map_cons, List.map_nil, List.length_cons, List.length_nil, List.replicate, List.append_nil, List.nil_append, List.cons_append, List.getElem?_cons_zero, List.getElem?_cons_succ, List.set_cons_zero, List.set_cons_succ, Option.some.injEq, V.int.injEq, V.bl.injEq, V.ref.injEq, V.str.injEq, exists_eq_left', exists_eq_left, exists_and_left, true_and, and_true, Nat.reduceAdd, Nat.reduceSub, Nat.add_one_sub_one, Nat.sub_self, Bool.true_eq_false, Bool.false_eq_true, if_true, if_false, ite_true, ite_false, cxOf, Cx.nox, decide_eq_true_eq, reduceCtorEq, decide_false, decide_true, Bool.not_false, Bool.not_true, eq_self, upd_same, L2.upd_upd, List.cons.injEq, and_assoc, wipe, Int.zero_add]
        obtain ⟨sj, hsj⟩ := eq_at (show j < its.length by omega)
        obtain ⟨b1, hb1, hTj⟩ := hA.2 j sj hsj
        have eb1 : b1 = stepAt Th ws j := by
          rw [List.getElem?_map, List.getElem?_range (by omega)] at hb1
          exact (Option.some.inj hb1).symm
        subst eb1
        have e6 := e5.trans ej
        refine ls_ix j (stA e6) hsj ⟨sj, it, _, _, rfl, hTj.kp e6.kp, hit.kp e6.kp, fun Hk ek => ⟨_, rfl, ?_⟩⟩
        have hDk : Hk D = _ := ek.1 _ _ hD (by simp)
        have nDa : Ha D = none := nD
        show if hangAt Th ws j i = true then _ else _
        refine ifd (fun hh => ⟨_, hDk, ?_, (ej.trans ek).upd nDa, ?_⟩) (fun hh => ⟨ej.trans ek, ?_⟩)
        · refine small1000 ?_
          rw [nI_length]
          have := List.length_filter_le (fun m => hangAt Th ws m i) (List.range j)
          rw [List.length_range] at this
          omega
        · rw [List.range_succ, List.filter_append, nI_append]
          simp [hh, nI]
        · rw [hDk, List.range_succ, List.filter_append, nI_append]
          simp [hh, nI]
      · rintro Hn ⟨en, hD⟩
        have e6 := e5.trans en
        have hpn : Hn p = some (.lst fs) := (e4.trans en).1 _ _ hp3 (by simp)
        have hrl : ∀ m, m ∈ (List.range i).filter (fun m => hangAt Th ws m i) ↔ m < i ∧ hangAt Th ws m i = true := fun m => by rw [List.mem_filter, List.mem_range]
        have hrz : ((List.range i).filter (fun m => hangAt Th ws m i)).length ≤ 6 := by
          have := List.length_filter_le (fun m => hangAt Th ws m i) (List.range i)
          rw [List.length_range] at this
          omega
        generalize (List.range i).filter (fun m => hangAt Th ws m i) = rl at hrl hrz hD
        refine ⟨ty_list hpn, ?_⟩
        have hrow : ∀ m, ((befL Th ws i).getD m []).length ≤ 6 := fun m => by
          by_cases hm : m < i
          · rw [befL_getD hm]
            have h1 : (row Th ws m).length ≤ m := row_len Th ws m
            omega
          · rw [List.getD_eq_getElem?_getD, List.getElem?_eq_none (by rw [befL_length]; omega)]
            exact Nat.zero_le _
        have hfl : ∀ l : List Nat, l.length ≤ 6 → (l.flatMap fun m => (befL Th ws i).getD m []).length ≤ 36 := fun l hl => by
          have := flat_len (f := fun m => (befL Th ws i).getD m []) hrow l
          omega
        refine lc2_w (J := Itl K D) (n := (nI rl).length) (H1 := Hn) (fun R h => ⟨_, rfl, D, rfl, ⟨_, SqL.of hD⟩, h⟩) (walk_list (xs := nI rl)) fun D2 nD2 => ⟨fun j Hj => Ext Hn Hj ∧ Hj D2 = some (.lst (nI ((rl.take j).flatMap fun m => (befL Th ws i).getD m []))),
          ⟨Ext.new nD2, upd_same⟩, fun _ Hj ⟨ej, _⟩ => SqL.of (ej.1 _ _ hD (by simp)), ?_, ?_⟩
        · rintro j xx Hz Hj hj ⟨ej, hD2⟩ ⟨rfl, hx⟩
          obtain ⟨m, hm, rfl⟩ := nI_inv hx
          unfold iList
          simp only [tVar, tC, tOp, tUn, tTest, tChain, tNil, tCons, tTup, tLst, tCall, tMeth, tMake, tCB, tIf, tAndV, tOrV, tNotV, tIsN, tNotN, tB, tAnd, tOr, tNot, tNext, tSeq, tDrop, tRet, tRetN, tIfS, tNever, gName, gNil, gCons, gSub, tAsg, tAug, tAugS, ipI, tBM, tBM0, tSl, tNoPart, tPart, tDGet, tDIn, tDNotIn, tDGet1, tDNewT, tDNewK, tYes, rI0, rI, rU, rAdd, rSub, rEq, rNe, L2.start, List.map_cons, List.map_nil, List.length_cons, List.length_nil, List.replicate, List.append_nil, List.nil_append, List.cons_append, List.getElem?_cons_zero, List.getElem?_cons_succ, List.set_cons_zero, List.set_cons_succ, Option.some.injEq, V.int.injEq, V.bl.injEq, V.ref.injEq, V.str.injEq, exists_eq_left', exists_eq_left, exists_and_left, true_and, and_true, Nat.reduceAdd, Nat.reduceSub, Nat.add_one_sub_one, Nat.sub_self, Bool.true_eq_false, Bool.false_eq_true, if_true, if_false, ite_true, ite_false, cxOf, Cx.nox, decide_eq_true_eq, reduceCtorEq, decide_false, decide_true, Bool.not_false, Bool.not_true, eq_self, upd_same, L2.upd_upd, List.cons.injEq, and_assoc, wipe]
          have hmr := (hrl m).mp (List.mem_of_getElem? hm)
          obtain ⟨fm, hfm⟩ := eq_at (show m < fs.length by rw [hF.1, befL_length]; exact hmr.1)
          obtain ⟨r, hr1, am, rfl, ham, _, hLm⟩ := hF.2 m fm hfm
          have hr2 : (befL Th ws i).getD m [] = r := by rw [List.getD_eq_getElem?_getD, hr1]; rfl
          have hpj : Hj p = some (.lst fs) := ej.1 _ _ hpn (by simp)
          have hLj : Hj am = some (.lst (nI r)) := ((e4.trans en).trans ej).1 _ _ hLm (by simp)
          refine ls_ix m hpj hfm ⟨am, rfl, ⟨_, SqL.of hLj⟩, ?_⟩
          have htk : rl.take (j + 1) = rl.take j ++ [m] := take_at hm
          have hac : ((rl.take j).flatMap fun m => (befL Th ws i).getD m []).length ≤ 36 := hfl _ (by rw [List.length_take]; omega)
          have hr6 : r.length ≤ 6 := by rw [← hr2]; exact hrow m
          refine in_w (walk_list (K := K) (a := am) (xs := nI r)) (fun jj Hjj => Ext Hn Hjj ∧ Hjj D2 = some (.lst (nI (((rl.take j).flatMap fun m => (befL Th ws i).getD m []) ++ r.take jj)))) ⟨ej, ?_⟩ (fun jj Hjj ⟨ejj, _⟩ => SqL.of (((e4.trans en).trans ejj).1 _ _ hLm (by simp))) ?_ ?_
          · rw [hD2, List.take_zero, List.append_nil]
          · rintro jj xx2 Hz2 Hjj hjj ⟨ejj, hD3⟩ ⟨rfl, hx2⟩
            obtain ⟨o, ho, rfl⟩ := nI_inv hx2
            refine ⟨_, hD3, small1000 ?_, ejj.upd nD2, ?_⟩
            · rw [nI_length, List.length_append, List.length_take]; omega
            · have : r.take (jj + 1) = r.take jj ++ [o] := take_at ho
              rw [this, ← List.append_assoc, nI_append _ [o], upd_same]; rfl
          · rintro Hjj ⟨ejj, hD3⟩
            refine ⟨ejj, ?_⟩
            rw [hD3, htk, List.flatMap_append, nI_length, List.take_length]
            simp [hr1]
        · rintro Hm ⟨em, hD2⟩
          rw [nI_length, List.take_length] at hD2
          have hDm : Hm D = some (.lst (nI rl)) := em.1 _ _ hD (by simp)
          have hfz := hfl rl hrz
          refine ⟨D2, D, _, _, rfl, rfl, hD2, hDm, szN (by rw [nI_length, nI_length]; omega), fun p4 np4 => ?_⟩
          have e7 := em.trans (Ext.new (o := .lst (nI (rl.flatMap fun m => (befL Th ws i).getD m []) ++ nI rl)) np4)
          refine ⟨p4, (rl.flatMap (fun m => (befL Th ws i).getD m []) ++ rl).map fun j : Nat => (j : Int), rfl, SqL.of ?_, ?_, fun p5 S n hS hn np5 => ?_⟩
          · rw [upd_same, List.map_map, ← nI_append]; rfl
          · rw [List.length_map, List.length_append]; omega
          have e8 := e7.trans (Ext.new (o := SetO w p5 S n) np5)
          rw [List.length_map, List.length_append] at hn
          refine ⟨p5, S, n, rfl, upd_same, by omega, fun ns p6 hns hmem hnl np6 => ?_⟩
          have huq : ns.map V.int = nI (row Th ws i) := ints_uniq hns (row_sorted Th ws i) fun k => by
            rw [hmem k, hS k]
            constructor
            · intro hk
              obtain ⟨j, hj, rfl⟩ := List.mem_map.mp hk
              refine ⟨j, mem_row.mpr ?_, rfl⟩
              rcases List.mem_append.mp hj with h1 | h1
              · obtain ⟨m, hm, hjm⟩ := List.mem_flatMap.mp h1
                have hm' := (hrl m).mp hm
                rw [befL_getD hm'.1] at hjm
                have := (mem_row.mp hjm).1
                exact ⟨by omega, m, hm'.1, hm'.2, .inr hjm⟩
              · have hm' := (hrl j).mp h1
                exact ⟨hm'.1, j, hm'.1, hm'.2, .inl rfl⟩
            · rintro ⟨j, hj, rfl⟩
              obtain ⟨_, m, hm1, hm2, hjm⟩ := mem_row.mp hj
              refine List.mem_map.mpr ⟨j, List.mem_append.mpr ?_, rfl⟩
              rcases hjm with rfl | hjm
              · exact .inr ((hrl j).mpr ⟨hm1, hm2⟩)
              · exact .inl (List.mem_flatMap.mpr ⟨m, (hrl m).mpr ⟨hm1, hm2⟩, by rw [befL_getD hm1]; exact hjm⟩)
          have e9 := e8.trans (Ext.new (o := .lst (ns.map V.int)) np6)
          have hp9 := e9.1 _ _ hpn (by simp)
          refine ap_list hp9 (by rw [hF.1, befL_length]; omega) ⟨by omega, (e6.trans e9).upd np, _, upd_same, ?_⟩
          have hb : befL Th ws (i + 1) = befL Th ws i ++ [row Th ws i] := rfl
          rw [hb]
          refine A2.snoc (hF.imp fun _ _ z => (z.ext ((e4.trans en).trans e9)).set) ⟨p6, rfl, ?_, ((e2.trans e6).trans e8).free np6, ?_⟩
          · exact (ne_of_none (e8.1 _ _ hpn (by simp)) np6).symm
          · rw [upd_ne (ne_of_none (e8.1 _ _ hpn (by simp)) np6).symm, upd_same, huq]
    · rintro σ' H' ⟨_, nu, sp, ro, fs, rfl, e3, hp3, hF⟩
      rw [hlen] at hF
      simp only [tVar, tC, tOp, tUn, tTest, tChain, tNil, tCons, tTup, tLst, tCall, tMeth, tMake, tCB, tIf, tAndV, tOrV, tNotV, tIsN, tNotN, tB, tAnd, tOr, tNot, tNext, tSeq, tDrop, tRet, tRetN, tIfS, tNever, gName, gNil, gCons, gSub, tAsg, tAug, tAugS, ipI, tBM, tBM0, tSl, tNoPart, tPart, tDGet, tDIn, tDNotIn, tDGet1, tDNewT, tDNewK, tYes, rI0, rI, rU, rAdd, rSub, rEq, rNe, L2.start, List.map_cons, List.map_nil, List.length_cons, List.length_nil, List.replicate, List.append_nil, List.nil_append, List.cons_append, List.getElem?_cons_zero, List.getElem?_cons_succ, List.set_cons_zero, List.set_cons_succ, Option.some.injEq, V.int.injEq, V.bl.injEq, V.ref.injEq, V.str.injEq, exists_eq_left', exists_eq_left, exists_and_left, true_and, and_true, Nat.reduceAdd, Nat.reduceSub, Nat.add_one_sub_one, Nat.sub_self, Bool.true_eq_false, Bool.false_eq_true, if_true, if_false, ite_true, ite_false, cxOf, Cx.nox, decide_eq_true_eq, reduceCtorEq, decide_false, decide_true, Bool.not_false, Bool.not_true, eq_self, upd_same, L2.upd_upd, List.cons.injEq, and_assoc]
      exact q H' p fs (e2.trans e3) (e2.free np) hp3 hF
end
end TW

set_option maxHeartbeats 8000000
/-! TwJ: clocks. -/
namespace TW
open PySem PySem.Spec PyProof.Rows L2
open TC hiding Step Env
theorem for_enumC {K : PySem.W.Frag} {ta : TA} {g : TG} {tb : TS} {D : Ends} {σ : L2.St} {H : Hp} (C : Addr → List V → Hp → Prop) (hta : ∀ R : List V → Hp → Prop, (∀ a xs H1, C a xs H1 → R [V.ref a] H1) → ta σ H R)
    (hb : ∀ a xs H1, C a xs H1 → H1 a = some (.lst xs) ∧ ∃ Pv : Nat → L2.St → Hp → Prop, Pv 0 σ H1 ∧ (∀ i σ' H', Pv i σ' H' → H' a = some (.lst xs)) ∧
      (∀ (i : Nat) (x : V) (T : Addr) (σ' : L2.St) (H' : Hp), xs[i]? = some x → Pv i σ' H' → H' T = none → g (.ref T) σ' (upd H' T (.tup [.int (i : Nat), x])) fun σ2 H2 => tb { D with nx := Pv (i + 1), ct := Pv (i + 1), bk := D.nx } σ2 H2) ∧
      (∀ σ' H', Pv xs.length σ' H' → D.nx σ' H')) : tFor (iEnum K ta) g tb D σ H := by
  unfold tFor iEnum
  refine hta _ fun a xs H1 hC => ?_
  obtain ⟨h, Pv, h0, hG, hs, hd⟩ := hb a xs H1 hC
  refine ⟨a, xs, rfl, SqL.of h, ?_⟩
  refine for_it walk_enum Pv h0 (fun i σ' H' _ p => SqL.of (hG i σ' H' p)) (fun i x σ' H' H'' hi p y => ?_) hd
  obtain ⟨T, x1, y1, e1, nT, e2, e3, e4⟩ := y
  cases e3
  subst e1 e2
  exact hs i y1 T σ' H' e4 p nT
theorem lc_lC {K : PySem.W.Frag} {wi : TI} {g : TG} {tt : TT} {te : TE} {vs : List Nat} {σ : L2.St} {H : Hp} {Q : VK} (C : Addr → List V → Hp → Prop) (hwi : ∀ R : It → Hp → Prop, (∀ a xs H1, C a xs H1 → H1 a = some (.lst xs) → R (Itl K a) H1) → wi σ H R)
    (h : ∀ a xs H1, C a xs H1 → H1 a = some (.lst xs) → ∀ D, H1 D = none → ∃ Pv : Nat → Hp → Prop, Pv 0 (upd H1 D (.lst [])) ∧ (∀ i H', Pv i H' → H' a = some (.lst xs)) ∧
      (∀ (i : Nat) (x : V) (H' : Hp), xs[i]? = some x → Pv i H' → g x (wipe σ vs) H' fun σ2 H2 => wipe σ2 vs = wipe σ vs ∧ tt σ2 H2 fun b H3 =>
        if b = true then te σ2 H3 fun y H4 => ∃ acc, H4 D = some (.lst acc) ∧ acc.length < sizeLine ∧ Pv (i + 1) (upd H4 D (.lst (acc ++ [y]))) else Pv (i + 1) H3) ∧ ∀ H', Pv xs.length H' → Q (.ref D) H') : tLc wi g tt te vs σ H Q := by
  refine hwi _ fun a xs H1 hC ha D nD => ?_
  obtain ⟨Pv, h0, hG, hs, hd⟩ := h a xs H1 hC ha D nD
  refine lc_it (walk_list (K := K) (a := a) (xs := xs)) Pv h0 (fun i H' _ p => SqL.of (hG i H' p)) (fun i x H' H'' hi p y => ?_) hd
  obtain ⟨e1, e2⟩ := y
  subst e1
  exact hs i x _ e2 p
/-- tuple(xs) of a list -/
def rTupL (K : PySem.W.Frag) : List V → Hp → VK → Prop := fun xs H Q => ∃ p ys, xs = [.ref p] ∧ SqL K H p ys ∧ ∀ l, H l = none → Q (.ref l) (upd H l (.tup ys))
theorem cr_tupL {X : Cx} : CallR X (.type "tuple") (rTupL X.K) := fun pins s σ H xs us Q I r h => by
  obtain ⟨p, ys, e, h1, h2⟩ := h
  exact call_tuple_of pins s σ H xs us Q I r ⟨p, ys, e, .inl ⟨h1, h2⟩⟩
theorem count_nats (js : List Nat) (t : Nat) : (js.map fun j : Nat => (j : Int)).count ((t : Nat) : Int) = js.count t := by
  induction js with
  | nil => rfl
  | cons j js ih =>
    rw [List.map_cons, List.count_cons, List.count_cons, ih]
    have : (((j : Nat) : Int) == ((t : Nat) : Int)) = (j == t) := by
      rw [Bool.eq_iff_iff, beq_iff_eq, beq_iff_eq]
      exact ⟨Int.ofNat.inj, fun h => by rw [h]⟩
    rw [this]
section
variable {P : Program} {w : World} {K : PySem.W.Frag} {mg : Str → Option Value} {base : Heap}
abbrev CAllB (P : Program) (w : World) (K : PySem.W.Frag) (mg : Str → Option Value) (base : Heap) : Prop := Cal P w K mg base 4 "all_before" ["program", "schedule"] spAllB
abbrev sClk : Stmt := tx 17
abbrev nClk : List Str := ["program", "schedule", "found", "number", "row", "threads", "known", "thread"]
/-- x is a tuple of tuples of numbers -/
def TT2 (H : Hp) (x : V) (rs : List (List Nat)) : Prop := ∃ its, Tu H x its ∧ A2 (Tn H) its rs
theorem TT2.kp {H H' : Hp} {x : V} {rs : List (List Nat)} (h : TT2 H x rs) (e : Kp H H') : TT2 H' x rs := by
  obtain ⟨its, h1, h2⟩ := h
  exact ⟨its, h1.kp e, h2.imp fun _ _ z => Tu.kp z e⟩
def spClk (Pa : Addr) : Sp := fun vs H Q _ => ∃ x y e0 Th ws, vs = [x, y] ∧ PW H x e0 Th ∧ Tn H y ws ∧ okw Th e0 (zeroL Th.length) ws = true ∧ GxR.TabG H Pa ∧
  ∀ H' v, Ext H H' → TT2 H' v (clocksL Th Th.length ws) → Q v H'
theorem scClk : FnScope nClk ["program", "schedule"] (defScope sClk) := ⟨rfl, rfl, rfl, by decide +kernel, rfl, by decide +kernel, by decide +kernel⟩
theorem ok_clk {f c Pa : Addr} {fd : FuncData} (F : FunC K "clocks" "clocks" sClk f fd c) (TB : GxR.TabB base mg c Pa) (B : Bt mg) (c1 : CAllB P w K mg base) : FnOk P w K mg base CX0 5 f fd ["program", "schedule"] (spClk Pa) := by
  refine F.ok scClk (fun vs H Q E h => ?_) (fun A outer s H vs Q E hr h => ?_)
  · obtain ⟨x, y, e0, Th, ws, rfl, _⟩ := h
    rfl
  · obtain ⟨x, y, e0, Th, ws, rfl, hp, hw, hok, tab, q⟩ := h
    refine ⟨_, pss_cons (ps_set (i := 2) scClk.nd rfl (Or.inl rfl) (pe_lst pa_nil))
      (pss_cons (ps_for PassesOwn.never rfl (pi_enum (by rfl) B.enumerate (pa_cons (pe_cal c1 hr rfl (pa_cons (pv 0) (pa_cons (pv 1) pa_nil))) pa_nil)) (pg_tup rfl (pgs_cons (pg_name (i := 3) scClk.nd rfl (.inl rfl)) (pgs_cons (pg_name (i := 4) scClk.nd rfl (.inl rfl)) pgs_nil)))
        (pss_cons (ps_set (i := 5) scClk.nd rfl (Or.inr rfl) (pe_lc (own := [("known", 6)]) (g := gName 6) (tt := tYes) (te := tOp (rIxT K) (tVar 1) (tVar 6)) rfl scClk.nd (pi_list (pe_op op_cat (pv 4) (pe_lst (pa_cons (pv 3) pa_nil)))) (blkOk_by (N := nClk) (sc := defScope sClk) (by decide +kernel))
            (fun _ _ _ _ _ => pg_name (i := 6) scClk.nd rfl (Or.inl rfl)) (fun _ _ _ _ _ => pts_nil) (fun _ _ _ _ _ => pe_ix ix_tup (pv 1) (pv 6) (fun _ _ => rfl))))
        (pss_one (ps_expr (pe_bm PySem.F.plainAttrs_list PySem.F.slot_list_append PySem.F.type_list_append mt_append (pv 2) (pa_cons
          (GX.pe_tupG (own := [("thread", 7)]) (g := gName 7) (tt := tYes) (te := tBM K "list" (rCntI K) (tVar 5) (tCons (tVar 7) tNil)) (k := 0) rfl (hr.mono (by decide)) TB rfl scClk.nd (by rfl) B.tuple (pi_range1 (by rfl) B.range (pa_cons (pe_callB call_len (by rfl) B.len PySem.boot_len (pa_cons (pe_ix ix_tup (pv 0) pe_int (fun _ _ => rfl)) pa_nil)) pa_nil))
            (blkOk_by (N := nClk) (sc := defScope sClk) (by decide +kernel)) rfl (by decide +kernel) (by decide +kernel) (fun _ _ _ _ _ _ _ _ _ => pg_name (i := 7) scClk.nd rfl (.inl rfl)) (fun _ _ _ _ _ _ _ _ _ => pts_nil)
            (fun _ _ _ _ _ _ _ _ _ => pe_bm PySem.F.plainAttrs_list PySem.F.slot_list_count PySem.F.type_list_count mt_lcount (pv 5) (pa_cons (pv 7) pa_nil))) pa_nil))))))
      (pss_one (ps_ret (pe_callTy cr_tupL (by rfl) B.tuple (by decide +kernel) (pa_cons (pv 2) pa_nil))))), ?_⟩
    simp only [tVar, tC, tOp, tUn, tTest, tChain, tNil, tCons, tTup, tLst, tCall, tMeth, tMake, tCB, tIf, tAndV, tOrV, tNotV, tIsN, tNotN, tB, tAnd, tOr, tNot, tNext, tSeq, tDrop, tRet, tRetN, tIfS, tNever, gName, gNil, gCons, gSub, tAsg, tAug, tAugS, ipI, tBM, tBM0, tSl, tNoPart, tPart, tDGet, tDIn, tDNotIn, tDGet1, tDNewT, tDNewK, tYes, rI0, rI, rU, rAdd, rSub, rEq, rNe, L2.start, List.map_cons, List.map_nil, List.length_cons, List.length_nil, List.replicate, List.append_nil, List.nil_append, List.cons_append, List.getElem?_cons_zero, List.getElem?_cons_succ, List.set_cons_zero, List.set_cons_succ, Option.some.injEq, V.int.injEq, V.bl.injEq, V.ref.injEq, V.str.injEq, exists_eq_left', exists_eq_left, exists_and_left, true_and, and_true, Nat.reduceAdd, Nat.reduceSub, Nat.add_one_sub_one, Nat.sub_self, Bool.true_eq_false, Bool.false_eq_true, if_true, if_false, ite_true, ite_false, cxOf, Cx.nox, decide_eq_true_eq, reduceCtorEq, decide_false, decide_true, Bool.not_false, Bool.not_true, eq_self, upd_same, L2.upd_upd, List.cons.injEq, and_assoc]
    refine ⟨Nat.zero_le _, fun p np => ?_⟩
    have hwl := run_len hp hok
    have n3 := hp.n3
    have e1 : Ext H (upd H p (.lst [])) := Ext.new np
    refine for_enumC (fun a xs H1 => Ext (upd H p (.lst [])) H1 ∧ upd H p (.lst []) a = none ∧ H1 a = some (.lst xs) ∧ A2 (LsN (upd H p (.lst [])) a H1) xs (befL Th ws ws.length)) (fun R h => ?_) ?_
    · simp only [tVar, tC, tOp, tUn, tTest, tChain, tNil, tCons, tTup, tLst, tCall, tMeth, tMake, tCB, tIf, tAndV, tOrV, tNotV, tIsN, tNotN, tB, tAnd, tOr, tNot, tNext, tSeq, tDrop, tRet, tRetN, tIfS, tNever, gName, gNil, gCons, gSub, tAsg, tAug, tAugS, ipI, tBM, tBM0, tSl, tNoPart, tPart, tDGet, tDIn, tDNotIn, tDGet1, tDNewT, tDNewK, tYes, rI0, rI, rU, rAdd, rSub, rEq, rNe, L2.start, List.map_cons, List.map_nil, List.length_cons, List.length_nil, List.replicate, List.append_nil, List.nil_append, List.cons_append, List.getElem?_cons_zero, List.getElem?_cons_succ, List.set_cons_zero, List.set_cons_succ, Option.some.injEq, V.int.injEq, V.bl.injEq, V.ref.injEq, V.str.injEq, exists_eq_left', exists_eq_left, exists_and_left, true_and, and_true, Nat.reduceAdd, Nat.reduceSub, Nat.add_one_sub_one, Nat.sub_self, Bool.true_eq_false, Bool.false_eq_true, if_true, if_false, ite_true, ite_false, cxOf, Cx.nox, decide_eq_true_eq, reduceCtorEq, decide_false, decide_true, Bool.not_false, Bool.not_true, eq_self, upd_same, L2.upd_upd, List.cons.injEq, and_assoc]
      exact ⟨x, y, e0, Th, ws, rfl, hp.ext e1, hw.ext e1, hok, fun H' a its e na ha hA => h a its H' ⟨e, na, ha, hA⟩⟩
    · rintro a xs H1 ⟨e2, na, ha, hA⟩
      have nap : a ≠ p := fun z => by rw [z, upd_same] at na; cases na
      have hp1 : H1 p = some (.lst []) := e2.1 _ _ upd_same (by simp)
      have hlen : xs.length = ws.length := by rw [hA.1, befL_length]
      have eb : Ext H (del p H1) := (e1.trans e2).todel np
      have ea : ∀ {Hx}, Ext (del p H1) Hx → Hx a = some (.lst xs) := fun e => e.1 _ _ (by rw [del_ne nap]; exact ha) (by simp)
      refine ⟨ha, fun i σ' H' => i ≤ ws.length ∧ ∃ nu ro th its, σ' = [some x, some y, some (.ref p), nu, ro, th, none, none] ∧ Ext (del p H1) H' ∧ H' p = some (.lst its) ∧ A2 (Tn H') its ((List.range i).map fun k => (List.range Th.length).map (clkAt Th ws k)),
        ⟨Nat.zero_le _, none, none, none, [], rfl, Ext.del, hp1, A2.nil⟩, fun i σ' H' ⟨_, _, _, _, _, _, e, _⟩ => ea e, ?_, ?_⟩
      · rintro i it T σ' H' hi ⟨hil, nu, ro, th, its, rfl, e3, hp3, hT⟩ nT
        have hiw : i < ws.length := by rw [← hlen]; exact (List.getElem?_eq_some_iff.mp hi).1
        refine tu_tgt ⟨T, rfl, upd_same⟩ ?_
        simp only [tVar, tC, tOp, tUn, tTest, tChain, tNil, tCons, tTup, tLst, tCall, tMeth, tMake, tCB, tIf, tAndV, tOrV, tNotV, tIsN, tNotN, tB, tAnd, tOr, tNot, tNext, tSeq, tDrop, tRet, tRetN, tIfS, tNever, gName, gNil, gCons, gSub, tAsg, tAug, tAugS, ipI, tBM, tBM0, tSl, tNoPart, tPart, tDGet, tDIn, tDNotIn, tDGet1, tDNewT, tDNewK, tYes, rI0, rI, rU, rAdd, rSub, rEq, rNe, L2.start, List.map_cons, List.map_nil, List.length_cons, List.length_nil, List.replicate, List.append_nil, List.nil_append, List.cons_append, List.getElem?_cons_zero, List.getElem?_cons_succ, List.set_cons_zero, List.set_cons_succ, Option.some.injEq, V.int.injEq, V.bl.injEq, V.ref.injEq, V.str.injEq, exists_eq_left', exists_eq_left, exists_and_left, true_and, and_true, Nat.reduceAdd, Nat.reduceSub, Nat.add_one_sub_one, Nat.sub_self, Bool.true_eq_false, Bool.false_eq_true, if_true, if_false, ite_true, ite_false, cxOf, Cx.nox, decide_eq_true_eq, reduceCtorEq, decide_false, decide_true, Bool.not_false, Bool.not_true, eq_self, upd_same, L2.upd_upd, List.cons.injEq, and_assoc]
        have e4 : Ext H' (upd H' T (.tup [V.int (i : Nat), it])) := Ext.new nT
        generalize upd H' T (.tup [V.int (i : Nat), it]) = Ha at *
        obtain ⟨r, hr1, ar, rfl, har, harn, hL⟩ := hA.2 i it hi
        have hr2 : r = row Th ws i := by
          rw [befL_get hiw] at hr1
          exact (Option.some.inj hr1).symm
        have arp : ar ≠ p := fun z => by rw [z, upd_same] at harn; cases harn
        have e5 := e3.trans e4
        have har5 : Ha ar = some (.lst (nI r)) := e5.1 _ _ (by rw [del_ne arp]; exact hL) (by simp)
        have hrl : r.length ≤ i := by rw [hr2]; exact row_len Th ws i
        have hmem : ∀ m ∈ r ++ [i], m < ws.length := fun m hm => by
          rcases List.mem_append.mp hm with h | h
          · rw [hr2] at h
            have := (mem_row.mp h).1
            omega
          · have : m = i := by simpa using h
            omega
        obtain ⟨wa, rfl, hwa⟩ := id hw
        have hcl : ∀ t, clkAt Th ws i t = ((r ++ [i]).map fun m => ws.getD m 0).count t := fun t => by rw [hr2]; rfl
        have hrz : (r ++ [i]).length ≤ 7 := by rw [List.length_append]; show r.length + 1 ≤ 7; omega
        refine lc_lC (K := K) (fun a' xs' H2 => Ext Ha H2 ∧ xs' = nI (r ++ [i])) (fun R h => ?_) ?_
        · unfold iList
          simp only [tVar, tC, tOp, tUn, tTest, tChain, tNil, tCons, tTup, tLst, tCall, tMeth, tMake, tCB, tIf, tAndV, tOrV, tNotV, tIsN, tNotN, tB, tAnd, tOr, tNot, tNext, tSeq, tDrop, tRet, tRetN, tIfS, tNever, gName, gNil, gCons, gSub, tAsg, tAug, tAugS, ipI, tBM, tBM0, tSl, tNoPart, tPart, tDGet, tDIn, tDNotIn, tDGet1, tDNewT, tDNewK, tYes, rI0, rI, rU, rAdd, rSub, rEq, rNe, L2.start, List.map_cons, List.map_nil, List.length_cons, List.length_nil, List.replicate, List.append_nil, List.nil_append, List.cons_append, List.getElem?_cons_zero, List.getElem?_cons_succ, List.set_cons_zero, List.set_cons_succ, Option.some.injEq, V.int.injEq, V.bl.injEq, V.ref.injEq, V.str.injEq, exists_eq_left', exists_eq_left, exists_and_left, true_and, and_true, Nat.reduceAdd, Nat.reduceSub, Nat.add_one_sub_one, Nat.sub_self, Bool.true_eq_false, Bool.false_eq_true, if_true, if_false, ite_true, ite_false, cxOf, Cx.nox, decide_eq_true_eq, reduceCtorEq, decide_false, decide_true, Bool.not_false, Bool.not_true, eq_self, upd_same, L2.upd_upd, List.cons.injEq, and_assoc]
          refine ⟨szN (by decide), fun q1 nq1 => ?_⟩
          have har6 : upd Ha q1 (.lst [V.int (i : Nat)]) ar = some (.lst (nI r)) := by rw [upd_ne (ne_of_none har5 nq1)]; exact har5
          refine ⟨ar, q1, _, _, rfl, rfl, har6, upd_same, szN (by rw [nI_length]; show r.length + 1 ≤ 1000; omega), fun q2 nq2 => ?_⟩
          refine ⟨q2, rfl, ⟨_, SqL.of upd_same⟩, h q2 _ _ ⟨(Ext.new nq1).trans (Ext.new nq2), by rw [nI_append]; rfl⟩ upd_same⟩
        · rintro a' xs' H2 ⟨e6, rfl⟩ ha' D nD
          refine ⟨fun j Hj => Ext H2 Hj ∧ Hj D = some (.lst (nI (((r ++ [i]).take j).map fun m => ws.getD m 0))), ⟨Ext.new nD, upd_same⟩, fun _ Hj ⟨e, _⟩ => e.1 _ _ ha' (by simp), ?_, ?_⟩
          · rintro j xx Hj hx ⟨ej, hD⟩
            obtain ⟨m, hm, rfl⟩ := nI_inv hx
            simp only [tVar, tC, tOp, tUn, tTest, tChain, tNil, tCons, tTup, tLst, tCall, tMeth, tMake, tCB, tIf, tAndV, tOrV, tNotV, tIsN, tNotN, tB, tAnd, tOr, tNot, tNext, tSeq, tDrop, tRet, tRetN, tIfS, tNever, gName, gNil, gCons, gSub, tAsg, tAug, tAugS, ipI, tBM, tBM0, tSl, tNoPart, tPart, tDGet, tDIn, tDNotIn, tDGet1, tDNewT, tDNewK, tYes, rI0, rI, rU, rAdd, rSub, rEq, rNe, L2.start, List.map_cons, List.map_nil, List.length_cons, List.length_nil, List.replicate, List.append_nil, List.nil_append, List.cons_append, List.getElem?_cons_zero, List.getElem?_cons_succ, List.set_cons_zero, List.set_cons_succ, Option.some.injEq, V.int.injEq, V.bl.injEq, V.ref.injEq, V.str.injEq, exists_eq_left', exists_eq_left, exists_and_left, true_and, and_true, Nat.reduceAdd, Nat.reduceSub, Nat.add_one_sub_one, Nat.sub_self, Bool.true_eq_false, Bool.false_eq_true, if_true, if_false, ite_true, ite_false, cxOf, Cx.nox, decide_eq_true_eq, reduceCtorEq, decide_false, decide_true, Bool.not_false, Bool.not_true, eq_self, upd_same, L2.upd_upd, List.cons.injEq, and_assoc, wipe]
            have hml := hmem m (List.mem_of_getElem? hm)
            have hwj : Tn Hj (.ref wa) ws := hw.ext (((eb.trans e5).trans e6).trans ej)
            refine tu_ix m hwj (nI_at (getD_at hml)) ⟨_, hD, small1000 ?_, ej.upd nD, ?_⟩
            · rw [nI_length, List.length_map, List.length_take]; omega
            · rw [take_at hm, List.map_append, nI_append]; rfl
          · rintro Hn ⟨en, hD⟩
            rw [nI_length, List.take_length] at hD
            have e7 := e6.trans en
            have hpn : Hn p = some (.lst its) := (e4.trans e7).1 _ _ hp3 (by simp)
            refine ⟨ty_list hpn, ?_⟩
            have ebn := (eb.trans e5).trans e7
            obtain ⟨v, tt, ps, rows, g1, g2, g3, g4, g5⟩ := (hp.ext ebn).prog
            have hn := g5.1
            refine tupG_it (J := Itr 0 Th.length) (n := Th.length) (H1 := Hn) (fun R h => ?_) walk_range (ebn.2.tab tab) (fun t ys Hj => Ext Hn Hj ∧ ys = nI ((List.range t).map (clkAt Th ws i))) (fun H2 e2 => ⟨e2, rfl⟩) (fun _ _ _ _ => trivial) ?_ ?_
            · unfold iRng1
              simp only [tVar, tC, tOp, tUn, tTest, tChain, tNil, tCons, tTup, tLst, tCall, tMeth, tMake, tCB, tIf, tAndV, tOrV, tNotV, tIsN, tNotN, tB, tAnd, tOr, tNot, tNext, tSeq, tDrop, tRet, tRetN, tIfS, tNever, gName, gNil, gCons, gSub, tAsg, tAug, tAugS, ipI, tBM, tBM0, tSl, tNoPart, tPart, tDGet, tDIn, tDNotIn, tDGet1, tDNewT, tDNewK, tYes, rI0, rI, rU, rAdd, rSub, rEq, rNe, L2.start, List.map_cons, List.map_nil, List.length_cons, List.length_nil, List.replicate, List.append_nil, List.nil_append, List.cons_append, List.getElem?_cons_zero, List.getElem?_cons_succ, List.set_cons_zero, List.set_cons_succ, Option.some.injEq, V.int.injEq, V.bl.injEq, V.ref.injEq, V.str.injEq, exists_eq_left', exists_eq_left, exists_and_left, true_and, and_true, Nat.reduceAdd, Nat.reduceSub, Nat.add_one_sub_one, Nat.sub_self, Bool.true_eq_false, Bool.false_eq_true, if_true, if_false, ite_true, ite_false, cxOf, Cx.nox, decide_eq_true_eq, reduceCtorEq, decide_false, decide_true, Bool.not_false, Bool.not_true, eq_self, upd_same, L2.upd_upd, List.cons.injEq, and_assoc]
              refine tu_ix 2 g1 rfl (tu_len g4 ⟨_, rfl, by omega, by omega, ?_⟩)
              rw [hn, Int.toNat_natCast]
              exact h
            · rintro t xx ys Hz Hj ht ⟨ej, rfl⟩ ⟨rfl, rfl⟩
              simp only [tVar, tC, tOp, tUn, tTest, tChain, tNil, tCons, tTup, tLst, tCall, tMeth, tMake, tCB, tIf, tAndV, tOrV, tNotV, tIsN, tNotN, tB, tAnd, tOr, tNot, tNext, tSeq, tDrop, tRet, tRetN, tIfS, tNever, gName, gNil, gCons, gSub, tAsg, tAug, tAugS, ipI, tBM, tBM0, tSl, tNoPart, tPart, tDGet, tDIn, tDNotIn, tDGet1, tDNewT, tDNewK, tYes, rI0, rI, rU, rAdd, rSub, rEq, rNe, L2.start, List.map_cons, List.map_nil, List.length_cons, List.length_nil, List.replicate, List.append_nil, List.nil_append, List.cons_append, List.getElem?_cons_zero, List.getElem?_cons_succ, List.set_cons_zero, List.set_cons_succ, Option.some.injEq, V.int.injEq, V.bl.injEq, V.ref.injEq, V.str.injEq, exists_eq_left', exists_eq_left, exists_and_left, true_and, and_true, Nat.reduceAdd, Nat.reduceSub, Nat.add_one_sub_one, Nat.sub_self, Bool.true_eq_false, Bool.false_eq_true, if_true, if_false, ite_true, ite_false, cxOf, Cx.nox, decide_eq_true_eq, reduceCtorEq, decide_false, decide_true, Bool.not_false, Bool.not_true, eq_self, upd_same, L2.upd_upd, List.cons.injEq, and_assoc, wipe, Int.zero_add]
              have hDj := ej.1 _ _ hD (by simp)
              refine ⟨ty_list hDj, D, ((r ++ [i]).map fun m => ws.getD m 0).map fun j : Nat => (j : Int), ((t : Nat) : Int), rfl, rfl, SqL.of ?_, small1000 ?_, fun _ => ⟨ej, ?_⟩⟩
              · rw [hDj, List.map_map]; rfl
              · rw [nI_length, List.length_map, List.length_range]; omega
              · rw [count_nats, ← hcl, range_snoc, nI_append]; rfl
            · rintro ys Hj ⟨ej, rfl⟩
              refine ⟨by rw [nI_length, List.length_map, List.length_range]; omega, fun q3 nq3 => ?_⟩
              have e8 := ej.trans (Ext.new (o := .tup (nI ((List.range Th.length).map (clkAt Th ws i)))) nq3)
              have hp8 := e8.1 _ _ hpn (by simp)
              have e9 := ((e5.trans e7).trans e8).upd (p := p) (o := .lst (its ++ [V.ref q3])) del_same
              refine ap_list hp8 (by rw [hT.1, List.length_map, List.length_range]; omega) ⟨by omega, e9, _, upd_same, ?_⟩
              rw [range_snoc]
              have kk := ((e4.trans e7).trans e8).kp.trans (Kp.lst (o := .lst (its ++ [V.ref q3])) hp8)
              refine A2.snoc (hT.imp fun _ _ z => Tu.kp z kk) ?_
              have : Tu (upd Hj q3 (.tup (nI ((List.range Th.length).map (clkAt Th ws i))))) (V.ref q3) (nI ((List.range Th.length).map (clkAt Th ws i))) := ⟨q3, rfl, upd_same⟩
              exact this.kp (Kp.lst (o := .lst (its ++ [V.ref q3])) hp8)
      · rintro σ' H' ⟨_, nu, ro, th, its, rfl, e3, hp3, hT⟩
        rw [hlen] at hT
        simp only [tVar, tC, tOp, tUn, tTest, tChain, tNil, tCons, tTup, tLst, tCall, tMeth, tMake, tCB, tIf, tAndV, tOrV, tNotV, tIsN, tNotN, tB, tAnd, tOr, tNot, tNext, tSeq, tDrop, tRet, tRetN, tIfS, tNever, gName, gNil, gCons, gSub, tAsg, tAug, tAugS, ipI, tBM, tBM0, tSl, tNoPart, tPart, tDGet, tDIn, tDNotIn, tDGet1, tDNewT, tDNewK, tYes, rI0, rI, rU, rAdd, rSub, rEq, rNe, L2.start, List.map_cons, List.map_nil, List.length_cons, List.length_nil, List.replicate, List.append_nil, List.nil_append, List.cons_append, List.getElem?_cons_zero, List.getElem?_cons_succ, List.set_cons_zero, List.set_cons_succ, Option.some.injEq, V.int.injEq, V.bl.injEq, V.ref.injEq, V.str.injEq, exists_eq_left', exists_eq_left, exists_and_left, true_and, and_true, Nat.reduceAdd, Nat.reduceSub, Nat.add_one_sub_one, Nat.sub_self, Bool.true_eq_false, Bool.false_eq_true, if_true, if_false, ite_true, ite_false, cxOf, Cx.nox, decide_eq_true_eq, reduceCtorEq, decide_false, decide_true, Bool.not_false, Bool.not_true, eq_self, upd_same, L2.upd_upd, List.cons.injEq, and_assoc]
        refine ⟨p, its, rfl, SqL.of hp3, fun l nl => q _ _ ((eb.trans e3).trans (Ext.new nl)) ⟨its, ⟨l, rfl, upd_same⟩, hT.imp fun _ _ z => Tu.ext z (Ext.new nl)⟩⟩
end
end TW

set_option maxHeartbeats 8000000
/-! TwK: the cuts of a run: later. -/
namespace TW
open PySem PySem.Spec PyProof.Rows L2
open TC hiding Step Env
/-! ### the object -/
def fl (a b c d e f g : V) : List (Str × V) := [("program", a), ("clocks", b), ("numbers", c), ("last", d), ("first", e), ("shown", f), ("order", g)]
theorem fl_program {a b c d e f g : V} : (fl a b c d e f g).lookup ("program" : Str) = some a := rfl
theorem fl_clocks {a b c d e f g : V} : (fl a b c d e f g).lookup ("clocks" : Str) = some b := rfl
theorem fl_numbers {a b c d e f g : V} : (fl a b c d e f g).lookup ("numbers" : Str) = some c := rfl
theorem fl_last {a b c d e f g : V} : (fl a b c d e f g).lookup ("last" : Str) = some d := rfl
theorem fl_first {a b c d e f g : V} : (fl a b c d e f g).lookup ("first" : Str) = some e := rfl
theorem fl_shown {a b c d e f g : V} : (fl a b c d e f g).lookup ("shown" : Str) = some f := rfl
theorem fl_order {a b c d e f g : V} : (fl a b c d e f g).lookup ("order" : Str) = some g := rfl
theorem fl_later {a b c d e f g : V} : (fl a b c d e f g).lookup ("later" : Str) = none := rfl
/-- the class of cuts -/
structure CK (K : PySem.W.Frag) (C : Addr) : Prop where
  cl : Cls K C
  program : NoAttr K C "program"
  clocks : NoAttr K C "clocks"
  numbers : NoAttr K C "numbers"
  last : NoAttr K C "last"
  first : NoAttr K C "first"
  shown : NoAttr K C "shown"
  order : NoAttr K C "order"
def numK (w : List Nat) (i : Nat) : List (List Key × V) := (List.range i).map fun k => ([Sum.inl ((evt w k).1 : Int), Sum.inl ((evt w k).2 : Int)], V.int (k : Nat))
theorem numK_val {w : List Nat} {t c : Nat} : valV (numK w w.length) [Sum.inl (t : Int), Sum.inl (c : Int)] = ((numM w).lookup (t, c)).map fun k : Nat => V.int (k : Nat) := by
  unfold numK numM
  generalize List.range w.length = l
  induction l with
  | nil => rfl
  | cons k l ih =>
    rw [List.map_cons, List.map_cons, List.lookup_cons]
    by_cases e : evt w k = (t, c)
    · have e1 : ([Sum.inl ((evt w k).1 : Int), Sum.inl ((evt w k).2 : Int)] : List Key) = [Sum.inl (t : Int), Sum.inl (c : Int)] := by rw [e]
      rw [valV_pos e1]
      have : ((t, c) == evt w k) = true := by rw [e]; exact beq_self_eq_true _
      rw [this]; rfl
    · have e1 : ¬ ([Sum.inl ((evt w k).1 : Int), Sum.inl ((evt w k).2 : Int)] : List Key) = [Sum.inl (t : Int), Sum.inl (c : Int)] := fun z => by
        simp only [List.cons.injEq, Sum.inl.injEq, and_true] at z
        exact e (Prod.ext (Int.ofNat.inj z.1) (Int.ofNat.inj z.2))
      rw [valV_neg e1, ih]
      have : ((t, c) == evt w k) = false := beq_eq_false_iff_ne.mpr fun z => e z.symm
      rw [this]
/-- the cuts of the run ws: what does not change -/
structure CuS (C : Addr) (H : Hp) (x : V) (e0 : TC.Env) (Th : Thr) (ws : List Nat) (nu : Addr) (P cl la fi sh od : V) : Prop where
  ins : ∃ p dx, x = .ref p ∧ H p = some (.ins C dx (fl P cl (.ref nu) la fi sh od))
  prog : PW H P e0 Th
  clk : TT2 H cl (clocksL Th Th.length ws)
  num : H nu = some (.dT (numK ws ws.length))
  last : Tn H la (lastM Th.length ws)
  first : Tn H fi (zeroL Th.length)
  ok : okw Th e0 (zeroL Th.length) ws = true
theorem CuS.ext {C : Addr} {H H' : Hp} {x : V} {e0 : TC.Env} {Th : Thr} {ws : List Nat} {nu : Addr} {P cl la fi sh od : V} (c : CuS C H x e0 Th ws nu P cl la fi sh od) (e : Ext H H') : CuS C H' x e0 Th ws nu P cl la fi sh od := by
  obtain ⟨⟨p, dx, h1, h2⟩, h3, h4, h5, h6, h7, h8⟩ := c
  exact ⟨⟨p, dx, h1, e.1 _ _ h2 (by simp)⟩, h3.ext e, h4.kp e.kp, e.1 _ _ h5 (by simp), Tu.ext h6 e, Tu.ext h7 e, h8⟩
/-- o.f -/
def rFld (K : PySem.W.Frag) (f : Str) : V → Hp → VK → Prop := fun x H Q => ∃ a C dx fs v, x = .ref a ∧ H a = some (.ins C dx fs) ∧ Cls K C ∧ NoAttr K C f ∧ fs.lookup f = some v ∧ Q v H
theorem pe_fldR {X : Cx} {e : Expr} {f : Str} {pos : Pos} {ta : TE} (ha : PE X e ta) (hb : attributeBase e f X.env (eval e X.env) = eval e X.env := by rfl) : PE X (.Attribute e f pos) (tUn (rFld X.K f) ta) := pe_fld ha hb
section
variable {K : PySem.W.Frag} {C : Addr} {H : Hp} {x : V} {e0 : TC.Env} {Th : Thr} {ws : List Nat} {nu : Addr} {Pr cl la fi sh od : V} {Q : VK}
theorem CuS.f_program (c : CuS C H x e0 Th ws nu Pr cl la fi sh od) (k : CK K C) (q : Q Pr H) : rFld K "program" x H Q := by
  obtain ⟨p, dx, e, h⟩ := c.ins
  exact ⟨p, C, dx, _, _, e, h, k.cl, k.program, fl_program, q⟩
theorem CuS.f_clocks (c : CuS C H x e0 Th ws nu Pr cl la fi sh od) (k : CK K C) (q : Q cl H) : rFld K "clocks" x H Q := by
  obtain ⟨p, dx, e, h⟩ := c.ins
  exact ⟨p, C, dx, _, _, e, h, k.cl, k.clocks, fl_clocks, q⟩
theorem CuS.f_numbers (c : CuS C H x e0 Th ws nu Pr cl la fi sh od) (k : CK K C) (q : Q (.ref nu) H) : rFld K "numbers" x H Q := by
  obtain ⟨p, dx, e, h⟩ := c.ins
  exact ⟨p, C, dx, _, _, e, h, k.cl, k.numbers, fl_numbers, q⟩
theorem CuS.f_last (c : CuS C H x e0 Th ws nu Pr cl la fi sh od) (k : CK K C) (q : Q la H) : rFld K "last" x H Q := by
  obtain ⟨p, dx, e, h⟩ := c.ins
  exact ⟨p, C, dx, _, _, e, h, k.cl, k.last, fl_last, q⟩
theorem CuS.f_first (c : CuS C H x e0 Th ws nu Pr cl la fi sh od) (k : CK K C) (q : Q fi H) : rFld K "first" x H Q := by
  obtain ⟨p, dx, e, h⟩ := c.ins
  exact ⟨p, C, dx, _, _, e, h, k.cl, k.first, fl_first, q⟩
theorem CuS.f_shown (c : CuS C H x e0 Th ws nu Pr cl la fi sh od) (k : CK K C) (q : Q sh H) : rFld K "shown" x H Q := by
  obtain ⟨p, dx, e, h⟩ := c.ins
  exact ⟨p, C, dx, _, _, e, h, k.cl, k.shown, fl_shown, q⟩
theorem CuS.f_order (c : CuS C H x e0 Th ws nu Pr cl la fi sh od) (k : CK K C) (q : Q od H) : rFld K "order" x H Q := by
  obtain ⟨p, dx, e, h⟩ := c.ins
  exact ⟨p, C, dx, _, _, e, h, k.cl, k.order, fl_order, q⟩
end
theorem walk_zipT {K : PySem.W.Frag} {a b : Addr} {xs ys : List V} (hl : xs.length = ys.length) : Walk (RZ.ItzT K a b) xs.length (fun H => SqT K H a xs ∧ SqT K H b ys) (YPair (fun i => xs[i]?) (fun i => ys[i]?)) := by
  refine ⟨fun i H hi ⟨q1, q2⟩ => ⟨xs, ys, xs[i], ys[i]'(by omega), q1, q2, by simp [hi], by simp [show i < ys.length by omega]⟩, fun H ⟨q1, q2⟩ => ⟨xs, ys, q1, q2, .inl (Nat.le_refl _)⟩, fun i H v H' _ ⟨q1, q2⟩ y => ?_⟩
  obtain ⟨T, x, z, h1, h2, h3, h4, h5⟩ := y
  exact ⟨T, x, z, h1, h2, h3, h4 xs q1, h5 ys q2⟩
/-- d.get(k) -/
def rGet : V → V → Hp → VK → Prop := fun x y H Q => ∃ a o, x = .ref a ∧ DGet H a y o ∧ Q (o.getD .non) H
section
variable {P : Program} {w : World} {K : PySem.W.Frag} {mg : Str → Option Value} {base : Heap}
abbrev inK (s : Stmt) (j : Nat) : Stmt := inClass s j
abbrev sLater : Stmt := inClass (tx 18) 1
abbrev nLater : List Str := ["self", "cut", "found", "thread", "count", "number", "more", "one", "other"]
/-- rows of later -/
def LaRow (H : Hp) (x : V) (r : Nat × List Nat) : Prop := ∃ m, Tu H x [.int (r.1 : Nat), m] ∧ Tn H m r.2
theorem LaRow.kp {H H' : Hp} {x : V} {r : Nat × List Nat} (h : LaRow H x r) (e : Kp H H') : LaRow H' x r := by
  obtain ⟨m, h1, h2⟩ := h
  exact ⟨m, h1.kp e, Tu.kp h2 e⟩
def spLater (C Pa : Addr) : Sp := fun vs H Q _ => ∃ x y e0 Th ws nu Pr cl la fi sh od cut, vs = [x, y] ∧ CuS C H x e0 Th ws nu Pr cl la fi sh od ∧ Tn H y cut ∧ cut.length = Th.length ∧ GxR.TabG H Pa ∧
  ∀ H' p its, Ext H H' → H p = none → H' p = some (.lst its) → A2 (LaRow H') its (laterM Th Th.length ws cut) → Q (.ref p) H'
theorem scLater : FnScope nLater ["self", "cut"] (defScope sLater) := ⟨rfl, rfl, rfl, by decide +kernel, rfl, by decide +kernel, by decide +kernel⟩
theorem ok_later {f c C Pa : Addr} {fd : FuncData} (F : FunC K "later" "Cuts.later" sLater f fd c) (TB : GxR.TabB base mg c Pa) (B : Bt mg) (ck : CK K C) (c1 : CAfter P w K mg base) : FnOk P w K mg base CX0 2 f fd ["self", "cut"] (spLater C Pa) := by
  refine F.ok scLater (fun vs H Q E h => ?_) (fun A outer s H vs Q E hr h => ?_)
  · obtain ⟨x, y, e0, Th, ws, nu, Pr, cl, la, fi, sh, od, cut, rfl, _⟩ := h
    rfl
  · obtain ⟨x, y, e0, Th, ws, nu, Pr, cl, la, fi, sh, od, cut, rfl, cu, hy, hcl, tab, q⟩ := h
    refine ⟨_, pss_cons (ps_set (i := 2) scLater.nd rfl (Or.inl rfl) (pe_lst pa_nil))
      (pss_cons (ps_for PassesOwn.never rfl (GX.pi_enumT (by rfl) B.enumerate (pa_cons (pv 1) pa_nil)) (pg_tup rfl (pgs_cons (pg_name (i := 3) scLater.nd rfl (.inl rfl)) (pgs_cons (pg_name (i := 4) scLater.nd rfl (.inl rfl)) pgs_nil)))
        (pss_cons (ps_set (i := 5) scLater.nd rfl (Or.inl rfl) (pe_dget1 (hu_of hr) (pe_fldR (pv 0)) (pe_tup (pa_cons (pv 3) (pa_cons (pv 4) pa_nil))) ⟨rfl, rfl, rfl, rfl⟩))
        (pss_one (ps_if (pt_cmpR op_notN (pv 5) pe_non (nomark _))
          (pss_cons (ps_set (i := 6) scLater.nd rfl (Or.inl rfl) (pe_cal c1 hr rfl (pa_cons (pv 1) (pa_cons (pv 3) pa_nil))))
          (pss_one (ps_if (pt_val (GX.pe_allG (own := [("one", 7), ("other", 8)]) (g := gTup K 2 (gCons (gName 7) (gCons (gName 8) gNil))) (tt := tYes) (te := tOp (rI0 fun i j => V.bl (decide (i ≤ j))) (tVar 7) (tVar 8)) (k := 0) rfl hr TB rfl scLater.nd (by rfl) B.all
              (RZ.pi_zipA (by rfl) B.zip (pa_cons (pe_ix ix_tup (pe_fldR (pv 0)) (pv 5) (fun _ _ => rfl)) (pa_cons (pv 6) pa_nil))) (blkOk_by (N := nLater) (sc := defScope sLater) (by decide +kernel)) rfl (by decide +kernel) (by decide +kernel)
              (fun _ _ _ _ _ _ _ _ _ => pg_tup rfl (pgs_cons (pg_name (i := 7) scLater.nd rfl (.inl rfl)) (pgs_cons (pg_name (i := 8) scLater.nd rfl (.inl rfl)) pgs_nil))) (fun _ _ _ _ _ _ _ _ _ => pts_nil) (fun _ _ _ _ _ _ _ _ _ => pe_cmpR op_le (pv 7) (pv 8) (nomark _))))
            (pss_one (ps_expr (pe_bm PySem.F.plainAttrs_list PySem.F.slot_list_append PySem.F.type_list_append mt_append (pv 2) (pa_cons (pe_tup (pa_cons (pv 3) (pa_cons (pv 6) pa_nil))) pa_nil)))) pss_nil))) pss_nil))))
      (pss_one (ps_ret (pv 2)))), ?_⟩
    simp only [tVar, tC, tOp, tUn, tTest, tChain, tNil, tCons, tTup, tLst, tCall, tMeth, tMake, tCB, tIf, tAndV, tOrV, tNotV, tIsN, tNotN, tB, tAnd, tOr, tNot, tNext, tSeq, tDrop, tRet, tRetN, tIfS, tNever, gName, gNil, gCons, gSub, tAsg, tAug, tAugS, ipI, tBM, tBM0, tSl, tNoPart, tPart, tDGet, tDIn, tDNotIn, tDGet1, tDNewT, tDNewK, tYes, rI0, rI, rU, rAdd, rSub, rEq, rNe, L2.start, List.map_cons, List.map_nil, List.length_cons, List.length_nil, List.replicate, List.append_nil, List.nil_append, List.cons_append, List.getElem?_cons_zero, List.getElem?_cons_succ, List.set_cons_zero, List.set_cons_succ, Option.some.injEq, V.int.injEq, V.bl.injEq, V.ref.injEq, V.str.injEq, exists_eq_left', exists_eq_left, exists_and_left, true_and, and_true, Nat.reduceAdd, Nat.reduceSub, Nat.add_one_sub_one, Nat.sub_self, Bool.true_eq_false, Bool.false_eq_true, if_true, if_false, ite_true, ite_false, cxOf, Cx.nox, decide_eq_true_eq, reduceCtorEq, decide_false, decide_true, Bool.not_false, Bool.not_true, eq_self, upd_same, L2.upd_upd, List.cons.injEq, and_assoc]
    refine ⟨Nat.zero_le _, fun p np => ?_⟩
    have n3 := cu.prog.n3
    have hwl := run_len cu.prog cu.ok
    obtain ⟨ya, rfl, hya⟩ := id hy
    have e1 : Ext H (upd H p (.lst [])) := Ext.new np
    refine for_enumT (a := ya) (xs := nI cut) (fun R h => ⟨_, rfl, h⟩) (e1.1 _ _ hya (by simp)) (fun i σ' H' => i ≤ cut.length ∧ ∃ th co nn mo its, σ' = [some x, some (.ref ya), some (.ref p), th, co, nn, mo, none, none] ∧ Ext H H' ∧ H' p = some (.lst its) ∧
        A2 (LaRow H') its (((List.range i).filter (mayM Th Th.length ws cut)).map fun t => (t, inc cut t)))
      ⟨Nat.zero_le _, none, none, none, none, [], rfl, e1, upd_same, A2.nil⟩ (fun i σ' H' ⟨_, _, _, _, _, _, _, e, _⟩ => e.1 _ _ hya (by simp)) ?_ ?_
    · rintro i it T σ' H' hi ⟨hil, th, co, nn, mo, its, rfl, e2, hp2, hA⟩ nT
      obtain ⟨cn, hcn, rfl⟩ := nI_inv hi
      have hit : i < cut.length := (List.getElem?_eq_some_iff.mp hcn).1
      have hcd : cut.getD i 0 = cn := by rw [List.getD_eq_getElem?_getD, hcn]; rfl
      refine tu_tgt ⟨T, rfl, upd_same⟩ ?_
      simp only [tVar, tC, tOp, tUn, tTest, tChain, tNil, tCons, tTup, tLst, tCall, tMeth, tMake, tCB, tIf, tAndV, tOrV, tNotV, tIsN, tNotN, tB, tAnd, tOr, tNot, tNext, tSeq, tDrop, tRet, tRetN, tIfS, tNever, gName, gNil, gCons, gSub, tAsg, tAug, tAugS, ipI, tBM, tBM0, tSl, tNoPart, tPart, tDGet, tDIn, tDNotIn, tDGet1, tDNewT, tDNewK, tYes, rI0, rI, rU, rAdd, rSub, rEq, rNe, L2.start, List.map_cons, List.map_nil, List.length_cons, List.length_nil, List.replicate, List.append_nil, List.nil_append, List.cons_append, List.getElem?_cons_zero, List.getElem?_cons_succ, List.set_cons_zero, List.set_cons_succ, Option.some.injEq, V.int.injEq, V.bl.injEq, V.ref.injEq, V.str.injEq, exists_eq_left', exists_eq_left, exists_and_left, true_and, and_true, Nat.reduceAdd, Nat.reduceSub, Nat.add_one_sub_one, Nat.sub_self, Bool.true_eq_false, Bool.false_eq_true, if_true, if_false, ite_true, ite_false, cxOf, Cx.nox, decide_eq_true_eq, reduceCtorEq, decide_false, decide_true, Bool.not_false, Bool.not_true, eq_self, upd_same, L2.upd_upd, List.cons.injEq, and_assoc]
      have e3 : Ext H' (upd H' T (.tup [V.int (i : Nat), V.int (cn : Nat)])) := Ext.new nT
      generalize upd H' T (.tup [V.int (i : Nat), V.int (cn : Nat)]) = Ha at *
      have ea := e2.trans e3
      refine (cu.ext ea).f_numbers ck ?_
      have hnu := (cu.ext ea).num
      have hpa : Ha p = some (.lst its) := e3.1 _ _ hp2 (by simp)
      -- no such step, or not yet
      have stay : ∀ {Hx : Hp}, Ext Ha Hx → mayM Th Th.length ws cut i = false → i + 1 ≤ cut.length ∧ Ext H Hx ∧ ∃ xs, Hx p = some (.lst xs) ∧ A2 (LaRow Hx) xs (((List.range (i + 1)).filter (mayM Th Th.length ws cut)).map fun t => (t, inc cut t)) := fun {Hx} ex hm => by
        refine ⟨hit, ea.trans ex, its, ex.1 _ _ hpa (by simp), ?_⟩
        rw [List.range_succ, List.filter_append]
        have : List.filter (mayM Th Th.length ws cut) [i] = [] := by simp [hm]
        rw [this, List.append_nil]
        exact hA.imp fun _ _ z => z.kp (e3.trans ex).kp
      refine ⟨nu, rfl, .inr ⟨_, .inl hnu⟩, szN (by decide), fun p1 np1 => ?_⟩
      have e4 : Ext Ha (upd Ha p1 (.tup [V.int (i : Nat), V.int (cn : Nat)])) := Ext.new np1
      have hg : DGet (upd Ha p1 (.tup [V.int (i : Nat), V.int (cn : Nat)])) nu (.ref p1) (valV (numK ws ws.length) [Sum.inl (i : Int), Sum.inl (cn : Int)]) := DGet.t (e4.1 _ _ hnu (by simp)) (by rw [upd_same]; rfl)
      generalize upd Ha p1 (.tup [V.int (i : Nat), V.int (cn : Nat)]) = Hb at *
      refine ⟨_, hg, ?_⟩
      rw [numK_val]
      cases hk : (numM ws).lookup (i, cn) with
      | none =>
        simp only [Option.map_none, Option.getD_none, tVar, tC, tOp, tUn, tTest, tChain, tNil, tCons, tTup, tLst, tCall, tMeth, tMake, tCB, tIf, tAndV, tOrV, tNotV, tIsN, tNotN, tB, tAnd, tOr, tNot, tNext, tSeq, tDrop, tRet, tRetN, tIfS, tNever, gName, gNil, gCons, gSub, tAsg, tAug, tAugS, ipI, tBM, tBM0, tSl, tNoPart, tPart, tDGet, tDIn, tDNotIn, tDGet1, tDNewT, tDNewK, tYes, rI0, rI, rU, rAdd, rSub, rEq, rNe, L2.start, List.map_cons, List.map_nil, List.length_cons, List.length_nil, List.replicate, List.append_nil, List.nil_append, List.cons_append, List.getElem?_cons_zero, List.getElem?_cons_succ, List.set_cons_zero, List.set_cons_succ, Option.some.injEq, V.int.injEq, V.bl.injEq, V.ref.injEq, V.str.injEq, exists_eq_left', exists_eq_left, exists_and_left, true_and, and_true, Nat.reduceAdd, Nat.reduceSub, Nat.add_one_sub_one, Nat.sub_self, Bool.true_eq_false, Bool.false_eq_true, if_true, if_false, ite_true, ite_false, cxOf, Cx.nox, decide_eq_true_eq, reduceCtorEq, decide_false, decide_true, Bool.not_false, Bool.not_true, eq_self, upd_same, L2.upd_upd, List.cons.injEq, and_assoc]
        exact stay e4 (by unfold mayM; rw [hcd, hk])
      | some k =>
        obtain ⟨hkl, hke⟩ := num_iff.mp hk
        simp only [Option.map_some, Option.getD_some, tVar, tC, tOp, tUn, tTest, tChain, tNil, tCons, tTup, tLst, tCall, tMeth, tMake, tCB, tIf, tAndV, tOrV, tNotV, tIsN, tNotN, tB, tAnd, tOr, tNot, tNext, tSeq, tDrop, tRet, tRetN, tIfS, tNever, gName, gNil, gCons, gSub, tAsg, tAug, tAugS, ipI, tBM, tBM0, tSl, tNoPart, tPart, tDGet, tDIn, tDNotIn, tDGet1, tDNewT, tDNewK, tYes, rI0, rI, rU, rAdd, rSub, rEq, rNe, L2.start, List.map_cons, List.map_nil, List.length_cons, List.length_nil, List.replicate, List.append_nil, List.nil_append, List.cons_append, List.getElem?_cons_zero, List.getElem?_cons_succ, List.set_cons_zero, List.set_cons_succ, Option.some.injEq, V.int.injEq, V.bl.injEq, V.ref.injEq, V.str.injEq, exists_eq_left', exists_eq_left, exists_and_left, true_and, and_true, Nat.reduceAdd, Nat.reduceSub, Nat.add_one_sub_one, Nat.sub_self, Bool.true_eq_false, Bool.false_eq_true, if_true, if_false, ite_true, ite_false, cxOf, Cx.nox, decide_eq_true_eq, reduceCtorEq, decide_false, decide_true, Bool.not_false, Bool.not_true, eq_self, upd_same, L2.upd_upd, List.cons.injEq, and_assoc]
        have eb := ea.trans e4
        have hmay : mayM Th Th.length ws cut i = (List.range Th.length).all fun u => decide (clkAt Th ws k u ≤ (inc cut i).getD u 0) := by unfold mayM; rw [hcd, hk]
        refine ⟨V.ref ya, cut, i, rfl, hy.ext eb, hit, by omega, fun mv H1 e5 hmv => ?_⟩
        have e6 := e4.trans e5
        have ec := ea.trans e6
        obtain ⟨cits, hcl1, hcl2⟩ := (cu.ext ec).clk
        have hck : (clocksL Th Th.length ws)[k]? = some ((List.range Th.length).map (clkAt Th ws k)) := by
          unfold clocksL
          rw [List.getElem?_map, List.getElem?_range hkl]; rfl
        obtain ⟨cv, hcv, hcT⟩ := hcl2.at hck
        obtain ⟨ca, rfl, hca⟩ := id hcT
        obtain ⟨ma, rfl, hma⟩ := id hmv
        have hlz : (nI ((List.range Th.length).map (clkAt Th ws k))).length = (nI (inc cut i)).length := by rw [nI_length, nI_length, List.length_map, List.length_range, inc_length, hcl]
        refine allG_it (J := RZ.ItzT K ca ma) (n := (nI ((List.range Th.length).map (clkAt Th ws k))).length) (H1 := H1) (fun R h => ?_) (walk_zipT hlz) (ec.2.tab tab) (fun j ys Hj => Ext H1 Hj ∧ ys.length = j ∧ ∀ u, u < j → clkAt Th ws k u ≤ (inc cut i).getD u 0) (fun H2 e => ⟨e, rfl, fun u hu => by omega⟩)
          (fun _ _ Hj ⟨e, _⟩ => ⟨SqT.of (e.1 _ _ hca (by simp)), SqT.of (e.1 _ _ hma (by simp))⟩) ?_ ?_
        · unfold RZ.iZipA
          simp only [tVar, tC, tOp, tUn, tTest, tChain, tNil, tCons, tTup, tLst, tCall, tMeth, tMake, tCB, tIf, tAndV, tOrV, tNotV, tIsN, tNotN, tB, tAnd, tOr, tNot, tNext, tSeq, tDrop, tRet, tRetN, tIfS, tNever, gName, gNil, gCons, gSub, tAsg, tAug, tAugS, ipI, tBM, tBM0, tSl, tNoPart, tPart, tDGet, tDIn, tDNotIn, tDGet1, tDNewT, tDNewK, tYes, rI0, rI, rU, rAdd, rSub, rEq, rNe, L2.start, List.map_cons, List.map_nil, List.length_cons, List.length_nil, List.replicate, List.append_nil, List.nil_append, List.cons_append, List.getElem?_cons_zero, List.getElem?_cons_succ, List.set_cons_zero, List.set_cons_succ, Option.some.injEq, V.int.injEq, V.bl.injEq, V.ref.injEq, V.str.injEq, exists_eq_left', exists_eq_left, exists_and_left, true_and, and_true, Nat.reduceAdd, Nat.reduceSub, Nat.add_one_sub_one, Nat.sub_self, Bool.true_eq_false, Bool.false_eq_true, if_true, if_false, ite_true, ite_false, cxOf, Cx.nox, decide_eq_true_eq, reduceCtorEq, decide_false, decide_true, Bool.not_false, Bool.not_true, eq_self, upd_same, L2.upd_upd, List.cons.injEq, and_assoc]
          refine (cu.ext ec).f_clocks ck (tu_ix k hcl1 hcv ?_)
          exact ⟨ca, rfl, _, _, .inr ⟨SqT.of hca, SqT.of hma, h⟩⟩
        · rintro j xx ys Hz Hj hj ⟨ej, hyl, hall⟩ ⟨T2, x1, y1, rfl, nT2, rfl, hx1, hy1⟩
          obtain ⟨c1, hc1, rfl⟩ := nI_inv hx1
          obtain ⟨d1, hd1, rfl⟩ := nI_inv hy1
          have hjn : j < Th.length := by rw [nI_length, List.length_map, List.length_range] at hj; exact hj
          have hc1' : c1 = clkAt Th ws k j := by
            rw [List.getElem?_map, List.getElem?_range hjn] at hc1
            exact (Option.some.inj hc1).symm
          have hd1' : d1 = (inc cut i).getD j 0 := by rw [List.getD_eq_getElem?_getD, hd1]; rfl
          refine tu_tgt ⟨T2, rfl, upd_same⟩ ?_
          simp only [tVar, tC, tOp, tUn, tTest, tChain, tNil, tCons, tTup, tLst, tCall, tMeth, tMake, tCB, tIf, tAndV, tOrV, tNotV, tIsN, tNotN, tB, tAnd, tOr, tNot, tNext, tSeq, tDrop, tRet, tRetN, tIfS, tNever, gName, gNil, gCons, gSub, tAsg, tAug, tAugS, ipI, tBM, tBM0, tSl, tNoPart, tPart, tDGet, tDIn, tDNotIn, tDGet1, tDNewT, tDNewK, tYes, rI0, rI, rU, rAdd, rSub, rEq, rNe, L2.start, List.map_cons, List.map_nil, List.length_cons, List.length_nil, List.replicate, List.append_nil, List.nil_append, List.cons_append, List.getElem?_cons_zero, List.getElem?_cons_succ, List.set_cons_zero, List.set_cons_succ, Option.some.injEq, V.int.injEq, V.bl.injEq, V.ref.injEq, V.str.injEq, exists_eq_left', exists_eq_left, exists_and_left, true_and, and_true, Nat.reduceAdd, Nat.reduceSub, Nat.add_one_sub_one, Nat.sub_self, Bool.true_eq_false, Bool.false_eq_true, if_true, if_false, ite_true, ite_false, cxOf, Cx.nox, decide_eq_true_eq, reduceCtorEq, decide_false, decide_true, Bool.not_false, Bool.not_true, eq_self, upd_same, L2.upd_upd, List.cons.injEq, and_assoc, wipe]
          have e7 : Ext H1 (upd Hz T2 (.tup [V.int (c1 : Nat), V.int (d1 : Nat)])) := ej.trans (Ext.new nT2)
          refine ⟨fun hb => ?_, small1000 (by omega), fun hb => ⟨e7, by rw [List.length_append, hyl]; rfl, fun u hu => ?_⟩⟩
          · refine stay (e6.trans e7) ?_
            rw [hmay]
            have hb' : ¬ ((c1 : Int) ≤ (d1 : Int)) := of_decide_eq_false hb
            rw [List.all_eq_false]
            exact ⟨j, List.mem_range.mpr hjn, by rw [← hc1', ← hd1']; simp; omega⟩
          · have hb' : (c1 : Int) ≤ (d1 : Int) := by simpa using hb
            by_cases e : u = j
            · subst e; rw [← hc1', ← hd1']; omega
            · exact hall u (by omega)
        · rintro ys Hj ⟨ej, hyl, hall⟩
          rw [nI_length, List.length_map, List.length_range] at hall
          refine ⟨true, rfl, ?_⟩
          simp only [tVar, tC, tOp, tUn, tTest, tChain, tNil, tCons, tTup, tLst, tCall, tMeth, tMake, tCB, tIf, tAndV, tOrV, tNotV, tIsN, tNotN, tB, tAnd, tOr, tNot, tNext, tSeq, tDrop, tRet, tRetN, tIfS, tNever, gName, gNil, gCons, gSub, tAsg, tAug, tAugS, ipI, tBM, tBM0, tSl, tNoPart, tPart, tDGet, tDIn, tDNotIn, tDGet1, tDNewT, tDNewK, tYes, rI0, rI, rU, rAdd, rSub, rEq, rNe, L2.start, List.map_cons, List.map_nil, List.length_cons, List.length_nil, List.replicate, List.append_nil, List.nil_append, List.cons_append, List.getElem?_cons_zero, List.getElem?_cons_succ, List.set_cons_zero, List.set_cons_succ, Option.some.injEq, V.int.injEq, V.bl.injEq, V.ref.injEq, V.str.injEq, exists_eq_left', exists_eq_left, exists_and_left, true_and, and_true, Nat.reduceAdd, Nat.reduceSub, Nat.add_one_sub_one, Nat.sub_self, Bool.true_eq_false, Bool.false_eq_true, if_true, if_false, ite_true, ite_false, cxOf, Cx.nox, decide_eq_true_eq, reduceCtorEq, decide_false, decide_true, Bool.not_false, Bool.not_true, eq_self, upd_same, L2.upd_upd, List.cons.injEq, and_assoc]
          have hm : mayM Th Th.length ws cut i = true := by
            rw [hmay, List.all_eq_true]
            intro u hu
            exact decide_eq_true (hall u (List.mem_range.mp hu))
          have e7 := e6.trans ej
          have hpj : Hj p = some (.lst its) := e7.1 _ _ hpa (by simp)
          refine ⟨ty_list hpj, szN (by decide), fun p2 np2 => ?_⟩
          have e8 := e7.trans (Ext.new (o := .tup [V.int (i : Nat), V.ref ma]) np2)
          have hp8 := e8.1 _ _ hpa (by simp)
          have hfz := List.length_filter_le (mayM Th Th.length ws cut) (List.range i)
          rw [List.length_range] at hfz
          refine ap_list hp8 (by rw [hA.1, List.length_map]; omega) ⟨hit, (ea.trans e8).upd np, _, upd_same, ?_⟩
          rw [List.range_succ, List.filter_append]
          have hs : List.filter (mayM Th Th.length ws cut) [i] = [i] := by simp [hm]
          rw [hs, List.map_append]
          have kk := (e3.trans e8).kp.trans (Kp.lst (o := .lst (its ++ [V.ref p2])) hp8)
          refine A2.snoc (hA.imp fun _ _ z => z.kp kk) ⟨V.ref ma, ?_, ?_⟩
          · have : Tu (upd Hj p2 (.tup [V.int (i : Nat), V.ref ma])) (V.ref p2) [V.int (i : Nat), V.ref ma] := ⟨p2, rfl, upd_same⟩
            exact this.kp (Kp.lst (o := .lst (its ++ [V.ref p2])) hp8)
          · have : Tn (upd Hj p2 (.tup [V.int (i : Nat), V.ref ma])) (V.ref ma) (inc cut i) := hmv.ext (ej.trans (Ext.new np2))
            exact this.kp (Kp.lst (o := .lst (its ++ [V.ref p2])) hp8)
    · rintro σ' H' ⟨_, th, co, nn, mo, its, rfl, e2, hp2, hA⟩
      rw [nI_length] at hA
      simp only [tVar, tC, tOp, tUn, tTest, tChain, tNil, tCons, tTup, tLst, tCall, tMeth, tMake, tCB, tIf, tAndV, tOrV, tNotV, tIsN, tNotN, tB, tAnd, tOr, tNot, tNext, tSeq, tDrop, tRet, tRetN, tIfS, tNever, gName, gNil, gCons, gSub, tAsg, tAug, tAugS, ipI, tBM, tBM0, tSl, tNoPart, tPart, tDGet, tDIn, tDNotIn, tDGet1, tDNewT, tDNewK, tYes, rI0, rI, rU, rAdd, rSub, rEq, rNe, L2.start, List.map_cons, List.map_nil, List.length_cons, List.length_nil, List.replicate, List.append_nil, List.nil_append, List.cons_append, List.getElem?_cons_zero, List.getElem?_cons_succ, List.set_cons_zero, List.set_cons_succ, Option.some.injEq, V.int.injEq, V.bl.injEq, V.ref.injEq, V.str.injEq, exists_eq_left', exists_eq_left, exists_and_left, true_and, and_true, Nat.reduceAdd, Nat.reduceSub, Nat.add_one_sub_one, Nat.sub_self, Bool.true_eq_false, Bool.false_eq_true, if_true, if_false, ite_true, ite_false, cxOf, Cx.nox, decide_eq_true_eq, reduceCtorEq, decide_false, decide_true, Bool.not_false, Bool.not_true, eq_self, upd_same, L2.upd_upd, List.cons.injEq, and_assoc]
      refine q H' p its e2 np hp2 ?_
      unfold laterM
      rw [← hcl]; rw [← hcl] at hA
      exact hA
end
end TW

set_option maxHeartbeats 8000000
/-! TwL: the cuts of a run: meets, find. -/
namespace TW
open PySem PySem.Spec PyProof.Rows L2
open TC hiding Step Env
/-! ### methods -/
structure CalM (P : Program) (w : World) (K : PySem.W.Frag) (mg : Str → Option Value) (base : Heap) (C : Addr) (k : Nat) (x : Str) (ps : List Str) (sp : Sp) : Prop where
  ex : ∃ f fd, Meth K C x f ∧ Binds K fd ps [] ∧ FnOk P w K mg base CX0 k f fd ps sp
theorem CalM.mono {P : Program} {w : World} {K : PySem.W.Frag} {mg : Str → Option Value} {base : Heap} {C : Addr} {j k : Nat} {x : Str} {ps : List Str} {sp : Sp} (c : CalM P w K mg base C j x ps sp) (h : j ≤ k) : CalM P w K mg base C k x ps sp := by
  obtain ⟨f, fd, h1, h2, h3⟩ := c.ex
  exact ⟨f, fd, h1, h2, h3.mono h⟩
/-- x is an instance of C, without a field m -/
def rIns (C : Addr) (m : Str) (x : V) (H : Hp) (R : Prop) : Prop := ∃ a dx fs, x = .ref a ∧ H a = some (.ins C dx fs) ∧ fs.lookup m = none ∧ R
def tMth (C : Addr) (m : Str) (sp : Sp) (ta : TE) (t : TA) : TE := fun σ H Q => ta σ H fun x H1 => rIns C m x H1 (t σ H1 fun vs H2 => sp (x :: (vs ++ [])) H2 Q E0)
theorem pe_mcal {X : Cx} {C : Addr} {k : Nat} {m : Str} {ps : List Str} {sp : Sp} {o e : Expr} {es : List Expr} {ta : TE} {t : TA} {apos pos : Pos} {pl : Sem Bool} (c : CalM X.prog X.w X.K X.mg X.base C k m ps sp) (cl : Cls X.K C) (hr : Room k X.A) (ho : PE X o ta) (ha : PA X (e :: es) t)
    (hst : starEach (e :: es) X.env = (false, eval e X.env) :: starEach es X.env := by rfl) (hpl : (backTo pos (starEach es X.env)).any (·.1) = false := by rfl)
    (ht : eval (.Call (.Attribute o m apos) (e :: es) [] pos) X.env = (do
      let ov ← eval o X.env
      standAt apos.atName
      let (f, first) ← holding [ov] (getMethod ov m pl)
      callWith pos f first (backTo pos (starEach (e :: es) X.env)) (backToKw pos (keywordEach [] X.env))) := by rfl) :
    PE X (.Call (.Attribute o m apos) (e :: es) [] pos) (tMth C m sp ta t) := by
  obtain ⟨f, fd, h1, h2, h3⟩ := c.ex
  exact pe_meth ho cl h1 h3 hr h2 .nil pass0 ha hst hpl ht
theorem pe_mcal0 {X : Cx} {C : Addr} {k : Nat} {m : Str} {ps : List Str} {sp : Sp} {o : Expr} {ta : TE} {apos pos : Pos} {pl : Sem Bool} (c : CalM X.prog X.w X.K X.mg X.base C k m ps sp) (cl : Cls X.K C) (hr : Room k X.A) (ho : PE X o ta)
    (ht : eval (.Call (.Attribute o m apos) [] [] pos) X.env = (do
      let ov ← eval o X.env
      standAt apos.atName
      let (f, first) ← holding [ov] (getMethod ov m pl)
      callWith pos f first (backTo pos (starEach [] X.env)) (backToKw pos (keywordEach [] X.env))) := by rfl) :
    PE X (.Call (.Attribute o m apos) [] [] pos) (tMth C m sp ta tNil) := by
  obtain ⟨f, fd, h1, h2, h3⟩ := c.ex
  exact pe_meth0 ho cl h1 h3 hr h2 .nil pass0 ht
theorem CuS.mth {C : Addr} {H : Hp} {x : V} {e0 : TC.Env} {Th : Thr} {ws : List Nat} {nu : Addr} {Pr cl la fi sh od : V} {m : Str} {R : Prop} (c : CuS C H x e0 Th ws nu Pr cl la fi sh od) (r : R) (hm : (fl Pr cl (.ref nu) la fi sh od).lookup m = none := by rfl) : rIns C m x H R := by
  obtain ⟨p, dx, e, h⟩ := c.ins
  exact ⟨p, dx, _, e, h, hm, r⟩
/-! ### dicts whose keys are cuts -/
def ckey (c : List Nat) : List Key := c.map fun n : Nat => Sum.inl ((n : Nat) : Int)
theorem ckey_inj {c d : List Nat} (h : ckey c = ckey d) : c = d := by
  induction c generalizing d with
  | nil => cases d with
    | nil => rfl
    | cons y d => simp [ckey] at h
  | cons x c ih =>
    cases d with
    | nil => simp [ckey] at h
    | cons y d =>
      simp only [ckey, List.map_cons, List.cons.injEq, Sum.inl.injEq] at h
      have h1 : x = y := Int.ofNat.inj h.1
      have h2 := ih (d := d) h.2
      rw [h1, h2]
theorem ckey_tup (c : List Nat) : (ckey c).map kV = nI c := by unfold ckey nI; rw [List.map_map]; rfl
/-- the dict shown -/
def ShOk (H : Hp) (kvs : List (List Key × V)) (sh : Shown) : Prop := A2 (fun (kv : List Key × V) (ce : List Nat × TC.Env) => kv.1 = ckey ce.1 ∧ EnvD H kv.2 ce.2) kvs sh
theorem ShOk.kp {H H' : Hp} {kvs : List (List Key × V)} {sh : Shown} (h : ShOk H kvs sh) (e : Kp H H') : ShOk H' kvs sh := h.imp fun _ _ z => ⟨z.1, z.2.kp e⟩
theorem ShOk.val {H : Hp} {kvs : List (List Key × V)} {sh : Shown} (h : ShOk H kvs sh) (c : List Nat) : (c ∉ keysM sh → valV kvs (ckey c) = none) ∧ (c ∈ keysM sh → ∃ v, valV kvs (ckey c) = some v ∧ EnvD H v (envOf sh c)) := by
  induction sh generalizing kvs with
  | nil =>
    have : kvs = [] := A2.nil_right h
    subst this
    exact ⟨fun _ => rfl, fun z => by simp [keysM] at z⟩
  | cons ce sh ih =>
    cases kvs with
    | nil => have := h.1; simp at this
    | cons kv kvs =>
      obtain ⟨⟨h1, h2⟩, ht⟩ := A2.cons h
      obtain ⟨i1, i2⟩ := ih ht
      obtain ⟨c', e⟩ := ce
      by_cases q : c = c'
      · subst q
        refine ⟨fun z => absurd (List.mem_cons_self ..) z, fun _ => ⟨kv.2, valV_pos h1, ?_⟩⟩
        unfold TC.envOf
        rw [List.lookup_cons]
        simpa using h2
      · have ne : ¬ kv.1 = ckey c := fun z => q (ckey_inj (z.symm.trans h1))
        have hb : (c == c') = false := by simpa using q
        have hm : c ∈ keysM ((c', e) :: sh) ↔ c ∈ keysM sh := by
          unfold keysM
          rw [List.map_cons, List.mem_cons]
          exact ⟨fun z => z.elim (fun z => absurd z q) id, .inr⟩
        rw [valV_neg ne, hm]
        refine ⟨i1, fun z => ?_⟩
        obtain ⟨v, j1, j2⟩ := i2 z
        refine ⟨v, j1, ?_⟩
        unfold TC.envOf
        rw [List.lookup_cons, hb]
        exact j2
theorem putK_new {κ : Type} [DecidableEq κ] {kvs : List (κ × V)} {k : κ} {v : V} (h : valV kvs k = none) : putK kvs k v = kvs ++ [(k, v)] := by
  unfold putK
  rw [valV_any, h]
  rfl
theorem ShOk.put {H : Hp} {kvs : List (List Key × V)} {sh : Shown} (h : ShOk H kvs sh) {c : List Nat} {v : V} {e : TC.Env} (hc : c ∉ keysM sh) (hv : EnvD H v e) : ShOk H (putK kvs (ckey c) v) (sh ++ [(c, e)]) := by
  rw [putK_new ((h.val c).1 hc)]
  exact A2.snoc h ⟨rfl, hv⟩
/-- the whole of an object of cuts -/
structure CuF (C : Addr) (H : Hp) (x : V) (e0 : TC.Env) (Th : Thr) (ws : List Nat) : Prop where
  ex : ∃ nu P cl la fi s1 o1 kvs os, CuS C H x e0 Th ws nu P cl la fi (.ref s1) (.ref o1) ∧ H s1 = some (.dT kvs) ∧ ShOk H kvs (foundM Th e0 Th.length ws) ∧ H o1 = some (.lst os) ∧ A2 (Tn H) os (keysM (foundM Th e0 Th.length ws))
theorem CuF.ext {C : Addr} {H H' : Hp} {x : V} {e0 : TC.Env} {Th : Thr} {ws : List Nat} (h : CuF C H x e0 Th ws) (e : Ext H H') : CuF C H' x e0 Th ws := by
  obtain ⟨nu, P, cl, la, fi, s1, o1, kvs, os, h1, h2, h3, h4, h5⟩ := h.ex
  exact ⟨nu, P, cl, la, fi, s1, o1, kvs, os, h1.ext e, e.1 _ _ h2 (by simp), h3.kp e.kp, e.1 _ _ h4 (by simp), h5.imp fun _ _ z => Tu.ext z e⟩
theorem found_dom {Th : Thr} {e0 : TC.Env} {ws : List Nat} (h : okw Th e0 (zeroL Th.length) ws = true) {c : List Nat} (hc : c ∈ keysM (foundM Th e0 Th.length ws)) : dom (envOf (foundM Th e0 Th.length ws) c) = dom e0 ∧ c.length = Th.length := by
  have F := found_ok (runOk_of rfl h)
  obtain ⟨e, h1, h2⟩ := lookup_mem hc
  obtain ⟨x, v, h3, h4⟩ := F.at' _ h2
  unfold TC.envOf
  rw [h1]
  show dom e = dom e0 ∧ _
  have h4 : e = envAt Th e0 Th.length x := h4
  rw [h4]
  exact ⟨dom_play _ _ _, h3.len⟩
section
variable {P : Program} {w : World} {K : PySem.W.Frag} {mg : Str → Option Value} {base : Heap}
abbrev sMeets : Stmt := inClass (tx 18) 3
def spMeets (C : Addr) : Sp := fun vs H Q _ => ∃ x y z e0 Th ws cut c v, vs = [x, y, z] ∧ CuF C H x e0 Th ws ∧ Tn H y cut ∧ cut ∈ keysM (foundM Th e0 Th.length ws) ∧ Tu H z [.str (nm c), .int v] ∧ c ∈ dom e0 ∧ Q (.bl (meetsM Th e0 Th.length ws c v cut)) H
theorem scMeets : FnScope ["self", "cut", "condition"] ["self", "cut", "condition"] (defScope sMeets) := ⟨rfl, rfl, rfl, by decide +kernel, rfl, by decide +kernel, by decide +kernel⟩
theorem ok_meets {f C : Addr} {fd : FuncData} (F : Fun K "meets" "Cuts.meets" sMeets f fd) (ck : CK K C) : FnOk P w K mg base CX0 1 f fd ["self", "cut", "condition"] (spMeets C) := by
  refine F.ok scMeets (fun vs H Q E h => ?_) (fun cdv A outer s H vs Q E hr h => ?_)
  · obtain ⟨x, y, z, e0, Th, ws, cut, c, v, rfl, _⟩ := h
    rfl
  · obtain ⟨x, y, z, e0, Th, ws, cut, c, v, rfl, cf, hy, hm, hz, hc, q⟩ := h
    refine ⟨_, pss_one (ps_ret (pe_cmpR op_ge (pe_dgetR (hu_of hr) (pe_dgetR (hu_of hr) (pe_fldR (pv 0)) (pv 1)) (pe_ix ix_tup (pv 2) pe_int (fun _ _ => rfl))) (pe_ix ix_tup (pv 2) pe_int (fun _ _ => rfl)) (nomark _))), ?_⟩
    simp only [tVar, tC, tOp, tUn, tTest, tChain, tNil, tCons, tTup, tLst, tCall, tMake, tCB, tIf, tAndV, tOrV, tNotV, tIsN, tNotN, tB, tAnd, tOr, tNot, tNext, tSeq, tDrop, tRet, tRetN, tIfS, tNever, gName, gNil, gCons, gSub, tAsg, tAug, tAugS, ipI, tBM, tBM0, tSl, tNoPart, tPart, tDGet, tDIn, tDNotIn, tDGet1, sDPut, tMth, tDNewT, tDNewK, tYes, rI0, rI, rU, rAdd, rSub, rEq, rNe, L2.start, List.map_cons, List.map_nil, List.length_cons, List.length_nil, List.replicate, List.append_nil, List.nil_append, List.cons_append, List.getElem?_cons_zero, List.getElem?_cons_succ, List.set_cons_zero, List.set_cons_succ, Option.some.injEq, V.int.injEq, V.bl.injEq, V.ref.injEq, V.str.injEq, exists_eq_left', exists_eq_left, exists_and_left, true_and, and_true, Nat.reduceAdd, Nat.reduceSub, Nat.add_one_sub_one, Nat.sub_self, Bool.true_eq_false, Bool.false_eq_true, if_true, if_false, ite_true, ite_false, cxOf, Cx.nox, decide_eq_true_eq, reduceCtorEq, decide_false, decide_true, Bool.not_false, Bool.not_true, eq_self, upd_same, L2.upd_upd, List.cons.injEq, and_assoc]
    obtain ⟨nu, Pr, cl, la, fi, s1, o1, kvs, os, cu, hs, hS, ho, hO⟩ := cf.ex
    obtain ⟨vv, hv1, hv2⟩ := (hS.val cut).2 hm
    obtain ⟨ya, rfl, hya⟩ := hy
    have hd := found_dom cu.ok hm
    refine cu.f_shown ck ⟨s1, vv, rfl, ?_, tu_ix 0 hz rfl (dg_env hv2 (by rw [hd.1]; exact hc) (tu_ix 1 hz rfl ⟨_, rfl, _, rfl, q⟩))⟩
    have := DGet.t (k := ckey cut) hs (by rw [ckey_tup]; exact hya)
    rw [hv1] at this
    exact this
end
end TW

set_option maxHeartbeats 8000000
/-! TwM: find. -/
namespace TW
open PySem PySem.Spec PyProof.Rows L2
open TC hiding Step Env
theorem while_m {c : TT} {tb : TS} {D : Ends} {σ : L2.St} {H : Hp} (Pv : Nat → L2.St → Hp → Prop) (m0 : Nat) (h0 : Pv m0 σ H)
    (hs : ∀ m σ' H', Pv m σ' H' → c σ' H' fun b H1 => if b = true then ∃ N : L2.St → Hp → Prop, (∀ σ2 H2, N σ2 H2 → ∃ m', m' < m ∧ Pv m' σ2 H2) ∧ tb { D with nx := N, ct := N, bk := D.nx } σ' H1 else D.nx σ' H1) : tWhile c tb D σ H := ⟨Pv, ⟨m0, h0⟩, hs⟩
theorem for_lstC {K : PySem.W.Frag} {te : TE} {g : TG} {tb : TS} {D : Ends} {σ : L2.St} {H : Hp} (C : Addr → List V → Hp → Prop) (hte : ∀ R : VK, (∀ a xs H1, C a xs H1 → R (V.ref a) H1) → te σ H R)
    (hb : ∀ a xs H1, C a xs H1 → H1 a = some (.lst xs) ∧ ∃ Pv : Nat → L2.St → Hp → Prop, Pv 0 σ H1 ∧ (∀ i σ' H', Pv i σ' H' → H' a = some (.lst xs)) ∧
      (∀ (i : Nat) (x : V) (σ' : L2.St) (H' : Hp), xs[i]? = some x → Pv i σ' H' → g x σ' H' fun σ2 H2 => tb { D with nx := Pv (i + 1), ct := Pv (i + 1), bk := D.nx } σ2 H2) ∧ (∀ σ' H', Pv xs.length σ' H' → D.nx σ' H')) : tFor (iList K te) g tb D σ H := by
  unfold tFor iList
  refine hte _ fun a xs H1 hC => ?_
  obtain ⟨h, Pv, h0, hG, hs, hd⟩ := hb a xs H1 hC
  refine ⟨a, rfl, ⟨xs, SqL.of h⟩, ?_⟩
  refine for_it walk_list Pv h0 (fun i σ' H' _ p => SqL.of (hG i σ' H' p)) (fun i x σ' H' H'' hi p y => ?_) hd
  obtain ⟨e1, e2⟩ := y
  subst e1
  exact hs i x σ' _ e2 p
theorem Kp.del {H : Hp} {p : Addr} {u : HO} (h : H p = some u) (hi : ¬ Im u) (ht : ∀ ps, u ≠ .tbl ps) : Kp H (del p H) := by
  refine ⟨fun b o hb i => ?_, fun b ps hb => ?_⟩
  · have : b ≠ p := fun e => by rw [e, h] at hb; cases hb; exact hi i
    rw [del_ne this]; exact hb
  · have : b ≠ p := fun e => by rw [e, h] at hb; cases hb; exact ht _ rfl
    exact ⟨ps, by rw [del_ne this]; exact hb, id⟩
theorem pow_bound {n r : Nat} (h1 : n ≤ 3) (h2 : r ≤ 6) : (n + 1) ^ r ≤ 4096 := by
  have a : (n + 1) ^ r ≤ 4 ^ r := Nat.pow_le_pow_left (by omega) r
  have b : 4 ^ r ≤ 4 ^ 6 := Nat.pow_le_pow_right (by omega) h2
  exact Nat.le_trans a b
theorem mea_len {P : Thr} {n : Nat} : ∀ (l : Shown), l.length ≤ mea P n l
  | [] => Nat.zero_le _
  | a :: l => by
    have ih := mea_len (P := P) (n := n) l
    have h := mea_pos (P := P) (n := n) (l := [a]) (ce := a) (List.mem_cons_self ..)
    have e := mea_append P n [a] l
    rw [List.length_cons]
    have e' : mea P n (a :: l) = mea P n [a] + mea P n l := e
    omega
/-- the loop of find -/
def FInv (x : V) (e0 : TC.Env) (Th : Thr) (ws : List Nat) (s1 o1 : Addr) (Hb : Hp) (m : Nat) (σ' : L2.St) (H' : Hp) : Prop :=
  ∃ pl sh c3 th mo kvs os, σ' = [some x, some (.int (pl : Nat)), c3, th, mo] ∧ FOk Th e0 Th.length ws pl sh ∧ mea Th Th.length (sh.drop pl) ≤ m ∧ pl + mea Th Th.length (sh.drop pl) ≤ 4096 ∧ findM Th (laterM Th Th.length ws) m pl sh = foundM Th e0 Th.length ws ∧
    Ext Hb H' ∧ H' s1 = some (.dT kvs) ∧ ShOk H' kvs sh ∧ H' o1 = some (.lst os) ∧ A2 (Tn H') os (keysM sh)
/-- the inner loop: sh is what is shown so far -/
def FInn (x v : V) (Th : Thr) (pl : Nat) (s1 o1 : Addr) (Hb : Hp) (sh : Shown) (σ' : L2.St) (H' : Hp) : Prop :=
  ∃ th mo kvs os, σ' = [some x, some (.int (pl : Nat)), some v, th, mo] ∧ Ext Hb H' ∧ H' s1 = some (.dT kvs) ∧ ShOk H' kvs sh ∧ H' o1 = some (.lst os) ∧ A2 (Tn H') os (keysM sh)
theorem ap_listL {H : Hp} {l : Addr} {xs : List V} {y : V} {Q : VK} (h : H l = some (.lst xs)) (hz : xs.length ≤ 10000) (q : Q .non (upd H l (.lst (xs ++ [y])))) : rAppend (.ref l) [y] H Q := ⟨l, xs, y, rfl, rfl, h, Nat.lt_of_le_of_lt hz (by rw [sizeLine_eq]; omega), q⟩
theorem env_mem : ∀ {sh : Shown} {c : List Nat} {e : TC.Env}, (keysM sh).Nodup → (c, e) ∈ sh → TC.envOf sh c = e
  | [], _, _, _, h => by simp at h
  | (c', e') :: sh, c, e, hn, h => by
    unfold TC.envOf
    rw [List.lookup_cons]
    have hn : (c' :: keysM sh).Nodup := hn
    rw [List.nodup_cons] at hn
    rcases List.mem_cons.mp h with z | z
    · cases z; simp
    · have : c ≠ c' := fun q => hn.1 (by rw [← q]; exact List.mem_map.mpr ⟨_, z, rfl⟩)
      have hb : (c == c') = false := by simpa using this
      rw [hb]
      exact env_mem hn.2 z
section
variable {P : Program} {w : World} {K : PySem.W.Frag} {mg : Str → Option Value} {base : Heap}
abbrev CLater (P : Program) (w : World) (K : PySem.W.Frag) (mg : Str → Option Value) (base : Heap) (C Pa : Addr) : Prop := CalM P w K mg base C 2 "later" ["self", "cut"] (spLater C Pa)
abbrev sFind : Stmt := inClass (tx 18) 2
abbrev nFind : List Str := ["self", "place", "cut", "thread", "more"]
def spFind (C Pa : Addr) : Sp := fun vs H Q _ => ∃ x e0 Th ws nu Pr cl la fi s1 o1 kvs os, vs = [x] ∧ CuS C H x e0 Th ws nu Pr cl la fi (.ref s1) (.ref o1) ∧ nu ≠ s1 ∧ H s1 = some (.dT kvs) ∧ ShOk H kvs [(zeroL Th.length, e0)] ∧ H o1 = some (.lst os) ∧ A2 (Tn H) os [zeroL Th.length] ∧ GxR.TabG H Pa ∧
  ∀ H' kvs' os', Ext (del s1 (del o1 H)) H' → H' s1 = some (.dT kvs') → ShOk H' kvs' (foundM Th e0 Th.length ws) → H' o1 = some (.lst os') → A2 (Tn H') os' (keysM (foundM Th e0 Th.length ws)) → Q .non H'
theorem scFind : FnScope nFind ["self"] (defScope sFind) := ⟨rfl, rfl, rfl, by decide +kernel, rfl, by decide +kernel, by decide +kernel⟩
theorem ok_find {f C Pa : Addr} {fd : FuncData} (F : Fun K "find" "Cuts.find" sFind f fd) (B : Bt mg) (ck : CK K C) (c1 : CLater P w K mg base C Pa) (c2 : CVals P w K mg base) (c3 : CNext P w K mg base) : FnOk P w K mg base CX0 3 f fd ["self"] (spFind C Pa) := by
  refine F.ok scFind (fun vs H Q E h => ?_) (fun cdv A outer s H vs Q E hr h => ?_)
  · obtain ⟨x, e0, Th, ws, nu, Pr, cl, la, fi, s1, o1, kvs, os, rfl, _⟩ := h
    rfl
  · obtain ⟨x, e0, Th, ws, nu, Pr, cl, la, fi, s1, o1, kvs, os, rfl, cu, hns, hs, hS, ho, hO, tab, q⟩ := h
    have hr1 : Room 1 _ := hr.mono (by decide)
    refine ⟨_, pss_cons (ps_set (i := 1) scFind.nd rfl (Or.inl rfl) pe_int)
      (pss_one (ps_while PassesOwn.never (pt_cmpR op_lt (pv 1) (pe_callB call_len (by rfl) B.len PySem.boot_len (pa_cons (pe_fldR (pv 0)) pa_nil)) (nomark _))
        (pss_cons (ps_set (i := 2) scFind.nd rfl (Or.inl rfl) (pe_ix ix_list (pe_fldR (pv 0)) (pv 1) (fun _ _ => rfl)))
        (pss_cons (ps_for PassesOwn.never rfl (pi_list (pe_mcal c1 ck.cl hr (pv 0) (pa_cons (pv 2) pa_nil))) (pg_tup rfl (pgs_cons (pg_name (i := 3) scFind.nd rfl (.inl rfl)) (pgs_cons (pg_name (i := 4) scFind.nd rfl (.inl rfl)) pgs_nil)))
          (pss_one (ps_if (pt_cmp (pc_dnotin (hu_of hr) (pv 4) (pe_fldR (pv 0))))
            (pss_cons (ps_dput (hu_of hr) (pe_fldR (pv 0)) (pv 4) (pe_cal c2 hr1 rfl (pa_cons (pe_dgetR (hu_of hr) (pe_fldR (pv 0)) (pv 2)) (pa_cons (pe_cal c3 hr1 rfl (pa_cons (pe_fldR (pv 0)) (pa_cons (pv 2) (pa_cons (pv 3) pa_nil)))) pa_nil))) rfl)
            (pss_one (ps_expr (pe_bm PySem.F.plainAttrs_list PySem.F.slot_list_append PySem.F.type_list_append mt_append (pe_fldR (pv 0)) (pa_cons (pv 4) pa_nil))))) pss_nil)))
        (pss_one (ps_aug (i := 1) scFind.nd rfl (Or.inl rfl) pe_int ip_add)))))), ?_⟩
    simp only [tVar, tC, tOp, tUn, tTest, tChain, tNil, tCons, tTup, tLst, tCall, tMake, tCB, tIf, tAndV, tOrV, tNotV, tIsN, tNotN, tB, tAnd, tOr, tNot, tNext, tSeq, tDrop, tRet, tRetN, tIfS, tNever, gName, gNil, gCons, gSub, tAsg, tAug, tAugS, ipI, tBM, tBM0, tSl, tNoPart, tPart, tDGet, tDIn, tDNotIn, tDGet1, sDPut, tMth, tDNewT, tDNewK, tYes, rI0, rI, rU, rAdd, rSub, rEq, rNe, L2.start, List.map_cons, List.map_nil, List.length_cons, List.length_nil, List.replicate, List.append_nil, List.nil_append, List.cons_append, List.getElem?_cons_zero, List.getElem?_cons_succ, List.set_cons_zero, List.set_cons_succ, Option.some.injEq, V.int.injEq, V.bl.injEq, V.ref.injEq, V.str.injEq, exists_eq_left', exists_eq_left, exists_and_left, true_and, and_true, Nat.reduceAdd, Nat.reduceSub, Nat.add_one_sub_one, Nat.sub_self, Bool.true_eq_false, Bool.false_eq_true, if_true, if_false, ite_true, ite_false, cxOf, Cx.nox, decide_eq_true_eq, reduceCtorEq, decide_false, decide_true, Bool.not_false, Bool.not_true, eq_self, upd_same, L2.upd_upd, List.cons.injEq, and_assoc]
    have R := runOk_of (n := Th.length) rfl cu.ok
    have hpw := cu.prog
    have n3 := hpw.n3
    have hso : s1 ≠ o1 := ne_of hs ho (by simp)
    obtain ⟨hb1, hb2⟩ : del s1 (del o1 H) s1 = none ∧ del s1 (del o1 H) o1 = none := ⟨del_same, by rw [del_ne hso.symm, del_same]⟩
    have hM0 : (Th.length + 1) ^ remL Th (zeroL Th.length) ≤ 4096 := pow_bound n3 (Nat.le_trans (remL_le hpw.l2) (by omega))
    have kb : Kp H (del s1 (del o1 H)) := (Kp.del ho (fun z => z) (fun ps z => by cases z)).trans (Kp.del (u := .dT kvs) (by rw [del_ne hso]; exact hs) (fun z => z) (fun ps z => by cases z))
    have cuB : CuS C (del s1 (del o1 H)) x e0 Th ws nu Pr cl la fi (.ref s1) (.ref o1) := by
      obtain ⟨⟨p, dx, e1, e2⟩, k3, k4, k5, k6, k7, k8⟩ := cu
      refine ⟨⟨p, dx, e1, ?_⟩, k3.kp kb, k4.kp kb, ?_, Tu.kp k6 kb, Tu.kp k7 kb, k8⟩
      · rw [del_ne (ne_of e2 hs (by simp)), del_ne (ne_of e2 ho (by simp))]; exact e2
      · rw [del_ne hns, del_ne (ne_of k5 ho (by simp))]; exact k5
    have exB : Ext (del s1 (del o1 H)) H := Ext.del.trans Ext.del
    have tabB : GxR.TabG (del s1 (del o1 H)) Pa := kb.2.tab tab
    generalize del s1 (del o1 H) = Hb at *
    refine while_m (FInv x e0 Th ws s1 o1 Hb) ((Th.length + 1) ^ remL Th (zeroL Th.length))
      ⟨0, [(zeroL Th.length, e0)], none, none, none, kvs, os, rfl, FOk.start Th e0 Th.length ws, by show mea Th Th.length [(zeroL Th.length, e0)] ≤ _; unfold mea; simp, by show 0 + mea Th Th.length [(zeroL Th.length, e0)] ≤ _; unfold mea; simp; exact hM0, rfl, exB, hs, hS, ho, hO⟩ ?_
    rintro m σ' H' ⟨pl, sh, c3, th, mo, kvs, os, rfl, hF, hme, hme2, hfd, eH, hs, hS, ho, hO⟩
    have hlen : os.length = sh.length := by rw [hO.1]; exact List.length_map ..
    simp only [tVar, tC, tOp, tUn, tTest, tChain, tNil, tCons, tTup, tLst, tCall, tMake, tCB, tIf, tAndV, tOrV, tNotV, tIsN, tNotN, tB, tAnd, tOr, tNot, tNext, tSeq, tDrop, tRet, tRetN, tIfS, tNever, gName, gNil, gCons, gSub, tAsg, tAug, tAugS, ipI, tBM, tBM0, tSl, tNoPart, tPart, tDGet, tDIn, tDNotIn, tDGet1, sDPut, tMth, tDNewT, tDNewK, tYes, rI0, rI, rU, rAdd, rSub, rEq, rNe, L2.start, List.map_cons, List.map_nil, List.length_cons, List.length_nil, List.replicate, List.append_nil, List.nil_append, List.cons_append, List.getElem?_cons_zero, List.getElem?_cons_succ, List.set_cons_zero, List.set_cons_succ, Option.some.injEq, V.int.injEq, V.bl.injEq, V.ref.injEq, V.str.injEq, exists_eq_left', exists_eq_left, exists_and_left, true_and, and_true, Nat.reduceAdd, Nat.reduceSub, Nat.add_one_sub_one, Nat.sub_self, Bool.true_eq_false, Bool.false_eq_true, if_true, if_false, ite_true, ite_false, cxOf, Cx.nox, decide_eq_true_eq, reduceCtorEq, decide_false, decide_true, Bool.not_false, Bool.not_true, eq_self, upd_same, L2.upd_upd, List.cons.injEq, and_assoc]
    refine (cuB.ext eH).f_order ck (ls_len ho ⟨_, rfl, ?_⟩)
    by_cases hlt : pl < sh.length
    · rw [if_pos (show (pl : Int) < ((os.length : Nat) : Int) by omega)]
      obtain ⟨ce, hce⟩ := eq_at hlt
      have hkey : (keysM sh)[pl]? = some ce.1 := by unfold keysM; rw [List.getElem?_map, hce]; rfl
      obtain ⟨v, hv, hvT⟩ := hO.at hkey
      obtain ⟨hF', hm'⟩ := hF.step R hce
      obtain ⟨xx, vv, hAt, henv⟩ := hF.at' ce (List.mem_of_getElem? hce)
      have hcl : ce.1.length = Th.length := hAt.len
      have hslen : sh.length ≤ 4096 := by
        have h1 : (sh.drop pl).length ≤ mea Th Th.length (sh.drop pl) := mea_len _
        rw [List.length_drop] at h1
        omega
      have hm1 : 1 ≤ m := Nat.le_trans (mea_pos (P := Th) (n := Th.length) (l := sh.drop pl) (ce := ce) (List.mem_of_getElem? (i := 0) (by rw [List.getElem?_drop]; exact hce))) hme
      refine ⟨FInv x e0 Th ws s1 o1 Hb (m - 1), fun σ2 H2 p => ⟨m - 1, by omega, p⟩, ?_⟩
      refine (cuB.ext eH).f_order ck (ls_ix pl ho hv ?_)
      refine for_lstC (fun a xs H1 => Ext H' H1 ∧ H' a = none ∧ H1 a = some (.lst xs) ∧ A2 (LaRow H1) xs (laterM Th Th.length ws ce.1)) (fun R h => ?_) ?_
      · simp only [tVar, tC, tOp, tUn, tTest, tChain, tNil, tCons, tTup, tLst, tCall, tMake, tCB, tIf, tAndV, tOrV, tNotV, tIsN, tNotN, tB, tAnd, tOr, tNot, tNext, tSeq, tDrop, tRet, tRetN, tIfS, tNever, gName, gNil, gCons, gSub, tAsg, tAug, tAugS, ipI, tBM, tBM0, tSl, tNoPart, tPart, tDGet, tDIn, tDNotIn, tDGet1, sDPut, tMth, tDNewT, tDNewK, tYes, rI0, rI, rU, rAdd, rSub, rEq, rNe, L2.start, List.map_cons, List.map_nil, List.length_cons, List.length_nil, List.replicate, List.append_nil, List.nil_append, List.cons_append, List.getElem?_cons_zero, List.getElem?_cons_succ, List.set_cons_zero, List.set_cons_succ, Option.some.injEq, V.int.injEq, V.bl.injEq, V.ref.injEq, V.str.injEq, exists_eq_left', exists_eq_left, exists_and_left, true_and, and_true, Nat.reduceAdd, Nat.reduceSub, Nat.add_one_sub_one, Nat.sub_self, Bool.true_eq_false, Bool.false_eq_true, if_true, if_false, ite_true, ite_false, cxOf, Cx.nox, decide_eq_true_eq, reduceCtorEq, decide_false, decide_true, Bool.not_false, Bool.not_true, eq_self, upd_same, L2.upd_upd, List.cons.injEq, and_assoc]
        exact (cuB.ext eH).mth ⟨x, v, e0, Th, ws, nu, Pr, cl, la, fi, .ref s1, .ref o1, ce.1, rfl, cuB.ext eH, hvT, hcl, eH.2.tab tabB, fun H1 a its e na ha hA => h a its H1 ⟨e, na, ha, hA⟩⟩
      · rintro a xs H1 ⟨e1, na, ha, hA⟩
        have as1 : a ≠ s1 := fun z => by rw [z, hs] at na; cases na
        have ao1 : a ≠ o1 := fun z => by rw [z, ho] at na; cases na
        have hs1 : H1 s1 = some (.dT kvs) := e1.1 _ _ hs (by simp)
        have ho1 : H1 o1 = some (.lst os) := e1.1 _ _ ho (by simp)
        have e2 : Ext Hb (del s1 (del o1 H1)) := ((eH.trans e1).todel hb2).todel hb1
        have e3 : Ext (del s1 (del o1 H1)) H1 := Ext.del.trans Ext.del
        have k2 : Kp H1 (del s1 (del o1 H1)) := (Kp.del ho1 (fun z => z) (fun ps z => by cases z)).trans (Kp.del (u := .dT kvs) (by rw [del_ne hso]; exact hs1) (fun z => z) (fun ps z => by cases z))
        have ha2 : (del s1 (del o1 H1)) a = some (.lst xs) := by rw [del_ne as1, del_ne ao1]; exact ha
        obtain ⟨hc1, hc2⟩ : del s1 (del o1 H1) s1 = none ∧ del s1 (del o1 H1) o1 = none := ⟨del_same, by rw [del_ne hso.symm, del_same]⟩
        have hA2 : A2 (LaRow (del s1 (del o1 H1))) xs (laterM Th Th.length ws ce.1) := hA.imp fun _ _ z => z.kp k2
        generalize del s1 (del o1 H1) = Hc at *
        refine ⟨ha, fun j => FInn x v Th pl s1 o1 Hc (((laterM Th Th.length ws ce.1).take j).foldl (addM Th ce.1 ce.2) sh), ⟨th, mo, kvs, os, rfl, e3, hs1, hS.kp e1.kp, ho1, hO.imp fun _ _ z => Tu.ext z e1⟩, fun i σ' H'' ⟨_, _, _, _, _, e, _⟩ => e.1 _ _ ha2 (by simp), ?_, ?_⟩
        · rintro j it σ' H2 hj ⟨th2, mo2, kvs2, os2, rfl, e4, hs2, hS2, ho2, hO2⟩
          obtain ⟨r, hr1, mv, hr2, hr3⟩ := hA2.2 j it hj
          obtain ⟨t, mc⟩ := r
          have htk : (laterM Th Th.length ws ce.1).take (j + 1) = (laterM Th Th.length ws ce.1).take j ++ [(t, mc)] := by rw [List.take_add_one, hr1]; rfl
          obtain ⟨new, n1, n2, n3', n4, n5⟩ := add_fold (P := Th) (cut := ce.1) (e := ce.2) ((laterM Th Th.length ws ce.1).take j) sh
          refine tu_tgt (hr2.ext e4) ?_
          simp only [tVar, tC, tOp, tUn, tTest, tChain, tNil, tCons, tTup, tLst, tCall, tMake, tCB, tIf, tAndV, tOrV, tNotV, tIsN, tNotN, tB, tAnd, tOr, tNot, tNext, tSeq, tDrop, tRet, tRetN, tIfS, tNever, gName, gNil, gCons, gSub, tAsg, tAug, tAugS, ipI, tBM, tBM0, tSl, tNoPart, tPart, tDGet, tDIn, tDNotIn, tDGet1, sDPut, tMth, tDNewT, tDNewK, tYes, rI0, rI, rU, rAdd, rSub, rEq, rNe, L2.start, List.map_cons, List.map_nil, List.length_cons, List.length_nil, List.replicate, List.append_nil, List.nil_append, List.cons_append, List.getElem?_cons_zero, List.getElem?_cons_succ, List.set_cons_zero, List.set_cons_succ, Option.some.injEq, V.int.injEq, V.bl.injEq, V.ref.injEq, V.str.injEq, exists_eq_left', exists_eq_left, exists_and_left, true_and, and_true, Nat.reduceAdd, Nat.reduceSub, Nat.add_one_sub_one, Nat.sub_self, Bool.true_eq_false, Bool.false_eq_true, if_true, if_false, ite_true, ite_false, cxOf, Cx.nox, decide_eq_true_eq, reduceCtorEq, decide_false, decide_true, Bool.not_false, Bool.not_true, eq_self, upd_same, L2.upd_upd, List.cons.injEq, and_assoc]
          rw [htk, List.foldl_append, List.foldl_cons, List.foldl_nil]
          rw [n1] at hS2 hO2 ⊢
          obtain ⟨ma, rfl, hma⟩ := hr3
          have hma2 : H2 ma = some (.tup (nI mc)) := e4.1 _ _ hma (by simp)
          have hr4 := List.mem_of_getElem? hr1
          obtain ⟨t', ht', etm⟩ := List.mem_map.mp hr4
          obtain ⟨ht1, ht2⟩ := List.mem_filter.mp ht'
          have ett : t' = t := congrArg Prod.fst etm
          have emc : inc ce.1 t' = mc := congrArg Prod.snd etm
          subst ett
          have htn : t' < Th.length := List.mem_range.mp ht1
          have c2e := (cuB.ext e2).ext e4
          have hget : ∀ {Hx : Hp} {kv : List (List Key × V)}, Hx s1 = some (.dT kv) → Hx ma = some (.tup (nI mc)) → DGet Hx s1 (.ref ma) (valV kv (ckey mc)) := fun {Hx kv} h1 h2 => DGet.t h1 (by rw [ckey_tup]; exact h2)
          refine c2e.f_shown ck ⟨s1, rfl, _, hget hs2 hma2, ?_⟩
          show if (!(valV kvs2 (ckey mc)).isSome) = true then _ else FInn x v Th pl s1 o1 Hc (addM Th ce.1 ce.2 (sh ++ new) (t', mc)) _ _
          by_cases hmem : mc ∈ keysM (sh ++ new)
          · obtain ⟨vv2, hv2, _⟩ := (hS2.val mc).2 hmem
            rw [hv2]
            have : addM Th ce.1 ce.2 (sh ++ new) (t', mc) = sh ++ new := if_pos hmem
            rw [this]
            exact ⟨_, _, kvs2, os2, rfl, e4, hs2, hS2, ho2, hO2⟩
          · rw [(hS2.val mc).1 hmem]
            have hadd : addM Th ce.1 ce.2 (sh ++ new) (t', mc) = (sh ++ new) ++ [(mc, app ce.2 (nx Th ce.1 t'))] := if_neg hmem
            rw [hadd]
            simp only [Option.isSome_none, tVar, tC, tOp, tUn, tTest, tChain, tNil, tCons, tTup, tLst, tCall, tMake, tCB, tIf, tAndV, tOrV, tNotV, tIsN, tNotN, tB, tAnd, tOr, tNot, tNext, tSeq, tDrop, tRet, tRetN, tIfS, tNever, gName, gNil, gCons, gSub, tAsg, tAug, tAugS, ipI, tBM, tBM0, tSl, tNoPart, tPart, tDGet, tDIn, tDNotIn, tDGet1, sDPut, tMth, tDNewT, tDNewK, tYes, rI0, rI, rU, rAdd, rSub, rEq, rNe, L2.start, List.map_cons, List.map_nil, List.length_cons, List.length_nil, List.replicate, List.append_nil, List.nil_append, List.cons_append, List.getElem?_cons_zero, List.getElem?_cons_succ, List.set_cons_zero, List.set_cons_succ, Option.some.injEq, V.int.injEq, V.bl.injEq, V.ref.injEq, V.str.injEq, exists_eq_left', exists_eq_left, exists_and_left, true_and, and_true, Nat.reduceAdd, Nat.reduceSub, Nat.add_one_sub_one, Nat.sub_self, Bool.true_eq_false, Bool.false_eq_true, if_true, if_false, ite_true, ite_false, cxOf, Cx.nox, decide_eq_true_eq, reduceCtorEq, decide_false, decide_true, Bool.not_false, Bool.not_true, eq_self, upd_same, L2.upd_upd, List.cons.injEq, and_assoc]
            -- the step
            obtain ⟨s0, hs0⟩ : ∃ s0, nxt Th ce.1 t' = some s0 := by
              unfold mayM at ht2
              cases hk : (numM ws).lookup (t', ce.1.getD t' 0) with
              | none => rw [hk] at ht2; cases ht2
              | some k =>
                obtain ⟨k1, k2⟩ := num_iff.mp hk
                obtain ⟨s0, h0⟩ := R.exi k k1
                rw [k2] at h0
                exact ⟨s0, h0⟩
            have hnx : nx Th ce.1 t' = s0 := by unfold nx; rw [hs0]; rfl
            have henv2 : TC.envOf (sh ++ new) ce.1 = ce.2 := env_mem (n5 hF.nd) (List.mem_append_left _ (List.mem_of_getElem? hce))
            have hcek : ce.1 ∈ keysM (sh ++ new) := List.mem_map.mpr ⟨ce, List.mem_append_left _ (List.mem_of_getElem? hce), rfl⟩
            obtain ⟨v3, hv3, hv4⟩ := (hS2.val ce.1).2 hcek
            rw [henv2] at hv4
            have hdom : dom ce.2 = dom e0 := by rw [henv]; exact dom_play _ _ _
            obtain ⟨va, rfl, hva⟩ := id hvT
            have hva2 : H2 va = some (.tup (nI ce.1)) := e4.1 _ _ (k2.1 _ (.tup (nI ce.1)) (e1.1 _ _ hva (by simp)) trivial) (by simp)
            refine c2e.f_shown ck ⟨s1, v3, rfl, ?_, ?_⟩
            · have := DGet.t (k := ckey ce.1) hs2 (by rw [ckey_tup]; exact hva2)
              rw [hv3] at this
              exact this
            refine c2e.f_program ck ⟨Pr, .ref va, e0, Th, ce.1, t', rfl, c2e.prog.prog, ⟨va, rfl, hva2⟩, htn, by omega, fun sv hsv => ?_⟩
            rw [hs0] at hsv
            have hnm := hpw.wf.names hs0
            refine ⟨v3, sv, ce.2, s0, rfl, hv4, hsv, by rw [dom_len hdom]; exact hpw.wf.2.1, fun c hc => by rw [hdom]; exact hnm c hc, fun v5 H5 e5 hv5 => ?_⟩
            have c5 := c2e.ext e5
            have hs5 : H5 s1 = some (.dT kvs2) := e5.1 _ _ hs2 (by simp)
            have ho5 : H5 o1 = some (.lst os2) := e5.1 _ _ ho2 (by simp)
            have hma5 : H5 ma = some (.tup (nI mc)) := e5.1 _ _ hma2 (by simp)
            have hkl : kvs2.length ≤ 5000 := by
              have h1 := hS2.1
              rw [List.length_append] at h1
              have h2 : ((laterM Th Th.length ws ce.1).take j).length ≤ 3 := by
                have h3 : (laterM Th Th.length ws ce.1).length ≤ Th.length := by
                  unfold laterM
                  rw [List.length_map]
                  have := List.length_filter_le (mayM Th Th.length ws ce.1) (List.range Th.length)
                  rw [List.length_range] at this
                  exact this
                rw [List.length_take]; omega
              omega
            refine c5.f_shown ck ⟨s1, rfl, _, DPut.t (k := ckey mc) hs5 (by rw [ckey_tup]; exact hma5) (Nat.lt_of_le_of_lt hkl (by rw [sizeLine_eq]; omega)), ?_⟩
            have e6 : Ext Hc (upd H5 s1 (.dT (putK kvs2 (ckey mc) v5))) := (e4.trans e5).upd hc1
            have ho6 : upd H5 s1 (.dT (putK kvs2 (ckey mc) v5)) o1 = some (.lst os2) := by rw [upd_ne hso.symm]; exact ho5
            have k6 : Kp H5 (upd H5 s1 (.dT (putK kvs2 (ckey mc) v5))) := Kp.set hs5 (fun z => z) (fun ps z => by cases z)
            refine ((cuB.ext e2).ext e6).f_order ck ⟨ty_list ho6, ap_listL ho6 ?_ ?_⟩
            · have h1 := hO2.1
              have h2 := hS2.1
              unfold keysM at h1
              rw [List.length_map] at h1
              omega
            have k7 : Kp (upd H5 s1 (.dT (putK kvs2 (ckey mc) v5))) _ := Kp.lst (o := .lst (os2 ++ [V.ref ma])) ho6
            have kk := (e5.kp.trans k6).trans k7
            refine ⟨_, _, putK kvs2 (ckey mc) v5, os2 ++ [.ref ma], rfl, e6.upd hc2, ?_, ?_, upd_same, ?_⟩
            · rw [upd_ne hso, upd_same]
            · rw [hnx]
              exact (hS2.kp kk).put hmem (hv5.kp (k6.trans k7))
            · rw [keysM_append]
              refine A2.snoc (hO2.imp fun _ _ z => Tu.kp z kk) ?_
              have : Tn H5 (V.ref ma) mc := ⟨ma, rfl, hma5⟩
              exact this.kp (k6.trans k7)
        · rintro σ' H2 ⟨th2, mo2, kvs2, os2, rfl, e4, hs2, hS2, ho2, hO2⟩
          rw [hA.1, List.take_length] at hS2 hO2
          simp only [tVar, tC, tOp, tUn, tTest, tChain, tNil, tCons, tTup, tLst, tCall, tMake, tCB, tIf, tAndV, tOrV, tNotV, tIsN, tNotN, tB, tAnd, tOr, tNot, tNext, tSeq, tDrop, tRet, tRetN, tIfS, tNever, gName, gNil, gCons, gSub, tAsg, tAug, tAugS, ipI, tBM, tBM0, tSl, tNoPart, tPart, tDGet, tDIn, tDNotIn, tDGet1, sDPut, tMth, tDNewT, tDNewK, tYes, rI0, rI, rU, rAdd, rSub, rEq, rNe, L2.start, List.map_cons, List.map_nil, List.length_cons, List.length_nil, List.replicate, List.append_nil, List.nil_append, List.cons_append, List.getElem?_cons_zero, List.getElem?_cons_succ, List.set_cons_zero, List.set_cons_succ, Option.some.injEq, V.int.injEq, V.bl.injEq, V.ref.injEq, V.str.injEq, exists_eq_left', exists_eq_left, exists_and_left, true_and, and_true, Nat.reduceAdd, Nat.reduceSub, Nat.add_one_sub_one, Nat.sub_self, Bool.true_eq_false, Bool.false_eq_true, if_true, if_false, ite_true, ite_false, cxOf, Cx.nox, decide_eq_true_eq, reduceCtorEq, decide_false, decide_true, Bool.not_false, Bool.not_true, eq_self, upd_same, L2.upd_upd, List.cons.injEq, and_assoc]
          refine ⟨pl + 1, _, some v, th2, mo2, kvs2, os2, by simp, hF', by omega, by omega, ?_, e2.trans e4, hs2, hS2, ho2, hO2⟩
          obtain ⟨m', rfl⟩ : ∃ m', m = m' + 1 := ⟨m - 1, by omega⟩
          have : findM Th (laterM Th Th.length ws) (m' + 1) pl sh = findM Th (laterM Th Th.length ws) m' (pl + 1) ((laterM Th Th.length ws ce.1).foldl (addM Th ce.1 ce.2) sh) := by
            conv => lhs; unfold findM
            rw [hce]
          rw [Nat.add_sub_cancel, ← this]
          exact hfd
    · rw [if_neg (show ¬ (pl : Int) < ((os.length : Nat) : Int) by omega)]
      have hfs : findM Th (laterM Th Th.length ws) m pl sh = sh := by
        cases m with
        | zero => rfl
        | succ m => unfold findM; rw [List.getElem?_eq_none (by omega)]
      rw [hfs] at hfd
      rw [hfd] at hS hO
      exact q H' kvs os eH hs hS ho hO
end
end TW

set_option maxHeartbeats 8000000
/-! TwN: Cuts.__init__. -/
namespace TW
open PySem PySem.Spec PyProof.Rows L2
open TC hiding Step Env
/-- o.f = e -/
def rSt (K : PySem.W.Frag) (f : Str) (y x : V) (H : Hp) (k : Hp → Prop) : Prop := ∃ a C dx fs, x = .ref a ∧ H a = some (.ins C dx fs) ∧ Cls K C ∧ NoAttr K C f ∧ fs.length < 1000 ∧ k (upd H a (.ins C dx (putF f y fs)))
def tStF (K : PySem.W.Frag) (ta tv : TE) (f : Str) : TS := fun D σ H => tv σ H fun y H1 => ta σ H1 fun x H2 => rSt K f y x H2 fun H3 => D.nx σ H3
theorem ps_fldS {X : Cx} {o value : Expr} {f : Str} {pos pos' : Pos} {ta tv : TE} (ha : PE X o ta) (hv : PE X value tv) (hs : swapsWith value (some (.Attribute o f pos')) pos.line X.env = pure false) : PS X (.Assign [.Attribute o f pos'] value pos) (tStF X.K ta tv f) := ps_fld ha hv hs
theorem st_fld {K : PySem.W.Frag} {f : Str} {y : V} {H : Hp} {k : Hp → Prop} {p C dx : Addr} {fs : List (Str × V)} (h : H p = some (.ins C dx fs)) (cl : Cls K C) (na : NoAttr K C f) (hl : fs.length < 1000) (q : k (upd H p (.ins C dx (putF f y fs)))) : rSt K f y (.ref p) H k := ⟨p, C, dx, fs, rfl, h, cl, na, hl, q⟩
theorem at_fld {K : PySem.W.Frag} {f : Str} {H : Hp} {Q : VK} {p C dx : Addr} {fs : List (Str × V)} {v : V} (h : H p = some (.ins C dx fs)) (cl : Cls K C) (na : NoAttr K C f) (hl : fs.lookup f = some v) (q : Q v H) : rFld K f (.ref p) H Q := ⟨p, C, dx, fs, v, rfl, h, cl, na, hl, q⟩
theorem Kp.ins {H : Hp} {p C dx : Addr} {fs : List (Str × V)} {o : HO} (h : H p = some (.ins C dx fs)) : Kp H (upd H p o) := Kp.set h (fun z => z) (fun ps z => by cases z)
theorem numK_fresh {w : List Nat} {i : Nat} (hi : i < w.length) : valV (numK w i) [Sum.inl ((evt w i).1 : Int), Sum.inl ((evt w i).2 : Int)] = none := by
  have : ∀ l : List Nat, (∀ k ∈ l, k < i) → valV (l.map fun k => (([Sum.inl ((evt w k).1 : Int), Sum.inl ((evt w k).2 : Int)] : List Key), V.int (k : Nat))) [Sum.inl ((evt w i).1 : Int), Sum.inl ((evt w i).2 : Int)] = none := by
    intro l
    induction l with
    | nil => intro _; rfl
    | cons k l ih =>
      intro h
      rw [List.map_cons, valV_neg]
      · exact ih fun m hm => h m (List.mem_cons_of_mem _ hm)
      · intro z
        simp only [List.cons.injEq, Sum.inl.injEq, and_true] at z
        have hk := h k List.mem_cons_self
        have : k = i := evt_inj (by omega) hi (Prod.ext (Int.ofNat.inj z.1) (Int.ofNat.inj z.2))
        omega
  exact this _ fun k hk => List.mem_range.mp hk
def cnts (n : Nat) (w : List Nat) (i : Nat) : List Nat := (List.range n).map fun t => (w.take i).count t
theorem cnts_next {n : Nat} {w : List Nat} {i t : Nat} (h : w[i]? = some t) (ht : t < n) : cnts n w (i + 1) = (cnts n w i).set t ((w.take i).count t + 1) := by
  unfold cnts
  apply List.ext_getElem?
  intro j
  rw [List.getElem?_map, List.getElem?_set]
  by_cases hj : j < n
  · rw [List.getElem?_range hj, List.length_map, List.length_range, List.getElem?_map, List.getElem?_range hj, take_at h]
    by_cases e : t = j
    · subst e
      simp [ht]
    · have : ¬ (j = t) := fun z => e z.symm
      simp [e, List.count_cons]
  · have : ¬ t = j := by omega
    rw [if_neg this, List.getElem?_eq_none (by simpa using hj), List.getElem?_eq_none (by simpa using hj)]; rfl
theorem CuS.del {C : Addr} {H : Hp} {x : V} {e0 : TC.Env} {Th : Thr} {ws : List Nat} {nu s1 o1 : Addr} {Pr cl la fi sh od : V} {kvs : List (List Key × V)} {os : List V} (cu : CuS C H x e0 Th ws nu Pr cl la fi sh od) (hs : H s1 = some (.dT kvs)) (ho : H o1 = some (.lst os)) (hns : nu ≠ s1) : CuS C (TW.del s1 (TW.del o1 H)) x e0 Th ws nu Pr cl la fi sh od := by
  have hso : s1 ≠ o1 := ne_of hs ho (by simp)
  have kb : Kp H (TW.del s1 (TW.del o1 H)) := (Kp.del ho (fun z => z) (fun ps z => by cases z)).trans (Kp.del (u := .dT kvs) (by rw [del_ne hso]; exact hs) (fun z => z) (fun ps z => by cases z))
  obtain ⟨⟨p, dx, e1, e2⟩, k3, k4, k5, k6, k7, k8⟩ := cu
  refine ⟨⟨p, dx, e1, ?_⟩, k3.kp kb, k4.kp kb, ?_, Tu.kp k6 kb, Tu.kp k7 kb, k8⟩
  · rw [del_ne (ne_of e2 hs (by simp)), del_ne (ne_of e2 ho (by simp))]; exact e2
  · rw [del_ne hns, del_ne (ne_of k5 ho (by simp))]; exact k5
def CInv (p : Addr) (x y : V) (ct nu : Addr) (Hb : Hp) (n : Nat) (ws : List Nat) (i : Nat) (σ' : L2.St) (H' : Hp) : Prop :=
  ∃ nb th, σ' = [some (.ref p), some x, some y, some (.ref ct), nb, th] ∧ Ext Hb H' ∧ H' nu = some (.dT (numK ws i)) ∧ H' ct = some (.lst (nI (cnts n ws i)))
section
variable {P : Program} {w : World} {K : PySem.W.Frag} {mg : Str → Option Value} {base : Heap}
abbrev CFind (P : Program) (w : World) (K : PySem.W.Frag) (mg : Str → Option Value) (base : Heap) (C Pa : Addr) : Prop := CalM P w K mg base C 3 "find" ["self"] (spFind C Pa)
abbrev CClk (P : Program) (w : World) (K : PySem.W.Frag) (mg : Str → Option Value) (base : Heap) (Pc : Addr) : Prop := Cal P w K mg base 5 "clocks" ["program", "schedule"] (spClk Pc)
abbrev sCuts : Stmt := inClass (tx 18) 0
abbrev nCuts : List Str := ["self", "program", "schedule", "counts", "number", "thread"]
def spCuts (C Pa Pc : Addr) : Sp := fun vs H Q _ => ∃ H0 p dx x y e0 Th ws, vs = [.ref p, x, y] ∧ Ext H0 H ∧ H0 p = none ∧ H p = some (.ins C dx []) ∧ PW H0 x e0 Th ∧ Tn H0 y ws ∧ okw Th e0 (zeroL Th.length) ws = true ∧ GxR.TabG H0 Pa ∧ GxR.TabG H0 Pc ∧
  ∀ H', Ext H0 H' → CuF C H' (.ref p) e0 Th ws → Q .non H'
theorem scCuts : FnScope nCuts ["self", "program", "schedule"] (defScope sCuts) := ⟨rfl, rfl, rfl, by decide +kernel, rfl, by decide +kernel, by decide +kernel⟩
theorem ok_cuts {f C Pa Pc : Addr} {fd : FuncData} (F : Fun K "__init__" "Cuts.__init__" sCuts f fd) (B : Bt mg) (ck : CK K C) (c1 : CClk P w K mg base Pc) (c2 : CFind P w K mg base C Pa) : FnOk P w K mg base CX0 6 f fd ["self", "program", "schedule"] (spCuts C Pa Pc) := by
  refine F.ok scCuts (fun vs H Q E h => ?_) (fun cdv A outer s H vs Q E hr h => ?_)
  · obtain ⟨H0, p, dx, x, y, e0, Th, ws, rfl, _⟩ := h
    rfl
  · obtain ⟨H0, p, dx, x, y, e0, Th, ws, rfl, eh, np, hp, hpw, hw, hok, taba, tabc, q⟩ := h
    refine ⟨_, pss_cons (ps_fldS (pv 0) (pv 1) rfl) (pss_cons (ps_fldS (pv 0) (pe_cal c1 hr rfl (pa_cons (pv 1) (pa_cons (pv 2) pa_nil))) rfl) (pss_cons (ps_fldS (pv 0) pe_dnewT rfl)
      (pss_cons (ps_set (i := 3) scCuts.nd rfl (Or.inl rfl) (pe_op op_rep (pe_lst (pa_cons pe_int pa_nil)) (pe_callB call_len (by rfl) B.len PySem.boot_len (pa_cons (pe_ix ix_tup (pv 1) pe_int (fun _ _ => rfl)) pa_nil))))
      (pss_cons (ps_for PassesOwn.never rfl (GX.pi_enumT (by rfl) B.enumerate (pa_cons (pv 2) pa_nil)) (pg_tup rfl (pgs_cons (pg_name (i := 4) scCuts.nd rfl (.inl rfl)) (pgs_cons (pg_name (i := 5) scCuts.nd rfl (.inl rfl)) pgs_nil)))
        (pss_cons (ps_dput (hu_of hr) (pe_fldR (pv 0)) (pe_tup (pa_cons (pv 5) (pa_cons (pe_ix ix_list (pv 3) (pv 5) (fun _ _ => rfl)) pa_nil))) (pv 4) rfl)
        (pss_one (ps_augS (pv 3) (pv 5) GX.pget_list pe_int ip_add set_list))))
      (pss_cons (ps_fldS (pv 0) (pe_callTy cr_tupL (by rfl) B.tuple (by decide +kernel) (pa_cons (pv 3) pa_nil)) rfl)
      (pss_cons (ps_fldS (pv 0) (pe_op op_repZ (pe_tup (pa_cons pe_int pa_nil)) (pe_callB call_len (by rfl) B.len PySem.boot_len (pa_cons (pv 3) pa_nil))) rfl)
      (pss_cons (ps_fldS (pv 0) (GX.pe_disp1T (hu_of hr) (pe_fldR (pv 0)) (pe_callTy (cr_dictE rfl) (by rfl) B.dict (by decide +kernel) (pa_cons (pe_ix ix_tup (pv 1) pe_int (fun _ _ => rfl)) pa_nil))) rfl)
      (pss_cons (ps_fldS (pv 0) (pe_lst (pa_cons (pe_fldR (pv 0)) pa_nil)) rfl)
      (pss_one (ps_expr (pe_mcal0 c2 ck.cl (hr.mono (by decide)) (pv 0)))))))))))), ?_⟩
    simp only [tVar, tC, tOp, tUn, tTest, tChain, tNil, tCons, tTup, tLst, tCall, tMake, tCB, tIf, tAndV, tOrV, tNotV, tIsN, tNotN, tB, tAnd, tOr, tNot, tNext, tSeq, tDrop, tRet, tRetN, tIfS, tNever, gName, gNil, gCons, gSub, tAsg, tAug, tAugS, ipI, tBM, tBM0, tSl, tNoPart, tPart, tDGet, tDIn, tDNotIn, tDGet1, sDPut, tMth, tDNewT, tDNewK, tYes, rI0, rI, rU, rAdd, rSub, rEq, rNe, L2.start, List.map_cons, List.map_nil, List.length_cons, List.length_nil, List.replicate, List.append_nil, List.nil_append, List.cons_append, List.getElem?_cons_zero, List.getElem?_cons_succ, List.set_cons_zero, List.set_cons_succ, Option.some.injEq, V.int.injEq, V.bl.injEq, V.ref.injEq, V.str.injEq, exists_eq_left', exists_eq_left, exists_and_left, true_and, and_true, Nat.reduceAdd, Nat.reduceSub, Nat.add_one_sub_one, Nat.sub_self, Bool.true_eq_false, Bool.false_eq_true, if_true, if_false, ite_true, ite_false, cxOf, Cx.nox, decide_eq_true_eq, reduceCtorEq, decide_false, decide_true, Bool.not_false, Bool.not_true, eq_self, upd_same, L2.upd_upd, List.cons.injEq, and_assoc, tStF, GX.tDisp1]
    have n3 := hpw.n3
    have hwl := run_len hpw hok
    refine st_fld hp ck.cl ck.program (by show 0 < 1000; omega) ?_
    have e1 : Ext H0 (upd H p (.ins C dx (putF "program" x []))) := eh.upd np
    have hp1 : upd H p (.ins C dx (putF "program" x [])) p = _ := upd_same
    generalize upd H p (.ins C dx (putF "program" x [])) = H1 at *
    refine ⟨x, y, e0, Th, ws, rfl, hpw.ext e1, hw.ext e1, hok, e1.2.tab tabc, fun H2 cl e2 hcl => ?_⟩
    have hp2 := e2.1 _ _ hp1 (by simp)
    refine st_fld hp2 ck.cl ck.clocks (by show 1 < 1000; omega) (fun nu nnu => ?_)
    have e3 : Ext H0 (upd H2 p (.ins C dx (putF "clocks" cl (putF "program" x [])))) := (e1.trans e2).upd np
    have hp3 : upd H2 p (.ins C dx (putF "clocks" cl (putF "program" x []))) p = _ := upd_same
    have hcl3 : TT2 (upd H2 p (.ins C dx (putF "clocks" cl (putF "program" x [])))) cl _ := hcl.kp (Kp.ins hp2)
    generalize upd H2 p (.ins C dx (putF "clocks" cl (putF "program" x []))) = H3 at *
    have npn : p ≠ nu := ne_of_none hp3 nnu
    have e4 : Ext H3 (upd H3 nu (.dT [])) := Ext.new nnu
    have hp4 := e4.1 _ _ hp3 (by simp)
    have hn4 : upd H3 nu (.dT []) nu = some (.dT []) := upd_same
    generalize upd H3 nu (.dT []) = H4 at *
    refine st_fld hp4 ck.cl ck.numbers (by show 2 < 1000; omega) ⟨szN (by decide), fun q1 nq1 => ?_⟩
    have e5 : Ext H0 (upd H4 p (.ins C dx (putF "numbers" (.ref nu) (putF "clocks" cl (putF "program" x []))))) := (e3.trans e4).upd np
    have hp5 : upd H4 p (.ins C dx (putF "numbers" (.ref nu) (putF "clocks" cl (putF "program" x [])))) p = _ := upd_same
    have hn5 : upd H4 p (.ins C dx (putF "numbers" (.ref nu) (putF "clocks" cl (putF "program" x [])))) nu = some (.dT []) := by rw [upd_ne npn.symm]; exact hn4
    have hcl5 : TT2 (upd H4 p (.ins C dx (putF "numbers" (.ref nu) (putF "clocks" cl (putF "program" x []))))) cl _ := (hcl3.kp e4.kp).kp (Kp.ins hp4)
    generalize upd H4 p (.ins C dx (putF "numbers" (.ref nu) (putF "clocks" cl (putF "program" x [])))) = H5 at *
    have e6 : Ext H5 (upd H5 q1 (.lst [V.int 0])) := Ext.new nq1
    have hq6 : upd H5 q1 (.lst [V.int 0]) q1 = some (.lst [V.int 0]) := upd_same
    generalize upd H5 q1 (.lst [V.int 0]) = H6 at *
    obtain ⟨v, tt, ps, rows, g1, g2, g3, g4, g5⟩ := (hpw.ext (e5.trans e6)).prog
    have hrl := g5.1
    refine tu_ix 2 g1 rfl (tu_len g4 ⟨q1, (rows.length : Int), [V.int 0], rfl, rfl, hq6, by omega, by omega, szN (by rw [Int.toNat_natCast]; show 1 * rows.length ≤ 1000; omega), fun ct nct => ?_⟩)
    rw [Int.toNat_natCast, hrl]
    have hz : (List.replicate Th.length [V.int 0]).flatten = nI (cnts Th.length ws 0) := by
      have := rep_zero Th.length
      have h2 : cnts Th.length ws 0 = List.replicate Th.length 0 := by
        unfold cnts
        apply List.ext_getElem?
        intro j
        by_cases hj : j < Th.length
        · simp [hj]
        · simp [hj]
      rw [h2]; exact this
    rw [hz]
    have e7' : Ext H6 (upd H6 ct (.lst (nI (cnts Th.length ws 0)))) := Ext.new nct
    have hct : upd H6 ct (.lst (nI (cnts Th.length ws 0))) ct = _ := upd_same
    generalize upd H6 ct (.lst (nI (cnts Th.length ws 0))) = H7 at *
    have e7 : Ext H5 H7 := e6.trans e7'
    have e07 := e5.trans e7
    have hp7 := e7.1 _ _ hp5 (by simp)
    have hn7 := e7.1 _ _ hn5 (by simp)
    have hcl7 := hcl5.kp e7.kp
    have nn0 : H0 nu = none := e3.free nnu
    have nc0 : H0 ct = none := (e5.trans e6).free nct
    have hcn : ct ≠ nu := (ne_of hn7 hct (by simp)).symm
    have kb : Kp H7 (del ct (del nu H7)) := (Kp.del hn7 (fun z => z) (fun ps z => by cases z)).trans (Kp.del (u := .lst (nI (cnts Th.length ws 0))) (by rw [del_ne hcn]; exact hct) (fun z => z) (fun ps z => by cases z))
    have exB : Ext (del ct (del nu H7)) H7 := Ext.del.trans Ext.del
    have e0b : Ext H0 (del ct (del nu H7)) := (e07.todel nn0).todel nc0
    obtain ⟨hbc, hbn⟩ : del ct (del nu H7) ct = none ∧ del ct (del nu H7) nu = none := ⟨del_same, by rw [del_ne hcn.symm, del_same]⟩
    have hpB : del ct (del nu H7) p = some (.ins C dx (putF "numbers" (.ref nu) (putF "clocks" cl (putF "program" x [])))) := by rw [del_ne (ne_of hp7 hct (by simp)), del_ne npn]; exact hp7
    have hclB := hcl7.kp kb
    generalize del ct (del nu H7) = Hb at *
    obtain ⟨ya, rfl, hya⟩ := id hw
    refine for_enumT (a := ya) (xs := nI ws) (fun R h => ⟨_, rfl, h⟩) (e07.1 _ _ hya (by simp)) (CInv p x (.ref ya) ct nu Hb Th.length ws) ⟨none, none, rfl, exB, hn7, hct⟩ (fun i σ' H' ⟨_, _, _, e, _⟩ => (e0b.trans e).1 _ _ hya (by simp)) ?_ ?_
    · rintro i it T σ' H' hi ⟨nb, th, rfl, eb, hnu, hc⟩ nT
      obtain ⟨t, ht, rfl⟩ := nI_inv hi
      have hiw := (List.getElem?_eq_some_iff.mp ht).1
      have htn := poss_lt (okw_at hok ht)
      refine tu_tgt ⟨T, rfl, upd_same⟩ ?_
      simp only [tVar, tC, tOp, tUn, tTest, tChain, tNil, tCons, tTup, tLst, tCall, tMake, tCB, tIf, tAndV, tOrV, tNotV, tIsN, tNotN, tB, tAnd, tOr, tNot, tNext, tSeq, tDrop, tRet, tRetN, tIfS, tNever, gName, gNil, gCons, gSub, tAsg, tAug, tAugS, ipI, tBM, tBM0, tSl, tNoPart, tPart, tDGet, tDIn, tDNotIn, tDGet1, sDPut, tMth, tDNewT, tDNewK, tYes, rI0, rI, rU, rAdd, rSub, rEq, rNe, L2.start, List.map_cons, List.map_nil, List.length_cons, List.length_nil, List.replicate, List.append_nil, List.nil_append, List.cons_append, List.getElem?_cons_zero, List.getElem?_cons_succ, List.set_cons_zero, List.set_cons_succ, Option.some.injEq, V.int.injEq, V.bl.injEq, V.ref.injEq, V.str.injEq, exists_eq_left', exists_eq_left, exists_and_left, true_and, and_true, Nat.reduceAdd, Nat.reduceSub, Nat.add_one_sub_one, Nat.sub_self, Bool.true_eq_false, Bool.false_eq_true, if_true, if_false, ite_true, ite_false, cxOf, Cx.nox, decide_eq_true_eq, reduceCtorEq, decide_false, decide_true, Bool.not_false, Bool.not_true, eq_self, upd_same, L2.upd_upd, List.cons.injEq, and_assoc]
      have ea : Ext H' (upd H' T (.tup [V.int (i : Nat), V.int (t : Nat)])) := Ext.new nT
      generalize upd H' T (.tup [V.int (i : Nat), V.int (t : Nat)]) = Ha at *
      have eba := eb.trans ea
      have hpa := eba.1 _ _ hpB (by simp)
      have hna := ea.1 _ _ hnu (by simp)
      have hca := ea.1 _ _ hc (by simp)
      have hcg : (cnts Th.length ws i)[t]? = some ((ws.take i).count t) := by unfold cnts; rw [List.getElem?_map, List.getElem?_range htn]; rfl
      refine at_fld hpa ck.cl ck.numbers rfl (ls_ix t hca (nI_at hcg) ⟨szN (by decide), fun q2 nq2 => ?_⟩)
      have hev : evt ws i = (t, (ws.take i).count t) := by
        have : ws.getD i 0 = t := by rw [List.getD_eq_getElem?_getD, ht]; rfl
        unfold evt; rw [this]
      have eq2 : Ext Ha (upd Ha q2 (.tup [V.int (t : Nat), V.int (((ws.take i).count t : Nat) : Int)])) := Ext.new nq2
      have hq2 : upd Ha q2 (.tup [V.int (t : Nat), V.int (((ws.take i).count t : Nat) : Int)]) q2 = some (.tup [V.int (t : Nat), V.int (((ws.take i).count t : Nat) : Int)]) := upd_same
      generalize upd Ha q2 (.tup [V.int (t : Nat), V.int (((ws.take i).count t : Nat) : Int)]) = Hc at *
      have hnc := eq2.1 _ _ hna (by simp)
      have hcc := eq2.1 _ _ hca (by simp)
      have hkz : (numK ws i).length ≤ 1000 := by unfold numK; rw [List.length_map, List.length_range]; omega
      refine ⟨nu, rfl, _, DPut.t (k := [Sum.inl (t : Int), Sum.inl (((ws.take i).count t : Nat) : Int)]) hnc hq2 (small1000 hkz), ?_⟩
      have hnk : putK (numK ws i) [Sum.inl (t : Int), Sum.inl (((ws.take i).count t : Nat) : Int)] (V.int (i : Nat)) = numK ws (i + 1) := by
        have h1 := numK_fresh hiw
        rw [hev] at h1
        rw [putK_new h1]
        unfold numK
        rw [range_snoc, hev]
      rw [hnk]
      have hcd : upd Hc nu (.dT (numK ws (i + 1))) ct = some (.lst (nI (cnts Th.length ws i))) := by rw [upd_ne hcn]; exact hcc
      refine ⟨ct, _, t, _, rfl, rfl, hcd, nI_at hcg, _, rfl, ct, _, (t : Int), t, rfl, rfl, hcd, ?_, ?_⟩
      · unfold ixN
        have : (nI (cnts Th.length ws i)).length = Th.length := by rw [nI_length]; unfold cnts; rw [List.length_map, List.length_range]
        rw [this, if_pos (by omega), if_pos (by omega)]; rfl
      · refine ⟨_, _, rfl, (((eba.trans eq2).upd hbn).upd hbc), by rw [upd_ne hcn.symm, upd_same], ?_⟩
        rw [upd_same, cnts_next ht htn]
        congr 2
        unfold nI
        rw [List.map_set]; rfl
    · rintro σ' H' ⟨nb, th, rfl, eb, hnu, hc⟩
      rw [nI_length] at hnu hc
      simp only [tVar, tC, tOp, tUn, tTest, tChain, tNil, tCons, tTup, tLst, tCall, tMake, tCB, tIf, tAndV, tOrV, tNotV, tIsN, tNotN, tB, tAnd, tOr, tNot, tNext, tSeq, tDrop, tRet, tRetN, tIfS, tNever, gName, gNil, gCons, gSub, tAsg, tAug, tAugS, ipI, tBM, tBM0, tSl, tNoPart, tPart, tDGet, tDIn, tDNotIn, tDGet1, sDPut, tMth, tDNewT, tDNewK, tYes, rI0, rI, rU, rAdd, rSub, rEq, rNe, L2.start, List.map_cons, List.map_nil, List.length_cons, List.length_nil, List.replicate, List.append_nil, List.nil_append, List.cons_append, List.getElem?_cons_zero, List.getElem?_cons_succ, List.set_cons_zero, List.set_cons_succ, Option.some.injEq, V.int.injEq, V.bl.injEq, V.ref.injEq, V.str.injEq, exists_eq_left', exists_eq_left, exists_and_left, true_and, and_true, Nat.reduceAdd, Nat.reduceSub, Nat.add_one_sub_one, Nat.sub_self, Bool.true_eq_false, Bool.false_eq_true, if_true, if_false, ite_true, ite_false, cxOf, Cx.nox, decide_eq_true_eq, reduceCtorEq, decide_false, decide_true, Bool.not_false, Bool.not_true, eq_self, upd_same, L2.upd_upd, List.cons.injEq, and_assoc, tStF, GX.tDisp1]
      have e8 := e0b.trans eb
      have hpA := eb.1 _ _ hpB (by simp)
      have hclA := hclB.kp eb.kp
      have hlz : (nI (cnts Th.length ws ws.length)).length = Th.length := by rw [nI_length]; unfold cnts; rw [List.length_map, List.length_range]
      have hlast : lastM Th.length ws = cnts Th.length ws ws.length := by unfold lastM cnts; rw [List.take_length]
      rw [← hlast] at hc hlz
      -- last
      refine ⟨ct, _, rfl, SqL.of hc, fun la nla => ?_⟩
      have ex1 : Ext H' (upd H' la (.tup (nI (lastM Th.length ws)))) := Ext.new nla
      have hla1 : Tn (upd H' la (.tup (nI (lastM Th.length ws)))) (.ref la) (lastM Th.length ws) := ⟨la, rfl, upd_same⟩
      generalize upd H' la (.tup (nI (lastM Th.length ws))) = G1 at *
      have hpG1 := ex1.1 _ _ hpA (by simp)
      refine st_fld hpG1 ck.cl ck.last (by show 3 < 1000; omega) ⟨szN (by decide), fun q3 nq3 => ?_⟩
      have kx1 := ex1.kp.trans (Kp.ins (o := .ins C dx (putF "last" (.ref la) (putF "numbers" (.ref nu) (putF "clocks" cl (putF "program" x []))))) hpG1)
      have e9 := (e8.trans ex1).upd (p := p) (o := .ins C dx (putF "last" (.ref la) (putF "numbers" (.ref nu) (putF "clocks" cl (putF "program" x []))))) np
      have hp9 : upd G1 p (.ins C dx (putF "last" (.ref la) (putF "numbers" (.ref nu) (putF "clocks" cl (putF "program" x []))))) p = _ := upd_same
      have hn9 : upd G1 p (.ins C dx (putF "last" (.ref la) (putF "numbers" (.ref nu) (putF "clocks" cl (putF "program" x []))))) nu = some (.dT (numK ws ws.length)) := by rw [upd_ne npn.symm]; exact ex1.1 _ _ hnu (by simp)
      have hc9 : upd G1 p (.ins C dx (putF "last" (.ref la) (putF "numbers" (.ref nu) (putF "clocks" cl (putF "program" x []))))) ct = some (.lst (nI (lastM Th.length ws))) := by rw [upd_ne (ne_of hc hpA (by simp))]; exact ex1.1 _ _ hc (by simp)
      have hla9 : Tn (upd G1 p (.ins C dx (putF "last" (.ref la) (putF "numbers" (.ref nu) (putF "clocks" cl (putF "program" x [])))))) (.ref la) (lastM Th.length ws) := Tu.kp hla1 (Kp.ins hpG1)
      have hcl9 := hclA.kp kx1
      generalize upd G1 p (.ins C dx (putF "last" (.ref la) (putF "numbers" (.ref nu) (putF "clocks" cl (putF "program" x []))))) = G2 at *
      -- first
      have ex2 : Ext G2 (upd G2 q3 (.tup [V.int 0])) := Ext.new nq3
      have hq3 : upd G2 q3 (.tup [V.int 0]) q3 = some (.tup [V.int 0]) := upd_same
      generalize upd G2 q3 (.tup [V.int 0]) = G3 at *
      refine ls_len (ex2.1 _ _ hc9 (by simp)) ⟨Th.length, ⟨q3, rfl, hq3⟩, by rw [hlz], hpw.n1, by omega, fun fi G4 ex3 hfi => ?_⟩
      have ex23 := ex2.trans ex3
      have hp10 := ex23.1 _ _ hp9 (by simp)
      refine st_fld hp10 ck.cl ck.first (by show 4 < 1000; omega) (fun s1 ns1 => ?_)
      obtain ⟨fa, rfl, hfa⟩ := id hfi
      have e11 := ((e9.trans ex23)).upd (p := p) (o := .ins C dx (putF "first" (.ref fa) (putF "last" (.ref la) (putF "numbers" (.ref nu) (putF "clocks" cl (putF "program" x [])))))) np
      have k11 := ex23.kp.trans (Kp.ins (o := .ins C dx (putF "first" (.ref fa) (putF "last" (.ref la) (putF "numbers" (.ref nu) (putF "clocks" cl (putF "program" x [])))))) hp10)
      have hp11 : upd G4 p (.ins C dx (putF "first" (.ref fa) (putF "last" (.ref la) (putF "numbers" (.ref nu) (putF "clocks" cl (putF "program" x [])))))) p = _ := upd_same
      have hn11 : upd G4 p (.ins C dx (putF "first" (.ref fa) (putF "last" (.ref la) (putF "numbers" (.ref nu) (putF "clocks" cl (putF "program" x [])))))) nu = some (.dT (numK ws ws.length)) := by rw [upd_ne npn.symm]; exact ex23.1 _ _ hn9 (by simp)
      have hla11 := Tu.kp hla9 k11
      have hcl11 := hcl9.kp k11
      have hfi11 : Tn (upd G4 p (.ins C dx (putF "first" (.ref fa) (putF "last" (.ref la) (putF "numbers" (.ref nu) (putF "clocks" cl (putF "program" x []))))))) (.ref fa) (zeroL Th.length) := Tu.kp hfi (Kp.ins hp10)
      generalize upd G4 p (.ins C dx (putF "first" (.ref fa) (putF "last" (.ref la) (putF "numbers" (.ref nu) (putF "clocks" cl (putF "program" x [])))))) = G5 at *
      -- shown
      have ex4 : Ext G5 (upd G5 s1 (.dT [])) := Ext.new ns1
      have hs6 : upd G5 s1 (.dT []) s1 = some (.dT []) := upd_same
      have nus : nu ≠ s1 := ne_of_none hn11 ns1
      have s10 : H0 s1 = none := e11.free ns1
      generalize upd G5 s1 (.dT []) = G6 at *
      have hp6 := ex4.1 _ _ hp11 (by simp)
      refine at_fld hp6 ck.cl ck.first rfl ?_
      obtain ⟨v, tt, ps, rows, g1, g2, g3, g4, g5⟩ := (hpw.ext (e11.trans ex4)).prog
      refine tu_ix 1 g1 rfl ⟨v, ps, e0, rfl, g2, g3, hpw.wf.1, fun dv G7 ex5 hdv => ?_⟩
      have ex45 := ex4.trans ex5
      have hfi7 := Tu.ext hfi11 ex45
      obtain ⟨fa', efa, hfa7⟩ := id hfi7
      cases efa
      have hs7 := ex5.1 _ _ hs6 (by simp)
      have hp7' := ex45.1 _ _ hp11 (by simp)
      refine ⟨fa, rfl, ckey (zeroL Th.length), by rw [ckey_tup]; exact hfa7, hs7, ?_⟩
      have hps : p ≠ s1 := ne_of_none hp11 ns1
      have e12 := (e11.trans ex45).upd (p := s1) (o := .dT [(ckey (zeroL Th.length), dv)]) s10
      have k12 : Kp G7 (upd G7 s1 (.dT [(ckey (zeroL Th.length), dv)])) := Kp.set hs7 (fun z => z) (fun ps z => by cases z)
      have hs12 : upd G7 s1 (.dT [(ckey (zeroL Th.length), dv)]) s1 = _ := upd_same
      have hp12 : upd G7 s1 (.dT [(ckey (zeroL Th.length), dv)]) p = _ := (upd_ne hps).trans hp7'
      have hn12 : upd G7 s1 (.dT [(ckey (zeroL Th.length), dv)]) nu = some (.dT (numK ws ws.length)) := by rw [upd_ne nus]; exact ex45.1 _ _ hn11 (by simp)
      have hdv12 := hdv.kp k12
      have hla12 := Tu.kp (Tu.ext hla11 ex45) k12
      have hcl12 := (hcl11.kp ex45.kp).kp k12
      have hfi12 := Tu.kp hfi7 k12
      generalize upd G7 s1 (.dT [(ckey (zeroL Th.length), dv)]) = G8 at *
      refine st_fld hp12 ck.cl ck.shown (by show 5 < 1000; omega) ?_
      have e13 := e12.upd (p := p) (o := .ins C dx (putF "shown" (.ref s1) (putF "first" (.ref fa) (putF "last" (.ref la) (putF "numbers" (.ref nu) (putF "clocks" cl (putF "program" x []))))))) np
      have k13 := Kp.ins (o := .ins C dx (putF "shown" (.ref s1) (putF "first" (.ref fa) (putF "last" (.ref la) (putF "numbers" (.ref nu) (putF "clocks" cl (putF "program" x []))))))) hp12
      have hp13 : upd G8 p (.ins C dx (putF "shown" (.ref s1) (putF "first" (.ref fa) (putF "last" (.ref la) (putF "numbers" (.ref nu) (putF "clocks" cl (putF "program" x []))))))) p = _ := upd_same
      have hs13 : upd G8 p (.ins C dx (putF "shown" (.ref s1) (putF "first" (.ref fa) (putF "last" (.ref la) (putF "numbers" (.ref nu) (putF "clocks" cl (putF "program" x []))))))) s1 = _ := (upd_ne hps.symm).trans hs12
      have hn13 : upd G8 p (.ins C dx (putF "shown" (.ref s1) (putF "first" (.ref fa) (putF "last" (.ref la) (putF "numbers" (.ref nu) (putF "clocks" cl (putF "program" x []))))))) nu = _ := (upd_ne npn.symm).trans hn12
      have hdv13 := hdv12.kp k13
      have hla13 := Tu.kp hla12 k13
      have hcl13 := hcl12.kp k13
      have hfi13 := Tu.kp hfi12 k13
      generalize upd G8 p (.ins C dx (putF "shown" (.ref s1) (putF "first" (.ref fa) (putF "last" (.ref la) (putF "numbers" (.ref nu) (putF "clocks" cl (putF "program" x []))))))) = G9 at *
      -- order
      refine at_fld hp13 ck.cl ck.first rfl ⟨szN (by decide), fun o1 no1 => ?_⟩
      have ex6 : Ext G9 (upd G9 o1 (.lst [V.ref fa])) := Ext.new no1
      have ho14 : upd G9 o1 (.lst [V.ref fa]) o1 = some (.lst [V.ref fa]) := upd_same
      have hpo : p ≠ o1 := ne_of_none hp13 no1
      have o10 : H0 o1 = none := e13.free no1
      generalize upd G9 o1 (.lst [V.ref fa]) = G10 at *
      have hp14 := ex6.1 _ _ hp13 (by simp)
      refine st_fld hp14 ck.cl ck.order (by show 6 < 1000; omega) ?_
      have e15 := (e13.trans ex6).upd (p := p) (o := .ins C dx (fl x cl (.ref nu) (.ref la) (.ref fa) (.ref s1) (.ref o1))) np
      have k15 := ex6.kp.trans (Kp.ins (o := .ins C dx (fl x cl (.ref nu) (.ref la) (.ref fa) (.ref s1) (.ref o1))) hp14)
      have hfl : putF "order" (.ref o1) (putF "shown" (.ref s1) (putF "first" (.ref fa) (putF "last" (.ref la) (putF "numbers" (.ref nu) (putF "clocks" cl (putF "program" x [])))))) = fl x cl (.ref nu) (.ref la) (.ref fa) (.ref s1) (.ref o1) := rfl
      rw [hfl]
      have hp15 : upd G10 p (.ins C dx (fl x cl (.ref nu) (.ref la) (.ref fa) (.ref s1) (.ref o1))) p = _ := upd_same
      have hs15 : upd G10 p (.ins C dx (fl x cl (.ref nu) (.ref la) (.ref fa) (.ref s1) (.ref o1))) s1 = _ := (upd_ne hps.symm).trans (ex6.1 _ _ hs13 (by simp))
      have ho15 : upd G10 p (.ins C dx (fl x cl (.ref nu) (.ref la) (.ref fa) (.ref s1) (.ref o1))) o1 = _ := (upd_ne hpo.symm).trans ho14
      have hn15 : upd G10 p (.ins C dx (fl x cl (.ref nu) (.ref la) (.ref fa) (.ref s1) (.ref o1))) nu = _ := (upd_ne npn.symm).trans (ex6.1 _ _ hn13 (by simp))
      generalize upd G10 p (.ins C dx (fl x cl (.ref nu) (.ref la) (.ref fa) (.ref s1) (.ref o1))) = G11 at *
      have cu : CuS C G11 (.ref p) e0 Th ws nu x cl (.ref la) (.ref fa) (.ref s1) (.ref o1) := ⟨⟨p, dx, rfl, hp15⟩, hpw.ext e15, hcl13.kp k15, hn15, Tu.kp hla13 k15, Tu.kp hfi13 k15, hok⟩
      refine cu.mth ⟨.ref p, e0, Th, ws, nu, x, cl, .ref la, .ref fa, s1, o1, _, _, rfl, cu, nus, hs15, ?_, ho15, ?_, e15.2.tab taba, fun H' kvs' os' eH hsH hSH hoH hOH => ?_⟩
      · exact A2.snoc (xs := []) (l := []) A2.nil ⟨rfl, hdv13.kp k15⟩
      · exact A2.snoc (xs := []) (l := []) A2.nil (Tu.kp hfi13 k15)
      · refine q H' (((e15.todel o10).todel s10).trans eH) ⟨nu, x, cl, .ref la, .ref fa, s1, o1, kvs', os', (cu.del hs15 ho15 nus).ext eH, hsH, hSH, hoH, hOH⟩
end
end TW

set_option maxHeartbeats 8000000
/-! TwO: tuples of numbers compared; Cuts.avoiding. -/
namespace TW
open PySem PySem.Spec PyProof.Rows L2
open TC hiding Step Env
def dN (ns : List Nat) : PyData := .tuple (ns.map fun n : Nat => PyData.int (n : Int))
theorem dpN {K : PySem.W.Frag} {H : Hp} : ∀ ns : List Nat, DpAll K H (nI ns) (ns.map fun n : Nat => PyData.int (n : Int))
  | [] => .nil
  | n :: ns => .cons (.int _) (dpN ns)
theorem Tn.dp {K : PySem.W.Frag} {H : Hp} {x : V} {ns : List Nat} (h : Tn H x ns) : Dp K H x (dN ns) := by
  obtain ⟨a, rfl, h⟩ := h
  exact .tup (SqT.of h) (dpN ns)
theorem layN : ∀ ns : List Nat, PyData.canLayAll0 (ns.map fun n : Nat => PyData.int (n : Int)) = true
  | [] => by simp [PyData.canLayAll0]
  | n :: ns => by simp [PyData.canLayAll0, PyData.canLay0, layN ns]
theorem depN : ∀ ns : List Nat, PyData.depthAll (ns.map fun n : Nat => PyData.int (n : Int)) ≤ 1
  | [] => by simp [PyData.depthAll]
  | n :: ns => by
    have := depN ns
    simp only [List.map_cons, PyData.depthAll, PyData.depth]
    omega
theorem shapN (ns : List Nat) : SeqAt.shaped (dN ns) = true := by
  have h := depN ns
  show (PyData.canLay0 (dN ns) && decide ((dN ns).depth ≤ 64)) = true
  rw [Bool.and_eq_true]
  refine ⟨by simp only [dN, PyData.canLay0]; exact layN ns, decide_eq_true ?_⟩
  simp only [dN, PyData.depth]; omega
theorem eqvN : ∀ ns ms : List Nat, PyData.eqvAll (ns.map fun n : Nat => PyData.int (n : Int)) (ms.map fun n : Nat => PyData.int (n : Int)) = decide (ns = ms)
  | [], [] => by simp [PyData.eqvAll]
  | [], m :: ms => by simp [PyData.eqvAll]
  | n :: ns, [] => by simp [PyData.eqvAll]
  | n :: ns, m :: ms => by
    have ih := eqvN ns ms
    simp only [List.map_cons, PyData.eqvAll, PyData.eqv]
    rw [ih]
    by_cases e : n = m
    · subst e; simp
    · have : ((n : Int) == (m : Int)) = false := beq_eq_false_iff_ne.mpr (by omega)
      rw [this]; simp [e]
theorem eqv_dN (ns ms : List Nat) : PyData.eqv (dN ns) (dN ms) = decide (ns = ms) := by
  unfold dN
  rw [PyData.eqv]
  exact eqvN ns ms
theorem eq_N {K : PySem.W.Frag} {H : Hp} {x y : V} {ns ms : List Nat} {Q : VK} (hx : Tn H x ns) (hy : Tn H y ms) (q : Q (.bl (decide (ns = ms))) H) : rEqD K x y H Q := ⟨dN ns, dN ms, hx.dp, hy.dp, shapN _, shapN _, by rw [eqv_dN]; exact q⟩
theorem ne_N {K : PySem.W.Frag} {H : Hp} {x y : V} {ns ms : List Nat} {Q : VK} (hx : Tn H x ns) (hy : Tn H y ms) (q : Q (.bl (!decide (ns = ms))) H) : rNeD K x y H Q := ⟨dN ns, dN ms, hx.dp, hy.dp, shapN _, shapN _, by rw [eqv_dN]; exact q⟩
theorem hu64 {A : Around} {k : Nat} (h : Room k A) : A.units + 64 < cLine := h.units
section
variable {wi : TI} {g : TG} {tt : TT} {te : TE} {vs : List Nat} {Pa : Addr} {σ : L2.St} {H : Hp} {Q : VK}
/-- any(... for x in xs), the list made by a call -/
theorem anyG_lC {K : PySem.W.Frag} (C : Addr → List V → Hp → Prop) (hwi : ∀ R : It → Hp → Prop, (∀ a xs H1, C a xs H1 → H1 a = some (.lst xs) → R (Itl K a) H1) → wi σ H R)
    (h : ∀ a xs H1, C a xs H1 → H1 a = some (.lst xs) → GxR.TabG H1 Pa ∧ ∃ Pv : Nat → List V → Hp → Prop, (∀ H2, Ext H1 H2 → Pv 0 [] H2) ∧ (∀ i ys H', Pv i ys H' → H' a = some (.lst xs)) ∧
      (∀ (i : Nat) (x : V) (ys : List V) (H' : Hp), xs[i]? = some x → Pv i ys H' → g x (wipe σ vs) H' fun σ2 H2 => wipe σ2 vs = wipe σ vs ∧ tt σ2 H2 fun b H3 => if b = true then te σ2 H3 fun y H4 => (∃ b, y = .bl b ∧ (b = true → Q (.bl true) H4)) ∧ ys.length < sizeLine ∧ (y = .bl false → Pv (i + 1) (ys ++ [y]) H4) else Pv (i + 1) ys H3) ∧
      (∀ (ys : List V) (H' : Hp), Pv xs.length ys H' → Q (.bl false) H')) : GX.tAnyG wi g tt te vs Pa σ H Q := by
  refine hwi _ fun a xs H1 hC ha => ?_
  obtain ⟨tab, Pv, h0, hG, hs, hd⟩ := h a xs H1 hC ha
  exact ⟨tab, fun H2 hT => ⟨_, fun _ x H' => ∃ b, x = .bl b ∧ (b = true → Q (.bl true) H'), fun ys H' => Pv xs.length ys H', xs.length, ⟨rfl, Nat.zero_le _, h0 H2 (Ext.tabbed tab hT)⟩, GX.g_it (walk_list (K := K) (a := a) (xs := xs)) Pv (fun i ys H' _ p => SqL.of (hG i ys H' p))
    (fun i x ys H' H'' hi p y => by obtain ⟨e1, e2⟩ := y; subst e1; exact hs i x ys _ e2 p) fun ys H' p => p, fun ys H' p => hd ys H' p, fun ys x H' p => p⟩⟩
end
/-- a dict of cuts, all of them true -/
def avK (l : List (List Nat)) : List (List Key × V) := l.map fun c => (ckey c, V.bl true)
theorem avK_val (l : List (List Nat)) (c : List Nat) : valV (avK l) (ckey c) = if c ∈ l then some (V.bl true) else none := by
  induction l with
  | nil => rfl
  | cons d l ih =>
    unfold avK
    rw [List.map_cons]
    by_cases e : d = c
    · subst e
      rw [valV_pos rfl, if_pos List.mem_cons_self]
    · have : ¬ ckey d = ckey c := fun z => e (ckey_inj z)
      rw [valV_neg this]
      have hm : c ∈ d :: l ↔ c ∈ l := by
        rw [List.mem_cons]
        exact ⟨fun z => z.elim (fun z => absurd z.symm e) id, .inr⟩
      simp only [hm]
      exact ih
theorem putK_same {κ : Type} [DecidableEq κ] {kvs : List (κ × V)} {k : κ} {v : V} (h : ∀ p ∈ kvs, p.1 = k → p = (k, v)) (hm : ∃ p ∈ kvs, p.1 = k) : putK kvs k v = kvs := by
  unfold putK
  have : (kvs.any fun p => decide (p.1 = k)) = true := by
    obtain ⟨p, hp, e⟩ := hm
    rw [List.any_eq_true]
    exact ⟨p, hp, decide_eq_true e⟩
  rw [if_pos this]
  have : ∀ l : List (κ × V), (∀ p ∈ l, p.1 = k → p = (k, v)) → (l.map fun p => if p.1 = k then (p.1, v) else p) = l := by
    intro l
    induction l with
    | nil => intro _; rfl
    | cons a l ih =>
      intro h
      rw [List.map_cons, ih fun p hp => h p (List.mem_cons_of_mem _ hp)]
      by_cases e : a.1 = k
      · rw [if_pos e, h a List.mem_cons_self e]
      · rw [if_neg e]
  exact this kvs h
theorem avK_put (l : List (List Nat)) (c : List Nat) : putK (avK l) (ckey c) (V.bl true) = avK (insK l c) := by
  unfold insK
  by_cases h : c ∈ l
  · rw [if_pos h]
    refine putK_same (fun p hp e => ?_) ⟨(ckey c, V.bl true), List.mem_map.mpr ⟨c, h, rfl⟩, rfl⟩
    obtain ⟨d, hd, rfl⟩ := List.mem_map.mp hp
    have e : ckey d = ckey c := e
    show (ckey d, V.bl true) = _
    rw [e]
  · rw [if_neg h, putK_new (by rw [avK_val, if_neg h])]
    unfold avK
    rw [List.map_append]; rfl

theorem asg_C {tE : TE} {g : TG} {tb : TS} {D : Ends} {σ : L2.St} {H : Hp} (C : V → Hp → Prop) (hE : ∀ R : VK, (∀ y H1, C y H1 → R y H1) → tE σ H R) (h : ∀ y H1, C y H1 → g y σ H1 fun σ2 H2 => tb D σ2 H2) : tSeq (tAsg tE g) tb D σ H := hE _ h
theorem A2.reverse {α β : Type} {R : α → β → Prop} {xs : List α} {l : List β} (h : A2 R xs l) : A2 R xs.reverse l.reverse := by
  refine ⟨by rw [List.length_reverse, List.length_reverse, h.1], fun i x hi => ?_⟩
  have hlt := (List.getElem?_eq_some_iff.mp hi).1
  rw [List.length_reverse] at hlt
  rw [List.getElem?_reverse hlt] at hi
  obtain ⟨b, hb, r⟩ := h.2 _ x hi
  refine ⟨b, ?_, r⟩
  rw [List.getElem?_reverse (by rw [← h.1]; exact hlt), ← h.1]
  exact hb
theorem take_g {α : Type} {l : List α} {i : Nat} {x : α} (h : l[i]? = some x) : l.take (i + 1) = l.take i ++ [x] := by rw [List.take_add_one, h]; rfl
theorem later_len (P : Thr) (n : Nat) (w cut : List Nat) : (laterM P n w cut).length ≤ n := by
  unfold laterM
  rw [List.length_map]
  have := List.length_filter_le (mayM P n w cut) (List.range n)
  rw [List.length_range] at this
  exact this
theorem findM_len {P : Thr} {e0 : TC.Env} {n : Nat} {w last : List Nat} (R : RunOk P e0 n w last) {M : Nat} : ∀ (f pl : Nat) (sh : Shown), FOk P e0 n w pl sh → pl + mea P n (sh.drop pl) ≤ M → (findM P (laterM P n w) f pl sh).length ≤ M := by
  intro f
  induction f with
  | zero =>
    intro pl sh F h
    have := mea_len (P := P) (n := n) (sh.drop pl)
    rw [List.length_drop] at this
    show sh.length ≤ M
    omega
  | succ f ih =>
    intro pl sh F h
    unfold findM
    cases q : sh[pl]? with
    | none =>
      have : sh.length ≤ pl := List.getElem?_eq_none_iff.mp q
      show sh.length ≤ M
      omega
    | some ce =>
      obtain ⟨F', hm⟩ := F.step R q
      exact ih _ _ F' (by omega)
theorem found_len {H : Hp} {x : V} {e0 : TC.Env} {Th : Thr} {ws : List Nat} (hp : PW H x e0 Th) (h : okw Th e0 (zeroL Th.length) ws = true) : (foundM Th e0 Th.length ws).length ≤ 4096 := by
  have hM0 : (Th.length + 1) ^ remL Th (zeroL Th.length) ≤ 4096 := pow_bound hp.n3 (Nat.le_trans (remL_le hp.l2) (by have := hp.n3; omega))
  refine findM_len (runOk_of (n := Th.length) rfl h) _ _ _ (FOk.start Th e0 Th.length ws) ?_
  show 0 + mea Th Th.length [(zeroL Th.length, e0)] ≤ _
  unfold mea; simp; exact hM0
theorem av_len {lat : Lat} {last : List Nat} {meets : List Nat → Bool} : ∀ (l f : List (List Nat)), (l.foldl (avStep lat last meets) f).length ≤ f.length + l.length
  | [], f => Nat.le_refl _
  | c :: l, f => by
    rw [List.foldl_cons]
    refine Nat.le_trans (av_len l _) ?_
    have : (avStep lat last meets f c).length ≤ f.length + 1 := by
      unfold avStep insK
      split
      · split
        · omega
        · simp
      · omega
    rw [List.length_cons]; omega
section
variable {P : Program} {w : World} {K : PySem.W.Frag} {mg : Str → Option Value} {base : Heap}
abbrev CMeets (P : Program) (w : World) (K : PySem.W.Frag) (mg : Str → Option Value) (base : Heap) (C : Addr) : Prop := CalM P w K mg base C 1 "meets" ["self", "cut", "condition"] (spMeets C)
abbrev sAvoid : Stmt := inClass (tx 18) 4
abbrev nAvoid : List Str := ["self", "condition", "cut", "ends", "found", "_", "more"]
abbrev avoidS (Th : Thr) (e0 : TC.Env) (ws : List Nat) (c : Nat) (v : Int) : List (List Nat) := avoidM (laterM Th Th.length ws) (lastM Th.length ws) (meetsM Th e0 Th.length ws c v) (keysM (foundM Th e0 Th.length ws))
def spAvoid (C Pa Pb : Addr) : Sp := fun vs H Q _ => ∃ x z e0 Th ws c v, vs = [x, z] ∧ CuF C H x e0 Th ws ∧ Tu H z [.str (nm c), .int v] ∧ c ∈ dom e0 ∧ GxR.TabG H Pa ∧ GxR.TabG H Pb ∧
  ∀ H' p, Ext H H' → H' p = some (.dT (avK (avoidS Th e0 ws c v))) → Q (.ref p) H'
theorem scAvoid : FnScope nAvoid ["self", "condition"] (defScope sAvoid) := ⟨rfl, rfl, rfl, by decide +kernel, rfl, by decide +kernel, by decide +kernel⟩
theorem ok_avoid {f c C Pa Pb : Addr} {fd : FuncData} (F : FunC K "avoiding" "Cuts.avoiding" sAvoid f fd c) (TB : GxR.TabB base mg c Pb) (B : Bt mg) (ck : CK K C) (c1 : CLater P w K mg base C Pa) (c2 : CMeets P w K mg base C) : FnOk P w K mg base CX0 3 f fd ["self", "condition"] (spAvoid C Pa Pb) := by
  refine F.ok scAvoid (fun vs H Q E h => ?_) (fun A outer s H vs Q E hr h => ?_)
  · obtain ⟨x, z, e0, Th, ws, c, v, rfl, _⟩ := h
    rfl
  · obtain ⟨x, z, e0, Th, ws, c, v, rfl, cf, hz, hc, tab, tbb, q⟩ := h
    refine ⟨_, pss_cons (ps_set (i := 4) scAvoid.nd rfl (Or.inr rfl) pe_dnewT)
      (pss_cons (ps_for PassesOwn.never rfl (pi_list (pe_revL (pe_fldR (pv 0)))) (pg_name (i := 2) scAvoid.nd rfl (.inl rfl))
        (pss_cons (ps_set (i := 3) scAvoid.nd rfl (Or.inl rfl) (pe_or (pe_cmpR (op_eqD (hu64 hr)) (pv 2) (pe_fldR (pv 0)) (nomark _)) (pe_one (GX.pe_anyG (own := [("_", 5), ("more", 6)]) (g := gTup K 2 (gCons (gName 5) (gCons (gName 6) gNil))) (tt := tYes) (te := tDIn (tVar 6) (tVar 4)) (k := 1) rfl (hr.mono (by decide)) TB rfl scAvoid.nd (by rfl) B.any
            (pi_list (pe_mcal c1 ck.cl (hr.mono (by decide)) (pv 0) (pa_cons (pv 2) pa_nil))) (blkOk_by (N := nAvoid) (sc := defScope sAvoid) (by decide +kernel)) rfl (by decide +kernel) (by decide +kernel)
            (fun _ _ _ _ _ _ _ _ _ => pg_tup rfl (pgs_cons (pg_name (i := 5) scAvoid.nd rfl (.inl rfl)) (pgs_cons (pg_name (i := 6) scAvoid.nd rfl (.inl rfl)) pgs_nil))) (fun _ _ _ _ _ _ _ _ _ => pts_nil) (fun _ _ _ _ _ _ _ _ hrw => pe_cmp (pc_din (hu_of (hrw.deeper _)) (pv 6) (pv 4)))))))
        (pss_one (ps_if (PW.pt (pw_and (pt_val (pv 3)) (pw_and1 (pt_not (pt_val (pe_mcal c2 ck.cl (hr.mono (by decide)) (pv 0) (pa_cons (pv 2) (pa_cons (pv 1) pa_nil))))))))
          (pss_one (ps_dput (hu_of hr) (pv 4) (pv 2) pe_bl rfl)) pss_nil))))
      (pss_one (ps_ret (pv 4)))), ?_⟩
    simp only [tVar, tC, tOp, tUn, tTest, tChain, tNil, tCons, tTup, tLst, tCall, tMake, tCB, tIf, tAndV, tOrV, tNotV, tIsN, tNotN, tB, tAnd, tOr, tNot, tNext, tSeq, tDrop, tRet, tRetN, tIfS, tNever, gName, gNil, gCons, gSub, tAsg, tAug, tAugS, ipI, tBM, tBM0, tSl, tNoPart, tPart, tDGet, tDIn, tDNotIn, tDGet1, sDPut, tMth, tDNewT, tDNewK, tYes, rI0, rI, rU, rAdd, rSub, rEq, rNe, L2.start, List.map_cons, List.map_nil, List.length_cons, List.length_nil, List.replicate, List.append_nil, List.nil_append, List.cons_append, List.getElem?_cons_zero, List.getElem?_cons_succ, List.set_cons_zero, List.set_cons_succ, Option.some.injEq, V.int.injEq, V.bl.injEq, V.ref.injEq, V.str.injEq, exists_eq_left', exists_eq_left, exists_and_left, true_and, and_true, Nat.reduceAdd, Nat.reduceSub, Nat.add_one_sub_one, Nat.sub_self, Bool.true_eq_false, Bool.false_eq_true, if_true, if_false, ite_true, ite_false, cxOf, Cx.nox, decide_eq_true_eq, reduceCtorEq, decide_false, decide_true, Bool.not_false, Bool.not_true, eq_self, upd_same, L2.upd_upd, List.cons.injEq, and_assoc]
    intro p np
    obtain ⟨nu, Pr, cl, la, fi, s1, o1, kvs, os, cu, hs, hS, ho, hO⟩ := id cf.ex
    have n3 := cu.prog.n3
    have hfl := found_len cu.prog cu.ok
    have e1 : Ext H (upd H p (.dT [])) := Ext.new np
    have hp1 : upd H p (.dT []) p = some (.dT []) := upd_same
    generalize upd H p (.dT []) = H1 at *
    refine for_lstC (fun a xs H2 => Ext H1 H2 ∧ H1 a = none ∧ xs = os.reverse ∧ H2 a = some (.lst xs)) (fun R h => ?_) ?_
    · unfold tRevL
      simp only [tVar, tC, tOp, tUn, tTest, tChain, tNil, tCons, tTup, tLst, tCall, tMake, tCB, tIf, tAndV, tOrV, tNotV, tIsN, tNotN, tB, tAnd, tOr, tNot, tNext, tSeq, tDrop, tRet, tRetN, tIfS, tNever, gName, gNil, gCons, gSub, tAsg, tAug, tAugS, ipI, tBM, tBM0, tSl, tNoPart, tPart, tDGet, tDIn, tDNotIn, tDGet1, sDPut, tMth, tDNewT, tDNewK, tYes, rI0, rI, rU, rAdd, rSub, rEq, rNe, L2.start, List.map_cons, List.map_nil, List.length_cons, List.length_nil, List.replicate, List.append_nil, List.nil_append, List.cons_append, List.getElem?_cons_zero, List.getElem?_cons_succ, List.set_cons_zero, List.set_cons_succ, Option.some.injEq, V.int.injEq, V.bl.injEq, V.ref.injEq, V.str.injEq, exists_eq_left', exists_eq_left, exists_and_left, true_and, and_true, Nat.reduceAdd, Nat.reduceSub, Nat.add_one_sub_one, Nat.sub_self, Bool.true_eq_false, Bool.false_eq_true, if_true, if_false, ite_true, ite_false, cxOf, Cx.nox, decide_eq_true_eq, reduceCtorEq, decide_false, decide_true, Bool.not_false, Bool.not_true, eq_self, upd_same, L2.upd_upd, List.cons.injEq, and_assoc]
      exact (cu.ext e1).f_order ck ⟨o1, rfl, os, SqL.of (e1.1 _ _ ho (by simp)), fun l nl => h l _ _ ⟨Ext.new nl, nl, rfl, upd_same⟩⟩
    · rintro a xs H2 ⟨e2, na, rfl, ha⟩
      have nap : a ≠ p := fun z => by rw [z, hp1] at na; cases na
      have hp2 := e2.1 _ _ hp1 (by simp)
      have eb : Ext H (del p H2) := (e1.trans e2).todel np
      have ha2 : del p H2 a = some (.lst os.reverse) := by rw [del_ne nap]; exact ha
      have hbn : del p H2 p = none := del_same
      have exB : Ext (del p H2) H2 := Ext.del
      generalize del p H2 = Hb at *
      have hor : (os.reverse).length = (keysM (foundM Th e0 Th.length ws)).length := by rw [List.length_reverse, hO.1]
      refine ⟨ha, fun i σ' H' => ∃ ct en, σ' = [some x, some z, ct, en, some (.ref p), none, none] ∧ Ext Hb H' ∧ H' p = some (.dT (avK (((keysM (foundM Th e0 Th.length ws)).reverse.take i).foldl (avStep (laterM Th Th.length ws) (lastM Th.length ws) (meetsM Th e0 Th.length ws c v)) []))),
        ⟨none, none, rfl, exB, hp2⟩, fun i σ' H' ⟨_, _, _, e, _⟩ => e.1 _ _ ha2 (by simp), ?_, ?_⟩
      · rintro i it σ' H' hi ⟨ct, en, rfl, e3, hp3⟩
        obtain ⟨cut, hcut, hct⟩ := hO.reverse.2 i it hi
        have hcm : cut ∈ keysM (foundM Th e0 Th.length ws) := List.mem_reverse.mp (List.mem_of_getElem? hcut)
        have hcl := (found_dom cu.ok hcm).2
        have e03 := eb.trans e3
        have htk : ((keysM (foundM Th e0 Th.length ws)).reverse.take (i + 1)) = ((keysM (foundM Th e0 Th.length ws)).reverse.take i) ++ [cut] := take_g hcut
        simp only [htk, List.foldl_append, List.foldl_cons, List.foldl_nil]
        have hzl : (((keysM (foundM Th e0 Th.length ws)).reverse.take i).foldl (avStep (laterM Th Th.length ws) (lastM Th.length ws) (meetsM Th e0 Th.length ws c v)) []).length ≤ 4096 := by
          have := av_len (lat := laterM Th Th.length ws) (last := lastM Th.length ws) (meets := meetsM Th e0 Th.length ws c v) ((keysM (foundM Th e0 Th.length ws)).reverse.take i) []
          rw [List.length_take, List.length_reverse] at this
          have : (keysM (foundM Th e0 Th.length ws)).length = (foundM Th e0 Th.length ws).length := List.length_map ..
          simp only [List.length_nil] at *
          omega
        generalize ((keysM (foundM Th e0 Th.length ws)).reverse.take i).foldl (avStep (laterM Th Th.length ws) (lastM Th.length ws) (meetsM Th e0 Th.length ws c v)) [] = fd0 at *
        show tSeq _ _ _ _ _
        refine asg_C (fun y H4 => Ext H' H4 ∧ y = V.bl (decide (cut = lastM Th.length ws) || (laterM Th Th.length ws cut).any fun r => decide (r.2 ∈ fd0))) (fun R h => ?_) ?_
        · simp only [tVar, tC, tOp, tUn, tTest, tChain, tNil, tCons, tTup, tLst, tCall, tMake, tCB, tIf, tAndV, tOrV, tNotV, tIsN, tNotN, tB, tAnd, tOr, tNot, tNext, tSeq, tDrop, tRet, tRetN, tIfS, tNever, gName, gNil, gCons, gSub, tAsg, tAug, tAugS, ipI, tBM, tBM0, tSl, tNoPart, tPart, tDGet, tDIn, tDNotIn, tDGet1, sDPut, tMth, tDNewT, tDNewK, tYes, rI0, rI, rU, rAdd, rSub, rEq, rNe, L2.start, List.map_cons, List.map_nil, List.length_cons, List.length_nil, List.replicate, List.append_nil, List.nil_append, List.cons_append, List.getElem?_cons_zero, List.getElem?_cons_succ, List.set_cons_zero, List.set_cons_succ, Option.some.injEq, V.int.injEq, V.bl.injEq, V.ref.injEq, V.str.injEq, exists_eq_left', exists_eq_left, exists_and_left, true_and, and_true, Nat.reduceAdd, Nat.reduceSub, Nat.add_one_sub_one, Nat.sub_self, Bool.true_eq_false, Bool.false_eq_true, if_true, if_false, ite_true, ite_false, cxOf, Cx.nox, decide_eq_true_eq, reduceCtorEq, decide_false, decide_true, Bool.not_false, Bool.not_true, eq_self, upd_same, L2.upd_upd, List.cons.injEq, and_assoc]
          refine (cu.ext e03).f_last ck (eq_N (hct.ext e03) (cu.ext e03).last ⟨_, rfl, ?_⟩)
          by_cases hla : cut = lastM Th.length ws
          · rw [if_pos (decide_eq_true hla)]
            exact h _ _ ⟨Ext.refl _, by rw [decide_eq_true hla]; rfl⟩
          · rw [if_neg (by simpa using hla)]
            have hb0 : decide (cut = lastM Th.length ws) = false := decide_eq_false hla
            simp only [hb0, Bool.false_or] at h
            refine anyG_lC (K := K) (fun a xs H1 => Ext H' H1 ∧ H' a = none ∧ A2 (LaRow H1) xs (laterM Th Th.length ws cut)) (fun R h => ?_) ?_
            · unfold iList
              simp only [tVar, tC, tOp, tUn, tTest, tChain, tNil, tCons, tTup, tLst, tCall, tMake, tCB, tIf, tAndV, tOrV, tNotV, tIsN, tNotN, tB, tAnd, tOr, tNot, tNext, tSeq, tDrop, tRet, tRetN, tIfS, tNever, gName, gNil, gCons, gSub, tAsg, tAug, tAugS, ipI, tBM, tBM0, tSl, tNoPart, tPart, tDGet, tDIn, tDNotIn, tDGet1, sDPut, tMth, tDNewT, tDNewK, tYes, rI0, rI, rU, rAdd, rSub, rEq, rNe, L2.start, List.map_cons, List.map_nil, List.length_cons, List.length_nil, List.replicate, List.append_nil, List.nil_append, List.cons_append, List.getElem?_cons_zero, List.getElem?_cons_succ, List.set_cons_zero, List.set_cons_succ, Option.some.injEq, V.int.injEq, V.bl.injEq, V.ref.injEq, V.str.injEq, exists_eq_left', exists_eq_left, exists_and_left, true_and, and_true, Nat.reduceAdd, Nat.reduceSub, Nat.add_one_sub_one, Nat.sub_self, Bool.true_eq_false, Bool.false_eq_true, if_true, if_false, ite_true, ite_false, cxOf, Cx.nox, decide_eq_true_eq, reduceCtorEq, decide_false, decide_true, Bool.not_false, Bool.not_true, eq_self, upd_same, L2.upd_upd, List.cons.injEq, and_assoc]
              exact (cu.ext e03).mth ⟨x, it, e0, Th, ws, nu, Pr, cl, la, fi, .ref s1, .ref o1, cut, rfl, cu.ext e03, hct.ext e03, hcl, e03.2.tab tab, fun H1 a its e na ha hA => ⟨a, rfl, ⟨_, SqL.of ha⟩, h a its H1 ⟨e, na, hA⟩ ha⟩⟩
            · rintro b bs H4 ⟨e4, nb, hB⟩ hb
              refine ⟨(e03.trans e4).2.tab tbb, fun j ys Hj => Ext H4 Hj ∧ ys.length = j ∧ ((laterM Th Th.length ws cut).take j).any (fun r => decide (r.2 ∈ fd0)) = false, fun H5 e5 => ⟨e5, rfl, rfl⟩, fun j ys Hj ⟨e, _⟩ => e.1 _ _ hb (by simp), ?_, ?_⟩
              · rintro j xx ys Hj hj ⟨ej, hyl, hall⟩
                obtain ⟨r, hr1, mv, hr2, hr3⟩ := hB.2 j xx hj
                obtain ⟨t, mc⟩ := r
                refine tu_tgt (hr2.ext ej) ?_
                simp only [tVar, tC, tOp, tUn, tTest, tChain, tNil, tCons, tTup, tLst, tCall, tMake, tCB, tIf, tAndV, tOrV, tNotV, tIsN, tNotN, tB, tAnd, tOr, tNot, tNext, tSeq, tDrop, tRet, tRetN, tIfS, tNever, gName, gNil, gCons, gSub, tAsg, tAug, tAugS, ipI, tBM, tBM0, tSl, tNoPart, tPart, tDGet, tDIn, tDNotIn, tDGet1, sDPut, tMth, tDNewT, tDNewK, tYes, rI0, rI, rU, rAdd, rSub, rEq, rNe, L2.start, List.map_cons, List.map_nil, List.length_cons, List.length_nil, List.replicate, List.append_nil, List.nil_append, List.cons_append, List.getElem?_cons_zero, List.getElem?_cons_succ, List.set_cons_zero, List.set_cons_succ, Option.some.injEq, V.int.injEq, V.bl.injEq, V.ref.injEq, V.str.injEq, exists_eq_left', exists_eq_left, exists_and_left, true_and, and_true, Nat.reduceAdd, Nat.reduceSub, Nat.add_one_sub_one, Nat.sub_self, Bool.true_eq_false, Bool.false_eq_true, if_true, if_false, ite_true, ite_false, cxOf, Cx.nox, decide_eq_true_eq, reduceCtorEq, decide_false, decide_true, Bool.not_false, Bool.not_true, eq_self, upd_same, L2.upd_upd, List.cons.injEq, and_assoc, wipe]
                obtain ⟨ma, rfl, hma⟩ := hr3.kp ej.kp
                have hpj : Hj p = some (.dT (avK fd0)) := (e4.trans ej).1 _ _ hp3 (by simp)
                refine ⟨_, DGet.t (k := ckey mc) hpj (by rw [ckey_tup]; exact hma), ?_⟩
                rw [avK_val]
                have htk : (laterM Th Th.length ws cut).take (j + 1) = (laterM Th Th.length ws cut).take j ++ [(t, mc)] := take_g hr1
                refine ⟨fun hb => ?_, small1000 ?_, fun hb => ⟨ej, by rw [List.length_append, hyl]; rfl, ?_⟩⟩
                · have hm : mc ∈ fd0 := by
                    by_cases q : mc ∈ fd0
                    · exact q
                    · rw [if_neg q] at hb; cases hb
                  refine h _ _ ⟨e4.trans ej, ?_⟩
                  have : ((laterM Th Th.length ws cut).any fun r => decide (r.2 ∈ fd0)) = true := List.any_eq_true.mpr ⟨(t, mc), List.mem_of_getElem? hr1, decide_eq_true hm⟩
                  rw [this]
                · have h3 : (laterM Th Th.length ws cut).length ≤ Th.length := later_len _ _ _ _
                  have h4 := (List.getElem?_eq_some_iff.mp hr1).1
                  omega
                · have hm : mc ∉ fd0 := fun q => by
                    rw [if_pos q] at hb; cases hb
                  rw [htk, List.any_append, hall]
                  simp [hm]
              · rintro ys Hj ⟨ej, _, hall⟩
                rw [hB.1, List.take_length] at hall
                exact h _ _ ⟨e4.trans ej, by rw [hall]⟩
        · rintro y H4 ⟨e4, rfl⟩
          simp only [tVar, tC, tOp, tUn, tTest, tChain, tNil, tCons, tTup, tLst, tCall, tMake, tCB, tIf, tAndV, tOrV, tNotV, tIsN, tNotN, tB, tAnd, tOr, tNot, tNext, tSeq, tDrop, tRet, tRetN, tIfS, tNever, gName, gNil, gCons, gSub, tAsg, tAug, tAugS, ipI, tBM, tBM0, tSl, tNoPart, tPart, tDGet, tDIn, tDNotIn, tDGet1, sDPut, tMth, tDNewT, tDNewK, tYes, rI0, rI, rU, rAdd, rSub, rEq, rNe, L2.start, List.map_cons, List.map_nil, List.length_cons, List.length_nil, List.replicate, List.append_nil, List.nil_append, List.cons_append, List.getElem?_cons_zero, List.getElem?_cons_succ, List.set_cons_zero, List.set_cons_succ, Option.some.injEq, V.int.injEq, V.bl.injEq, V.ref.injEq, V.str.injEq, exists_eq_left', exists_eq_left, exists_and_left, true_and, and_true, Nat.reduceAdd, Nat.reduceSub, Nat.add_one_sub_one, Nat.sub_self, Bool.true_eq_false, Bool.false_eq_true, if_true, if_false, ite_true, ite_false, cxOf, Cx.nox, decide_eq_true_eq, reduceCtorEq, decide_false, decide_true, Bool.not_false, Bool.not_true, eq_self, upd_same, L2.upd_upd, List.cons.injEq, and_assoc]
          have hp4 := e4.1 _ _ hp3 (by simp)
          have e04 := e03.trans e4
          have hst : avStep (laterM Th Th.length ws) (lastM Th.length ws) (meetsM Th e0 Th.length ws c v) fd0 cut = if ((decide (cut = lastM Th.length ws) || (laterM Th Th.length ws cut).any fun r => decide (r.2 ∈ fd0)) && !meetsM Th e0 Th.length ws c v cut) = true then insK fd0 cut else fd0 := rfl
          rw [hst]
          generalize (decide (cut = lastM Th.length ws) || (laterM Th Th.length ws cut).any fun r => decide (r.2 ∈ fd0)) = b
          cases b with
          | false =>
            simp only [tVar, tC, tOp, tUn, tTest, tChain, tNil, tCons, tTup, tLst, tCall, tMake, tCB, tIf, tAndV, tOrV, tNotV, tIsN, tNotN, tB, tAnd, tOr, tNot, tNext, tSeq, tDrop, tRet, tRetN, tIfS, tNever, gName, gNil, gCons, gSub, tAsg, tAug, tAugS, ipI, tBM, tBM0, tSl, tNoPart, tPart, tDGet, tDIn, tDNotIn, tDGet1, sDPut, tMth, tDNewT, tDNewK, tYes, rI0, rI, rU, rAdd, rSub, rEq, rNe, L2.start, List.map_cons, List.map_nil, List.length_cons, List.length_nil, List.replicate, List.append_nil, List.nil_append, List.cons_append, List.getElem?_cons_zero, List.getElem?_cons_succ, List.set_cons_zero, List.set_cons_succ, Option.some.injEq, V.int.injEq, V.bl.injEq, V.ref.injEq, V.str.injEq, exists_eq_left', exists_eq_left, exists_and_left, true_and, and_true, Nat.reduceAdd, Nat.reduceSub, Nat.add_one_sub_one, Nat.sub_self, Bool.true_eq_false, Bool.false_eq_true, if_true, if_false, ite_true, ite_false, cxOf, Cx.nox, decide_eq_true_eq, reduceCtorEq, decide_false, decide_true, Bool.not_false, Bool.not_true, eq_self, upd_same, L2.upd_upd, List.cons.injEq, and_assoc, Bool.false_and]
            exact ⟨e3.trans e4, hp4⟩
          | true =>
            simp only [tVar, tC, tOp, tUn, tTest, tChain, tNil, tCons, tTup, tLst, tCall, tMake, tCB, tIf, tAndV, tOrV, tNotV, tIsN, tNotN, tB, tAnd, tOr, tNot, tNext, tSeq, tDrop, tRet, tRetN, tIfS, tNever, gName, gNil, gCons, gSub, tAsg, tAug, tAugS, ipI, tBM, tBM0, tSl, tNoPart, tPart, tDGet, tDIn, tDNotIn, tDGet1, sDPut, tMth, tDNewT, tDNewK, tYes, rI0, rI, rU, rAdd, rSub, rEq, rNe, L2.start, List.map_cons, List.map_nil, List.length_cons, List.length_nil, List.replicate, List.append_nil, List.nil_append, List.cons_append, List.getElem?_cons_zero, List.getElem?_cons_succ, List.set_cons_zero, List.set_cons_succ, Option.some.injEq, V.int.injEq, V.bl.injEq, V.ref.injEq, V.str.injEq, exists_eq_left', exists_eq_left, exists_and_left, true_and, and_true, Nat.reduceAdd, Nat.reduceSub, Nat.add_one_sub_one, Nat.sub_self, Bool.true_eq_false, Bool.false_eq_true, if_true, if_false, ite_true, ite_false, cxOf, Cx.nox, decide_eq_true_eq, reduceCtorEq, decide_false, decide_true, Bool.not_false, Bool.not_true, eq_self, upd_same, L2.upd_upd, List.cons.injEq, and_assoc, Bool.true_and]
            refine (cu.ext e04).mth ⟨x, it, z, e0, Th, ws, cut, c, v, rfl, cf.ext e04, hct.ext e04, hcm, hz.ext e04, hc, _, rfl, ?_⟩
            cases hm : meetsM Th e0 Th.length ws c v cut with
            | true =>
              simp only [tVar, tC, tOp, tUn, tTest, tChain, tNil, tCons, tTup, tLst, tCall, tMake, tCB, tIf, tAndV, tOrV, tNotV, tIsN, tNotN, tB, tAnd, tOr, tNot, tNext, tSeq, tDrop, tRet, tRetN, tIfS, tNever, gName, gNil, gCons, gSub, tAsg, tAug, tAugS, ipI, tBM, tBM0, tSl, tNoPart, tPart, tDGet, tDIn, tDNotIn, tDGet1, sDPut, tMth, tDNewT, tDNewK, tYes, rI0, rI, rU, rAdd, rSub, rEq, rNe, L2.start, List.map_cons, List.map_nil, List.length_cons, List.length_nil, List.replicate, List.append_nil, List.nil_append, List.cons_append, List.getElem?_cons_zero, List.getElem?_cons_succ, List.set_cons_zero, List.set_cons_succ, Option.some.injEq, V.int.injEq, V.bl.injEq, V.ref.injEq, V.str.injEq, exists_eq_left', exists_eq_left, exists_and_left, true_and, and_true, Nat.reduceAdd, Nat.reduceSub, Nat.add_one_sub_one, Nat.sub_self, Bool.true_eq_false, Bool.false_eq_true, if_true, if_false, ite_true, ite_false, cxOf, Cx.nox, decide_eq_true_eq, reduceCtorEq, decide_false, decide_true, Bool.not_false, Bool.not_true, eq_self, upd_same, L2.upd_upd, List.cons.injEq, and_assoc]
              exact ⟨e3.trans e4, hp4⟩
            | false =>
              simp only [tVar, tC, tOp, tUn, tTest, tChain, tNil, tCons, tTup, tLst, tCall, tMake, tCB, tIf, tAndV, tOrV, tNotV, tIsN, tNotN, tB, tAnd, tOr, tNot, tNext, tSeq, tDrop, tRet, tRetN, tIfS, tNever, gName, gNil, gCons, gSub, tAsg, tAug, tAugS, ipI, tBM, tBM0, tSl, tNoPart, tPart, tDGet, tDIn, tDNotIn, tDGet1, sDPut, tMth, tDNewT, tDNewK, tYes, rI0, rI, rU, rAdd, rSub, rEq, rNe, L2.start, List.map_cons, List.map_nil, List.length_cons, List.length_nil, List.replicate, List.append_nil, List.nil_append, List.cons_append, List.getElem?_cons_zero, List.getElem?_cons_succ, List.set_cons_zero, List.set_cons_succ, Option.some.injEq, V.int.injEq, V.bl.injEq, V.ref.injEq, V.str.injEq, exists_eq_left', exists_eq_left, exists_and_left, true_and, and_true, Nat.reduceAdd, Nat.reduceSub, Nat.add_one_sub_one, Nat.sub_self, Bool.true_eq_false, Bool.false_eq_true, if_true, if_false, ite_true, ite_false, cxOf, Cx.nox, decide_eq_true_eq, reduceCtorEq, decide_false, decide_true, Bool.not_false, Bool.not_true, eq_self, upd_same, L2.upd_upd, List.cons.injEq, and_assoc]
              obtain ⟨ca, rfl, hca⟩ := hct.ext e04
              refine ⟨_, DPut.t (k := ckey cut) hp4 (by rw [ckey_tup]; exact hca) (Nat.lt_of_le_of_lt (m := 4096) (by unfold avK; rw [List.length_map]; exact hzl) (by rw [sizeLine_eq]; omega)), ?_⟩
              rw [avK_put]
              exact ⟨(e3.trans e4).upd hbn, upd_same⟩
      · rintro σ' H' ⟨ct, en, rfl, e3, hp3⟩
        simp only [tVar, tC, tOp, tUn, tTest, tChain, tNil, tCons, tTup, tLst, tCall, tMake, tCB, tIf, tAndV, tOrV, tNotV, tIsN, tNotN, tB, tAnd, tOr, tNot, tNext, tSeq, tDrop, tRet, tRetN, tIfS, tNever, gName, gNil, gCons, gSub, tAsg, tAug, tAugS, ipI, tBM, tBM0, tSl, tNoPart, tPart, tDGet, tDIn, tDNotIn, tDGet1, sDPut, tMth, tDNewT, tDNewK, tYes, rI0, rI, rU, rAdd, rSub, rEq, rNe, L2.start, List.map_cons, List.map_nil, List.length_cons, List.length_nil, List.replicate, List.append_nil, List.nil_append, List.cons_append, List.getElem?_cons_zero, List.getElem?_cons_succ, List.set_cons_zero, List.set_cons_succ, Option.some.injEq, V.int.injEq, V.bl.injEq, V.ref.injEq, V.str.injEq, exists_eq_left', exists_eq_left, exists_and_left, true_and, and_true, Nat.reduceAdd, Nat.reduceSub, Nat.add_one_sub_one, Nat.sub_self, Bool.true_eq_false, Bool.false_eq_true, if_true, if_false, ite_true, ite_false, cxOf, Cx.nox, decide_eq_true_eq, reduceCtorEq, decide_false, decide_true, Bool.not_false, Bool.not_true, eq_self, upd_same, L2.upd_upd, List.cons.injEq, and_assoc]
        refine q H' p (eb.trans e3) ?_
        rw [hp3, hor]
        rw [← List.length_reverse (as := keysM _), List.take_length]
        rfl
end
end TW

set_option maxHeartbeats 8000000
/-! TwP: min of tuples of numbers. -/
namespace TW
open PySem PySem.Spec PyProof.Rows L2
open TC hiding Step Env
open PySem.W (alike alikeAll dataLt rowLt AlikeAll minD)
theorem intsN (ns : List Nat) : ns.map (fun n : Nat => PyData.int (n : Int)) = (ns.map fun n : Nat => (n : Int)).map PyData.int := by rw [List.map_map]; rfl
theorem alike_dN (ns ms : List Nat) : alike (dN ns) (dN ms) = true := by
  unfold dN
  rw [alike, intsN, intsN]
  exact PySem.W.alike_ints _ _
theorem dataLt_dN (ns ms : List Nat) : dataLt (dN ns) (dN ms) = lexN ns ms := by
  unfold dN
  rw [PySem.W.dataLt_tuple]
  induction ns generalizing ms with
  | nil =>
    cases ms with
    | nil =>
      have := PySem.W.dataLt_ints [] []
      exact this.trans (by simp [lexN])
    | cons m ms =>
      have := PySem.W.dataLt_ints [] ((m :: ms).map fun n : Nat => (n : Int))
      rw [← intsN] at this
      exact this.trans (by simp [lexN])
  | cons n ns ih =>
    cases ms with
    | nil =>
      have := PySem.W.dataLt_ints ((n :: ns).map fun n : Nat => (n : Int)) []
      rw [← intsN] at this
      exact this.trans (by simp [lexN])
    | cons m ms =>
      rw [List.map_cons, List.map_cons, PySem.W.dataLt_cons (by simp [alike]), ih, PySem.W.dataLt_int]
      show _ = if n = m then lexN ns ms else decide (n < m)
      by_cases e : n = m
      · subst e; simp [PyData.eqv]
      · have : ((n : Int) == (m : Int)) = false := beq_eq_false_iff_ne.mpr (by omega)
        simp [PyData.eqv, this, e]
theorem minD_dN (l : List (List Nat)) : ∀ a : List Nat, minD (dN a) (l.map dN) = dN (minL a l) := by
  unfold minD minL
  induction l with
  | nil => intro a; rfl
  | cons b l ih =>
    intro a
    rw [List.map_cons, List.foldl_cons, List.foldl_cons, ← ih]
    congr 1
    rw [dataLt_dN]
    unfold min2
    by_cases h : lexN b a = true
    · rw [if_pos h, if_pos h]
    · rw [if_neg h, if_neg h]
theorem dN_inj {ns ms : List Nat} (h : dN ns = dN ms) : ns = ms := by
  have : PyData.eqv (dN ns) (dN ms) = true := by rw [h, eqv_dN]; simp
  rw [eqv_dN] at this
  exact of_decide_eq_true this
theorem alikeAll_dN (l : List (List Nat)) : AlikeAll (l.map dN) := by
  refine ⟨fun x hx y hy => ?_, fun x hx => ?_⟩
  · obtain ⟨a, _, rfl⟩ := List.mem_map.mp hx
    obtain ⟨b, _, rfl⟩ := List.mem_map.mp hy
    exact alike_dN a b
  · obtain ⟨a, _, rfl⟩ := List.mem_map.mp hx
    intro z; unfold dN at z; cases z
theorem depthAll_dN : ∀ l : List (List Nat), PyData.depthAll (l.map dN) ≤ 2
  | [] => by simp [PyData.depthAll]
  | a :: l => by
    have h1 := depthAll_dN l
    have h2 := depN a
    simp only [List.map_cons, PyData.depthAll, dN, PyData.depth]
    omega
theorem dpAllN {K : PySem.W.Frag} {H : Hp} : ∀ {xs : List V} {l : List (List Nat)}, A2 (Tn H) xs l → DpAll K H xs (l.map dN)
  | [], l, h => by
    have : l = [] := List.eq_nil_of_length_eq_zero h.1.symm
    subst this; exact .nil
  | x :: xs, [], h => by have := h.1; simp at this
  | x :: xs, b :: l, h => by
    obtain ⟨h1, h2⟩ := A2.cons h
    exact .cons (Tn.dp h1) (dpAllN h2)
/-- min(xs), of a list of tuples of numbers -/
def rMinTL (K : PySem.W.Frag) : List V → Hp → VK → Prop := fun vs H Q => ∃ a xs n0 rest, vs = [.ref a] ∧ SqL K H a xs ∧ A2 (Tn H) xs (n0 :: rest) ∧ ∀ x, Tn H x (minL n0 rest) → Q x H
theorem cr_minTL {X : Cx} (hc : X.calm = true) (hu : X.A.units + 64 < cLine) : CallR X (.builtin "min") (rMinTL X.K) := by
  intro pins s σ H vs us Q I r h
  obtain ⟨a, xs, n0, rest, rfl, hs, hA, q⟩ := h
  obtain ⟨its, rv, hl, hz⟩ := I.list hs
  rw [Vals.ref1 r]
  obtain ⟨as, hr⟩ := Dp.readsAll I _ xs its (dpAllN hA) rv
  have hd := depthAll_dN (n0 :: rest)
  refine PySem.W.min_list_data (vs := its.toArray) (x := dN n0) (xs := rest.map dN) (I.ok.hd hc) hl.isList (by simpa using hr) (alikeAll_dN (n0 :: rest)) (by rw [List.map_cons] at hd; omega) fun i v h' tk bs hv hrd hk => ?_
  have hv' : its[i]? = some v := by simpa using hv
  obtain ⟨x, hx, hxr⟩ : ∃ x, xs[i]? = some x ∧ RelV x v := by
    have hlt : i < xs.length := by rw [rv.length]; exact (List.getElem?_eq_some_iff.mp hv').1
    obtain ⟨u, h1, h2⟩ := rv.get (List.getElem?_eq_getElem hlt)
    rw [hv'] at h1; cases h1
    exact ⟨_, List.getElem?_eq_getElem hlt, h2⟩
  obtain ⟨ns, _, hT⟩ := hA.2 i x hx
  obtain ⟨cs, r1⟩ := Dp.reads I (dN ns) x v hT.dp hxr
  have e := SeqAt.Reads.unique _ _ _ _ _ (SeqAt.canLay_of_shaped (shapN ns)) (PySem.W.reads_keeps hk r1) hrd
  rw [minD_dN] at e
  exact ⟨x, H, I.kept hk, hxr, q x (by rw [← dN_inj e]; exact hT)⟩
section
variable {prog : Program} {w : World} {A : Around} {E : Value → Shared → Prop} {s : Shared}
theorem call_min_twoH {a b : Value} {Q : Value → Shared → Prop}
    (h : wpAny (model prog w) A.in1 (pyIter (.ref s.heap.objs.size)) (fun it s₂ => ∃ I fp wr G n P St H bt, it = .ref I ∧ WalksS prog w A.in1 I fp wr G n P St ∧ St 0 s₂ ∧ (∀ b ∈ fp, b < s₂.heap.objs.size) ∧ 0 < n ∧
      (∀ b o, H.get? b = some o → b ∉ wr) ∧ (∀ b o, H.get? b = some o → s₂.heap.get? b = some o) ∧ CmpIn prog w A.in1 .Lt H P bt ∧ ∀ v s', P (argBest bt (n - 1)) v → Moved wr G s₂ s' → Q v s') E
      { s with heap := s.heap.push { cls := .type "tuple", data := .seq #[a, b] } }) :
    wpAny (model prog w) A (call (.builtin "min") [a, b]) Q E s := by
  have hname : (toString "min" ++ toString ".loop" : String) = "min.loop" := by decide
  refine call_function_tree F.kind_min F.plain_min F.entry_min (F.args_min2 _ _) ?_
  show wpAny _ A.in1 (Builtin.Builtins.bindParams "min" ["key", "default"] 0 ⟨[], []⟩ >>= _) _ _ s
  refine wpAny_bind (wpAny_of_eq (show Builtin.Builtins.bindParams "min" ["key", "default"] 0 ⟨[], []⟩ = pure [none, none] from rfl) ?_)
  show wpAny _ A.in1 (newTuple [a, b] >>= _) _ _ s
  refine wpAny_bind (wpAny_newObj_type ?_)
  refine wpAny_bind (wpAny_mono h (fun it s₂ h₂ => ?_) fun _ _ e => e)
  obtain ⟨I, fp, wr, G, n, P, St, H, bt, rfl, W, hst, hfp, hn, hw, hkeep, hcmp, hQ⟩ := h₂
  refine wpAny_bind (wpAny_newObj_type ?_)
  have hSf : s₂.heap.objs.size ∉ fp := fun hm => Nat.lt_irrefl _ (hfp _ hm)
  rw [hname]
  refine wpAny_pure ⟨plainId_quiet F.plain_min_loop _, codeAny_min_loop_firstH W H hw bt hcmp s₂.heap.objs.size hSf (fresh_in hkeep) _ hn (fun b o e => Heap.get?_push_of_some _ (hkeep b o e)) (W.frame 0 s₂ _ s₂.toks hst (Nat.le_refl _) fun b _ o e => Heap.get?_push_of_some _ e) (Heap.get?_push_size _ rfl) fun v s' hP hm => ?_⟩
  exact hQ v s' hP (Moved.drop_new (tk := s₂.toks) hm (Nat.le_refl _))
theorem min_two_data {a b : Value} {x y : PyData} {as bs : List Addr} {Q : Value → Shared → Prop} (hh : A.handled = none) (ra : Reads s.heap a x as) (rb : Reads s.heap b y bs) (ha : AlikeAll [x, y]) (hu : A.units + 1 + PyData.depthAll [x, y] < cLine)
    (h : ∀ h' tk, (∀ b o, s.heap.get? b = some o → h'.get? b = some o) → Q (if dataLt y x = true then b else a) { s with heap := h', toks := tk }) :
    wpAny (model prog w) A (call (.builtin "min") [a, b]) Q E s := by
  have hT : (s.heap.push { cls := .type "tuple", data := .seq #[a, b] }).IsTuple s.heap.objs.size #[a, b] := ⟨_, Heap.get?_push_size _ rfl, rfl, 0, rfl⟩
  skip
  have hold : ∀ c o, s.heap.get? c = some o → (s.heap.push { cls := .type "tuple", data := .seq #[a, b] }).get? c = some o := fun c o e => Heap.get?_push_of_some _ e
  refine call_min_twoH (PySem.W.iter_tupleW (s := { s with heap := s.heap.push { cls := .type "tuple", data := .seq #[a, b] } }) (A := A.in1) hh hT fun s₂ e W st hfp hw hk => ?_)
  have hr : ReadsAll (s.heap.push { cls := .type "tuple", data := .seq #[a, b] }) (#[a, b] : Array Value).toList [x, y] _ := ReadsAll.cons (PySem.W.reads_keeps (fun b o e => Heap.get?_push_of_some _ e) ra) (ReadsAll.cons (PySem.W.reads_keeps (fun b o e => Heap.get?_push_of_some _ e) rb) ReadsAll.nil)
  refine ⟨_, _, _, _, _, _, _, s.heap.push { cls := .type "tuple", data := .seq #[a, b] }, _, rfl, W, st, hfp, by simp, hw, hk, PySem.W.cmpIn_lt (s := { s with heap := s.heap.push { cls := .type "tuple", data := .seq #[a, b] } }) (A := A.in1) hr ha (by show A.units + 1 + _ < _; exact hu), fun v s' hP m => ?_⟩
  obtain ⟨h', tk, rfl, hk'⟩ := PySem.W.moved_old e rfl m
  have hv : v = if dataLt y x = true then b else a := by
    have hP' : (#[a, b] : Array Value)[argBest (fun i j => dataLt ([x, y].getD i .none) ([x, y].getD j .none)) 1]? = some v := hP
    by_cases c : dataLt y x = true
    · have e : argBest (fun i j => dataLt ([x, y].getD i .none) ([x, y].getD j .none)) 1 = 1 := if_pos c
      rw [e] at hP'
      rw [if_pos c]
      simpa using hP'.symm
    · have e : argBest (fun i j => dataLt ([x, y].getD i .none) ([x, y].getD j .none)) 1 = 0 := if_neg c
      rw [e] at hP'
      rw [if_neg c]
      simpa using hP'.symm
  rw [hv]
  exact h h' tk fun b o e => hk' b o (hold b o e)
end
/-- min(x, y), of tuples of numbers -/
def rMinT2 : List V → Hp → VK → Prop := fun vs H Q => ∃ x y ns ms, vs = [x, y] ∧ Tn H x ns ∧ Tn H y ms ∧ ∀ z, Tn H z (min2 ns ms) → Q z H
theorem cr_minT2 {X : Cx} (hc : X.calm = true) (hu : X.A.units + 64 < cLine) : CallR X (.builtin "min") rMinT2 := by
  intro pins s σ H vs us Q I r h
  obtain ⟨x, y, ns, ms, rfl, hx, hy, q⟩ := h
  obtain ⟨u, u', rfl, r1, r2⟩ := vals2 r
  obtain ⟨as, g1⟩ := Dp.reads I (dN ns) x u hx.dp r1
  obtain ⟨bs, g2⟩ := Dp.reads I (dN ms) y u' hy.dp r2
  have hd := depthAll_dN [ns, ms]
  refine min_two_data (I.ok.hd hc) g1 g2 (alikeAll_dN [ns, ms]) (by rw [List.map_cons, List.map_cons, List.map_nil] at hd; omega) fun h' tk hk => ?_
  rw [dataLt_dN]
  by_cases c : lexN ms ns = true
  · rw [if_pos c]
    exact ⟨y, H, I.kept hk, r2, q y (by unfold min2; rw [if_pos c]; exact hy)⟩
  · rw [if_neg c]
    exact ⟨x, H, I.kept hk, r1, q x (by unfold min2; rw [if_neg c]; exact hx)⟩
end TW

set_option maxHeartbeats 8000000
/-! TwQ: some. -/
namespace TW
open PySem PySem.Spec PyProof.Rows L2
open TC hiding Step Env
/-- a class whose __init__ keeps a promise -/
structure CalC (P : Program) (w : World) (K : PySem.W.Frag) (mg : Str → Option Value) (base : Heap) (C : Addr) (k : Nat) (x : Str) (ps : List Str) (sp : Sp) : Prop where
  ex : ∃ f fd, mg x = some (.ref C) ∧ Mk K C f ∧ Binds K fd ps [] ∧ FnOk P w K mg base CX0 k f fd ps sp
theorem pe_calC {X : Cx} {C : Addr} {k : Nat} {x : Str} {ps : List Str} {sp : Sp} {e : Expr} {es : List Expr} {t : TA} {p pos : Pos} (c : CalC X.prog X.w X.K X.mg X.base C k x ps sp) (hr : Room (k + 1) X.A) (hg : Gl X x)
    (ha : PA X (e :: es) t) (hdb : (x == ("__debug__" : Str)) = false := by decide) (he : starEach (e :: es) X.env = (false, eval e X.env) :: starEach es X.env := by rfl) (hpl : (backTo pos (starEach es X.env)).any (·.1) = false := by rfl) :
    PE X (.Call (.Name x p) (e :: es) [] pos) (tMake C sp [] E0 t) := by
  obtain ⟨f, fd, h1, h2, h3, h4⟩ := c.ex
  exact pe_make h2 h4 hr hg h1 h3 .nil pass0 ha hdb he hpl
abbrev CCuts (P : Program) (w : World) (K : PySem.W.Frag) (mg : Str → Option Value) (base : Heap) (C Pa Pc : Addr) : Prop := CalC P w K mg base C 6 "Cuts" ["self", "program", "schedule"] (spCuts C Pa Pc)
theorem mk_cuts {C Pa Pc : Addr} {H : Hp} {x y : V} {e0 : TC.Env} {Th : Thr} {ws : List Nat} {Q : Addr → Hp → Prop} {E : XK} (hp : PW H x e0 Th) (hw : Tn H y ws) (hok : okw Th e0 (zeroL Th.length) ws = true) (ta : GxR.TabG H Pa) (tc : GxR.TabG H Pc)
    (q : ∀ a H', Ext H H' → CuF C H' (.ref a) e0 Th ws → Q a H') : ∀ (z dx : Addr), H z = none → H dx = none → dx ≠ z → spCuts C Pa Pc [V.ref z, x, y] (upd (upd H dx (.own z)) z (.ins C dx [])) (fun v H2 => v = .non ∧ Q z H2) E := by
  intro z dx nz ndx hne
  exact ⟨H, z, dx, x, y, e0, Th, ws, rfl, (Ext.new ndx).upd nz, nz, upd_same, hp, hw, hok, ta, tc, fun H' e c => ⟨rfl, q z H' e c⟩⟩

/-! ### the dict least -/
theorem A2.consI {α β : Type} {R : α → β → Prop} {x : α} {xs : List α} {b : β} {l : List β} (r : R x b) (h : A2 R xs l) : A2 R (x :: xs) (b :: l) := by
  refine ⟨by rw [List.length_cons, List.length_cons, h.1], fun i y hy => ?_⟩
  cases i with
  | zero => cases hy; exact ⟨b, rfl, r⟩
  | succ i => exact h.2 i y hy
def DT (H : Hp) (kvs : List (List Key × V)) (l : List (List Nat × List Nat)) : Prop := A2 (fun (kv : List Key × V) (cw : List Nat × List Nat) => kv.1 = ckey cw.1 ∧ Tn H kv.2 cw.2) kvs l
theorem DT.kp {H H' : Hp} {kvs : List (List Key × V)} {l : List (List Nat × List Nat)} (h : DT H kvs l) (e : Kp H H') : DT H' kvs l := h.imp fun _ _ z => ⟨z.1, Tu.kp z.2 e⟩
theorem DT.val {H : Hp} {kvs : List (List Key × V)} {l : List (List Nat × List Nat)} (h : DT H kvs l) (c : List Nat) : (l.lookup c = none → valV kvs (ckey c) = none) ∧ ∀ w, l.lookup c = some w → ∃ v, valV kvs (ckey c) = some v ∧ Tn H v w := by
  induction l generalizing kvs with
  | nil =>
    have : kvs = [] := A2.nil_right h
    subst this
    exact ⟨fun _ => rfl, fun w z => by simp at z⟩
  | cons cw l ih =>
    cases kvs with
    | nil => have := h.1; simp at this
    | cons kv kvs =>
      obtain ⟨⟨h1, h2⟩, ht⟩ := A2.cons h
      obtain ⟨c', w'⟩ := cw
      rw [List.lookup_cons]
      by_cases q : c = c'
      · subst q
        have hb : (c == c) = true := beq_self_eq_true _
        rw [hb]
        exact ⟨fun z => by simp at z, fun w z => by cases z; exact ⟨_, valV_pos h1, h2⟩⟩
      · have ne : ¬ kv.1 = ckey c := fun z => q (ckey_inj (z.symm.trans h1))
        have hb : (c == c') = false := by simpa using q
        rw [hb, valV_neg ne]
        exact ih ht
theorem putK_eq {κ : Type} [DecidableEq κ] {kv : κ × V} {kvs : List (κ × V)} {k : κ} {v : V} (e : kv.1 = k) (h : ∀ p ∈ kvs, p.1 ≠ k) : putK (kv :: kvs) k v = (kv.1, v) :: kvs := by
  unfold putK
  rw [if_pos (by simp [e]), List.map_cons, if_pos e]
  congr 1
  induction kvs with
  | nil => rfl
  | cons p l ih =>
    rw [List.map_cons, if_neg (h p List.mem_cons_self), ih fun q hq => h q (List.mem_cons_of_mem _ hq)]
theorem putK_ne {κ : Type} [DecidableEq κ] {kv : κ × V} {kvs : List (κ × V)} {k : κ} {v : V} (e : ¬ kv.1 = k) : putK (kv :: kvs) k v = kv :: putK kvs k v := by
  unfold putK
  rw [List.any_cons, decide_eq_false e, Bool.false_or]
  by_cases q : (kvs.any fun kv => decide (kv.1 = k)) = true
  · rw [if_pos q, if_pos q, List.map_cons, if_neg e]
  · rw [if_neg q, if_neg q]; rfl
theorem DT.put {H : Hp} {kvs : List (List Key × V)} {l : List (List Nat × List Nat)} {c w : List Nat} {v : V} (h : DT H kvs l) (nd : (l.map (·.1)).Nodup) (hv : Tn H v w) : DT H (putK kvs (ckey c) v) (putM l c w) := by
  induction l generalizing kvs with
  | nil =>
    have : kvs = [] := A2.nil_right h
    subst this
    exact A2.consI ⟨rfl, hv⟩ A2.nil
  | cons cw l ih =>
    cases kvs with
    | nil => have := h.1; simp at this
    | cons kv kvs =>
      obtain ⟨⟨h1, h2⟩, ht⟩ := A2.cons h
      obtain ⟨c', w'⟩ := cw
      rw [List.map_cons, List.nodup_cons] at nd
      unfold putM
      by_cases q : c' = c
      · subst q
        rw [if_pos rfl, putK_eq h1]
        · exact A2.consI ⟨h1, hv⟩ ht
        · intro p hp z
          obtain ⟨i, hi, e⟩ := List.mem_iff_getElem.mp hp
          obtain ⟨b, hb, hb1, _⟩ := ht.2 i p (by rw [List.getElem?_eq_getElem hi, e])
          have : b.1 = c' := ckey_inj (hb1.symm.trans z)
          exact nd.1 (List.mem_map.mpr ⟨b, List.mem_of_getElem? hb, this⟩)
      · have ne : ¬ kv.1 = ckey c := fun z => q (ckey_inj (h1.symm.trans z))
        rw [if_neg q, putK_ne ne]
        exact A2.consI ⟨h1, h2⟩ (ih ht nd.2)
theorem putM_nodup {k v : List Nat} : ∀ {l : List (List Nat × List Nat)}, (l.map (·.1)).Nodup → ((putM l k v).map (·.1)).Nodup
  | [], _ => by simp [putM]
  | (a, b) :: l, h => by
    rw [List.map_cons, List.nodup_cons] at h
    unfold putM
    by_cases e : a = k
    · rw [if_pos e, List.map_cons, List.nodup_cons]; exact h
    · rw [if_neg e, List.map_cons, List.nodup_cons]
      refine ⟨fun z => ?_, putM_nodup h.2⟩
      rcases mem_putM.mp z with z | z
      · exact h.1 z
      · exact e z
theorem putM_len {k v : List Nat} : ∀ l : List (List Nat × List Nat), (putM l k v).length ≤ l.length + 1
  | [] => Nat.le_refl _
  | (a, b) :: l => by
    have := putM_len (k := k) (v := v) l
    unfold putM
    split
    · simp
    · simp only [List.length_cons]; omega
theorem putM_mem {k v : List Nat} {p : List Nat × List Nat} : ∀ {l : List (List Nat × List Nat)}, p ∈ putM l k v → p ∈ l ∨ p = (k, v)
  | [], h => .inr (by simpa [putM] using h)
  | (a, b) :: l, h => by
    unfold putM at h
    by_cases e : a = k
    · rw [if_pos e] at h
      rcases List.mem_cons.mp h with z | z
      · exact .inr (by rw [z, e])
      · exact .inl (List.mem_cons_of_mem _ z)
    · rw [if_neg e] at h
      rcases List.mem_cons.mp h with z | z
      · exact .inl (by rw [z]; exact List.mem_cons_self)
      · exact (putM_mem z).imp (List.mem_cons_of_mem _) id
theorem lookup_in {l : List (List Nat × List Nat)} {k v : List Nat} (h : l.lookup k = some v) : (k, v) ∈ l := by
  induction l with
  | nil => simp at h
  | cons a l ih =>
    obtain ⟨c, e⟩ := a
    rw [List.lookup_cons] at h
    cases q : k == c with
    | true =>
      have : k = c := by simpa using q
      subst this
      rw [q] at h; cases h
      exact List.mem_cons_self
    | false =>
      rw [q] at h
      exact List.mem_cons_of_mem _ (ih h)
theorem lookup_nd : ∀ {l : List (List Nat × List Nat)} {k v : List Nat}, (l.map (·.1)).Nodup → (k, v) ∈ l → l.lookup k = some v
  | [], _, _, _, h => by cases h
  | (a, b) :: l, k, v, nd, h => by
    rw [List.map_cons, List.nodup_cons] at nd
    rw [List.lookup_cons]
    rcases List.mem_cons.mp h with z | z
    · cases z; simp
    · have hne : ¬ k = a := fun e => nd.1 (by rw [← e]; exact List.mem_map.mpr ⟨_, z, rfl⟩)
      have hb : (k == a) = false := by simpa using hne
      rw [hb]
      exact lookup_nd nd.2 z
theorem valV_nd {H : Hp} {kvs : List (List Key × V)} {l : List (List Nat × List Nat)} (h : DT H kvs l) (nd : (l.map (·.1)).Nodup) {j : Nat} {c : List Nat} {v : V} (hj : kvs[j]? = some (ckey c, v)) : valV kvs (ckey c) = some v := by
  induction kvs generalizing l j with
  | nil => simp at hj
  | cons kv kvs ih =>
    cases l with
    | nil => have := h.1; simp at this
    | cons cw l =>
      obtain ⟨⟨h1, h2⟩, ht⟩ := A2.cons h
      rw [List.map_cons, List.nodup_cons] at nd
      cases j with
      | zero => cases hj; exact valV_pos rfl
      | succ j =>
        obtain ⟨b, hb, hb1, _⟩ := ht.2 j (ckey c, v) hj
        have hbc : b.1 = c := (ckey_inj hb1).symm
        have ne : ¬ kv.1 = ckey c := fun z => nd.1 (by
          have : cw.1 = c := ckey_inj (h1.symm.trans z)
          rw [this, ← hbc]
          exact List.mem_map.mpr ⟨b, List.mem_of_getElem? hb, rfl⟩)
        rw [valV_neg ne]
        exact ih ht nd.2 hj
/-- what holds of the dict least while it is built -/
structure LOk (i : Nat) (l : List (List Nat × List Nat)) : Prop where
  nd : (l.map (·.1)).Nodup
  len : ∀ p ∈ l, p.2.length = i
theorem min2_len {a b : List Nat} {i : Nat} (ha : a.length = i) (hb : b.length = i) : (min2 a b).length = i := by
  unfold min2
  split
  · exact hb
  · exact ha
theorem LOk.get {i : Nat} {l : List (List Nat × List Nat)} (h : LOk i l) {k d : List Nat} (hd : d.length = i) : ((l.lookup k).getD d).length = i := by
  cases q : l.lookup k with
  | none => exact hd
  | some v => exact h.len _ (lookup_in q)
theorem LOk.step {i : Nat} {l : List (List Nat × List Nat)} {way : List Nat} (h : LOk (i + 1) l) (hw : way.length = i) (r : Nat × List Nat) : LOk (i + 1) (lessStep way l r) ∧ (lessStep way l r).length ≤ l.length + 1 := by
  have h1 : (way ++ [r.1]).length = i + 1 := by rw [List.length_append, hw]; rfl
  unfold lessStep
  refine ⟨⟨putM_nodup h.nd, fun p hp => ?_⟩, putM_len _⟩
  rcases putM_mem hp with z | z
  · exact h.len p z
  · rw [z]; exact min2_len (h.get h1) h1
theorem LOk.fold {i : Nat} {way : List Nat} (hw : way.length = i) : ∀ (rs : List (Nat × List Nat)) (l : List (List Nat × List Nat)), LOk (i + 1) l → LOk (i + 1) (rs.foldl (lessStep way) l) ∧ (rs.foldl (lessStep way) l).length ≤ l.length + rs.length
  | [], l, h => ⟨h, Nat.le_refl _⟩
  | r :: rs, l, h => by
    obtain ⟨h1, h2⟩ := h.step hw r
    obtain ⟨h3, h4⟩ := LOk.fold hw rs _ h1
    rw [List.foldl_cons]
    exact ⟨h3, by rw [List.length_cons]; omega⟩
theorem LOk.fold2 {i n : Nat} {lat : Lat} (hl : ∀ c, (lat c).length ≤ n) : ∀ (lv : Lvl) (l : List (List Nat × List Nat)), (∀ wc ∈ lv, wc.1.length = i) → LOk (i + 1) l →
    LOk (i + 1) (lv.foldl (fun least wc => (lat wc.2).foldl (lessStep wc.1) least) l) ∧ (lv.foldl (fun least wc => (lat wc.2).foldl (lessStep wc.1) least) l).length ≤ l.length + n * lv.length
  | [], l, _, h => ⟨h, Nat.le_refl _⟩
  | wc :: lv, l, hw, h => by
    obtain ⟨h1, h2⟩ := LOk.fold (hw wc List.mem_cons_self) (lat wc.2) l h
    obtain ⟨h3, h4⟩ := LOk.fold2 hl lv _ (fun x hx => hw x (List.mem_cons_of_mem _ hx)) h1
    have := hl wc.2
    rw [List.foldl_cons]
    refine ⟨h3, ?_⟩
    rw [List.length_cons, Nat.mul_succ]; omega
theorem later_rem {Th : Thr} {e0 : TC.Env} {ws : List Nat} (hok : okw Th e0 (zeroL Th.length) ws = true) {c : List Nat} (hc : c ∈ keysM (foundM Th e0 Th.length ws)) {r : Nat × List Nat} (hr : r ∈ laterM Th Th.length ws c) :
    r.2 ∈ keysM (foundM Th e0 Th.length ws) ∧ remL Th r.2 + 1 = remL Th c ∧ r.1 < Th.length ∧ r.2 = inc c r.1 ∧ c.length = Th.length := by
  have R := runOk_of (n := Th.length) rfl hok
  obtain ⟨ce, hce, rfl⟩ := List.mem_map.mp hc
  obtain ⟨x, v, a, _⟩ := (found_ok R).at' ce hce
  obtain ⟨q1, q2⟩ := (R.mem_later a).mp hr
  obtain ⟨ht, s, hs⟩ := a.bump_lt R q1
  exact ⟨keys_clo R _ hc r hr, by rw [q2]; exact rem_inc a.len hs, ht, q2, a.len⟩
/-- rows of a level -/
def LvRow (H : Hp) (x : V) (wc : List Nat × List Nat) : Prop := ∃ a b, Tu H x [a, b] ∧ Tn H a wc.1 ∧ Tn H b wc.2
theorem LvRow.kp {H H' : Hp} {x : V} {r : List Nat × List Nat} (h : LvRow H x r) (e : Kp H H') : LvRow H' x r := by
  obtain ⟨a, b, h1, h2, h3⟩ := h
  exact ⟨a, b, h1.kp e, Tu.kp h2 e, Tu.kp h3 e⟩
section
variable {P : Program} {w : World} {K : PySem.W.Frag} {mg : Str → Option Value} {base : Heap}
abbrev CAvoid (P : Program) (w : World) (K : PySem.W.Frag) (mg : Str → Option Value) (base : Heap) (C Pa Pb : Addr) : Prop := CalM P w K mg base C 3 "avoiding" ["self", "condition"] (spAvoid C Pa Pb)
abbrev sSome : Stmt := tx 19
abbrev nSome : List Str := ["program", "schedule", "condition", "found", "level", "meeting", "least", "way", "cut", "thread", "more"]
def OptN (H : Hp) (x : V) : Option (List Nat) → Prop
  | none => x = .non
  | some l => Tn H x l
def spSome (Pa Pc : Addr) : Sp := fun vs H Q _ => ∃ x y z e0 Th ws c v, vs = [x, y, z] ∧ PW H x e0 Th ∧ Tn H y ws ∧ okw Th e0 (zeroL Th.length) ws = true ∧ Tu H z [.str (nm c), .int v] ∧ c ∈ dom e0 ∧ GxR.TabG H Pa ∧ GxR.TabG H Pc ∧
  ∀ r H', Ext H H' → OptN H' r (someR Th e0 Th.length ws c v) → Q r H'
def SomeI (H0 : Hp) (x y z : V) (a : Addr) (e0 : TC.Env) (Th : Thr) (ws : List Nat) (c : Nat) (v : Int) (m : Nat) (σ' : L2.St) (H' : Hp) : Prop :=
  ∃ i level l xs v5 v6 v7 v8 v9 v10, σ' = [some x, some y, some z, some (.ref a), some (.ref l), v5, v6, v7, v8, v9, v10] ∧ Ext H0 H' ∧ H' l = some (.lst xs) ∧ A2 (LvRow H') xs level ∧ i + m = remL Th (zeroL Th.length) + 2 ∧
    someM (laterM Th Th.length ws) (meetsM Th e0 Th.length ws c v) m level = someR Th e0 Th.length ws c v ∧ level.length ≤ 3 ^ i ∧ ∀ wc ∈ level, wc.1.length = i ∧ wc.2 ∈ keysM (foundM Th e0 Th.length ws) ∧ remL Th wc.2 + i = remL Th (zeroL Th.length)
theorem scSome : FnScope nSome ["program", "schedule", "condition"] (defScope sSome) := ⟨rfl, rfl, rfl, by decide +kernel, rfl, by decide +kernel, by decide +kernel⟩
theorem ok_some {f C Pa Pc : Addr} {fd : FuncData} (F : Fun K "some" "some" sSome f fd) (B : Bt mg) (ck : CK K C) (c0 : CCuts P w K mg base C Pa Pc) (c1 : CLater P w K mg base C Pa) (c2 : CMeets P w K mg base C) : FnOk P w K mg base CX0 8 f fd ["program", "schedule", "condition"] (spSome Pa Pc) := by
  refine F.ok scSome (fun vs H Q E h => ?_) (fun cdv A outer s H vs Q E hr h => ?_)
  · obtain ⟨x, y, z, e0, Th, ws, c, v, rfl, _⟩ := h
    rfl
  · obtain ⟨x, y, z, e0, Th, ws, c, v, rfl, hp, hw, hok, hz, hc, ta, tc, q⟩ := h
    have hr1 : Room 1 _ := hr.mono (by decide)
    refine ⟨_, pss_cons (ps_set (i := 3) scSome.nd rfl (Or.inr rfl) (pe_calC c0 hr rfl (pa_cons (pv 0) (pa_cons (pv 1) pa_nil))))
      (pss_cons (ps_set (i := 4) scSome.nd rfl (Or.inl rfl) (pe_lst (pa_cons (pe_tup (pa_cons (pe_tup pa_nil) (pa_cons (pe_fldR (pv 3)) pa_nil))) pa_nil)))
      (pss_cons (ps_while PassesOwn.never (pt_truth (pv 4) (fun _ => rfl))
        (pss_cons (ps_setLc (i := 5) (own := [("way", 7), ("cut", 8)]) (g := gTup K 2 (gCons (gName 7) (gCons (gName 8) gNil))) (tt := tB (tMth C "meets" (spMeets C) (tVar 3) (tCons (tVar 8) (tCons (tVar 2) tNil)))) (te := tVar 7) rfl scSome.nd rfl rfl (sw_true rfl rfl rfl (by decide +kernel)) (pi_list (pv 4)) (blkOk_by (N := nSome) (sc := defScope sSome) (by decide +kernel))
            (fun _ _ _ _ _ => pg_tup rfl (pgs_cons (pg_name (i := 7) scSome.nd rfl (.inl rfl)) (pgs_cons (pg_name (i := 8) scSome.nd rfl (.inl rfl)) pgs_nil))) (fun _ _ _ _ _ => pts_one (pt_val (pe_mcal c2 ck.cl hr1 (pv 3) (pa_cons (pv 8) (pa_cons (pv 2) pa_nil))))) (fun _ _ _ _ _ => pv 7))
        (pss_cons (ps_if (pt_truth (pv 5) (fun _ => rfl)) (pss_one (ps_ret (pe_callB (cr_minTL rfl (hu64 hr)) (by rfl) B.min PyProof.Rows.boot_min (pa_cons (pv 5) pa_nil)))) pss_nil)
        (pss_cons (ps_set (i := 6) scSome.nd rfl (Or.inr rfl) pe_dnewT)
        (pss_cons (ps_for PassesOwn.never rfl (pi_list (pv 4)) (pg_tup rfl (pgs_cons (pg_name (i := 7) scSome.nd rfl (.inl rfl)) (pgs_cons (pg_name (i := 8) scSome.nd rfl (.inl rfl)) pgs_nil)))
          (pss_one (ps_for PassesOwn.never rfl (pi_list (pe_mcal c1 ck.cl (hr.mono (by decide)) (pv 3) (pa_cons (pv 8) pa_nil))) (pg_tup rfl (pgs_cons (pg_name (i := 9) scSome.nd rfl (.inl rfl)) (pgs_cons (pg_name (i := 10) scSome.nd rfl (.inl rfl)) pgs_nil)))
            (pss_one (ps_dput (hu_of hr) (pv 6) (pv 10) (pe_callB (cr_minT2 rfl (hu64 hr)) (by rfl) B.min PyProof.Rows.boot_min (pa_cons (pe_dget2 (hu_of hr) (pv 6) (pv 10) (pe_op op_catS (pv 7) (pe_tup (pa_cons (pv 9) pa_nil))) ⟨rfl, rfl, rfl, rfl⟩) (pa_cons (pe_op op_catS (pv 7) (pe_tup (pa_cons (pv 9) pa_nil))) pa_nil))) rfl)))))
        (pss_one (ps_lock (ps_setLc (i := 4) (own := [("cut", 8)]) (g := gName 8) (tt := tYes) (te := tTup (tCons (tOp rDGet (tVar 6) (tVar 8)) (tCons (tVar 8) tNil))) rfl scSome.nd rfl rfl (sw_true rfl rfl rfl (by decide +kernel)) (pi_keys (pv 6)) (blkOk_by (N := nSome) (sc := defScope sSome) (by decide +kernel))
            (fun _ _ _ _ _ => pg_name (i := 8) scSome.nd rfl (.inl rfl)) (fun _ _ _ _ _ => pts_nil) (fun _ _ _ _ _ => pe_tup (pa_cons (pe_dgetR (hu_of hr) (pv 6) (pv 8)) (pa_cons (pv 8) pa_nil))))))))))) 
      (pss_one (ps_ret pe_non)))), ?_⟩
    simp only [tVar, tC, tOp, tUn, tTest, tChain, tNil, tCons, tTup, tLst, tCall, tMake, tCB, tIf, tAndV, tOrV, tNotV, tIsN, tNotN, tB, tAnd, tOr, tNot, tNext, tSeq, tDrop, tRet, tRetN, tIfS, tNever, gName, gNil, gCons, gSub, tAsg, tAug, tAugS, ipI, tBM, tBM0, tSl, tNoPart, tPart, tDGet, tDIn, tDNotIn, tDGet1, sDPut, tMth, tDNewT, tDNewK, tYes, rI0, rI, rU, rAdd, rSub, rEq, rNe, L2.start, List.map_cons, List.map_nil, List.length_cons, List.length_nil, List.replicate, List.append_nil, List.nil_append, List.cons_append, List.getElem?_cons_zero, List.getElem?_cons_succ, List.set_cons_zero, List.set_cons_succ, Option.some.injEq, V.int.injEq, V.bl.injEq, V.ref.injEq, V.str.injEq, exists_eq_left', exists_eq_left, exists_and_left, true_and, and_true, Nat.reduceAdd, Nat.reduceSub, Nat.add_one_sub_one, Nat.sub_self, Bool.true_eq_false, Bool.false_eq_true, if_true, if_false, ite_true, ite_false, cxOf, Cx.nox, decide_eq_true_eq, reduceCtorEq, decide_false, decide_true, Bool.not_false, Bool.not_true, eq_self, upd_same, L2.upd_upd, List.cons.injEq, and_assoc]
    have n3 := hp.n3
    have hR0 : remL Th (zeroL Th.length) ≤ 6 := Nat.le_trans (remL_le hp.l2) (by omega)
    have R := runOk_of (n := Th.length) rfl hok
    refine mk_cuts hp hw hok ta tc fun a H1 e1 cf => ⟨Nat.zero_le _, fun p1 np1 => ?_⟩
    obtain ⟨nu, Pr, cl, la, fi, s1, o1, kvs, os, cu, hs, hS, ho, hO⟩ := id cf.ex
    have e2 : Ext H1 (upd H1 p1 (.tup [])) := Ext.new np1
    have hp1 : Tn (upd H1 p1 (.tup [])) (.ref p1) [] := ⟨p1, rfl, upd_same⟩
    generalize upd H1 p1 (.tup []) = H2 at *
    refine (cu.ext e2).f_first ck ⟨szN (by decide), fun p2 np2 => ⟨szN (by decide), fun p3 np3 => ?_⟩⟩
    have e3 : Ext H2 (upd H2 p2 (.tup [V.ref p1, fi])) := Ext.new np2
    have hp2 : Tu (upd H2 p2 (.tup [V.ref p1, fi])) (.ref p2) [V.ref p1, fi] := ⟨p2, rfl, upd_same⟩
    generalize upd H2 p2 (.tup [V.ref p1, fi]) = H3 at *
    have e4 : Ext H3 (upd H3 p3 (.lst [V.ref p2])) := Ext.new np3
    have hp3 : upd H3 p3 (.lst [V.ref p2]) p3 = some (.lst [V.ref p2]) := upd_same
    generalize upd H3 p3 (.lst [V.ref p2]) = H4 at *
    have e14 := (e2.trans e3).trans e4
    refine while_m (SomeI H1 x y z a e0 Th ws c v) (remL Th (zeroL Th.length) + 2)
      ⟨0, [([], zeroL Th.length)], p3, _, none, none, none, none, none, none, rfl, e14, hp3, A2.consI ⟨_, _, hp2.ext e4, Tu.ext (Tu.ext hp1 e3) e4, Tu.ext cu.first e14⟩ A2.nil, by omega, rfl, Nat.le_refl _, fun wc hwc => ?_⟩ ?_
    · have : wc = ([], zeroL Th.length) := by simpa using hwc
      subst this
      exact ⟨rfl, (found_ok R).zero, rfl⟩
    rintro m σ' H' ⟨i, level, l, xs, v5, v6, v7, v8, v9, v10, rfl, eH, hl, hL, him, hso, hlz, hlv⟩
    simp only [tVar, tC, tOp, tUn, tTest, tChain, tNil, tCons, tTup, tLst, tCall, tMake, tCB, tIf, tAndV, tOrV, tNotV, tIsN, tNotN, tB, tAnd, tOr, tNot, tNext, tSeq, tDrop, tRet, tRetN, tIfS, tNever, gName, gNil, gCons, gSub, tAsg, tAug, tAugS, ipI, tBM, tBM0, tSl, tNoPart, tPart, tDGet, tDIn, tDNotIn, tDGet1, sDPut, tMth, tDNewT, tDNewK, tYes, rI0, rI, rU, rAdd, rSub, rEq, rNe, L2.start, List.map_cons, List.map_nil, List.length_cons, List.length_nil, List.replicate, List.append_nil, List.nil_append, List.cons_append, List.getElem?_cons_zero, List.getElem?_cons_succ, List.set_cons_zero, List.set_cons_succ, Option.some.injEq, V.int.injEq, V.bl.injEq, V.ref.injEq, V.str.injEq, exists_eq_left', exists_eq_left, exists_and_left, true_and, and_true, Nat.reduceAdd, Nat.reduceSub, Nat.add_one_sub_one, Nat.sub_self, Bool.true_eq_false, Bool.false_eq_true, if_true, if_false, ite_true, ite_false, cxOf, Cx.nox, decide_eq_true_eq, reduceCtorEq, decide_false, decide_true, Bool.not_false, Bool.not_true, eq_self, upd_same, L2.upd_upd, List.cons.injEq, and_assoc]
    refine ⟨!xs.isEmpty, .inl ⟨xs, SqL.of hl, rfl⟩, ?_⟩
    by_cases hne : level = []
    · subst hne
      have : xs = [] := hL.nil_right
      subst this
      simp only [List.isEmpty_nil, tVar, tC, tOp, tUn, tTest, tChain, tNil, tCons, tTup, tLst, tCall, tMake, tCB, tIf, tAndV, tOrV, tNotV, tIsN, tNotN, tB, tAnd, tOr, tNot, tNext, tSeq, tDrop, tRet, tRetN, tIfS, tNever, gName, gNil, gCons, gSub, tAsg, tAug, tAugS, ipI, tBM, tBM0, tSl, tNoPart, tPart, tDGet, tDIn, tDNotIn, tDGet1, sDPut, tMth, tDNewT, tDNewK, tYes, rI0, rI, rU, rAdd, rSub, rEq, rNe, L2.start, List.map_cons, List.map_nil, List.length_cons, List.length_nil, List.replicate, List.append_nil, List.nil_append, List.cons_append, List.getElem?_cons_zero, List.getElem?_cons_succ, List.set_cons_zero, List.set_cons_succ, Option.some.injEq, V.int.injEq, V.bl.injEq, V.ref.injEq, V.str.injEq, exists_eq_left', exists_eq_left, exists_and_left, true_and, and_true, Nat.reduceAdd, Nat.reduceSub, Nat.add_one_sub_one, Nat.sub_self, Bool.true_eq_false, Bool.false_eq_true, if_true, if_false, ite_true, ite_false, cxOf, Cx.nox, decide_eq_true_eq, reduceCtorEq, decide_false, decide_true, Bool.not_false, Bool.not_true, eq_self, upd_same, L2.upd_upd, List.cons.injEq, and_assoc]
      refine q .non H' (e1.trans eH) ?_
      rw [← hso]
      cases m <;> rfl
    · have hxe : xs.isEmpty = false := by
        cases xs with
        | nil =>
          have := hL.1
          exact absurd (List.eq_nil_of_length_eq_zero this.symm) hne
        | cons x xs => rfl
      have hiR : i ≤ remL Th (zeroL Th.length) := by
        obtain ⟨wc, hwc⟩ := List.exists_mem_of_ne_nil _ hne
        have := (hlv wc hwc).2.2
        omega
      obtain ⟨m, rfl⟩ : ∃ m', m = m' + 1 := ⟨m - 1, by omega⟩
      have hl729 : level.length ≤ 729 := Nat.le_trans hlz (Nat.le_trans (Nat.pow_le_pow_right (by decide) (show i ≤ 6 by omega)) (by decide))
      simp only [hxe, tVar, tC, tOp, tUn, tTest, tChain, tNil, tCons, tTup, tLst, tCall, tMake, tCB, tIf, tAndV, tOrV, tNotV, tIsN, tNotN, tB, tAnd, tOr, tNot, tNext, tSeq, tDrop, tRet, tRetN, tIfS, tNever, gName, gNil, gCons, gSub, tAsg, tAug, tAugS, ipI, tBM, tBM0, tSl, tNoPart, tPart, tDGet, tDIn, tDNotIn, tDGet1, sDPut, tMth, tDNewT, tDNewK, tYes, rI0, rI, rU, rAdd, rSub, rEq, rNe, L2.start, List.map_cons, List.map_nil, List.length_cons, List.length_nil, List.replicate, List.append_nil, List.nil_append, List.cons_append, List.getElem?_cons_zero, List.getElem?_cons_succ, List.set_cons_zero, List.set_cons_succ, Option.some.injEq, V.int.injEq, V.bl.injEq, V.ref.injEq, V.str.injEq, exists_eq_left', exists_eq_left, exists_and_left, true_and, and_true, Nat.reduceAdd, Nat.reduceSub, Nat.add_one_sub_one, Nat.sub_self, Bool.true_eq_false, Bool.false_eq_true, if_true, if_false, ite_true, ite_false, cxOf, Cx.nox, decide_eq_true_eq, reduceCtorEq, decide_false, decide_true, Bool.not_false, Bool.not_true, eq_self, upd_same, L2.upd_upd, List.cons.injEq, and_assoc]
      refine ⟨SomeI H1 x y z a e0 Th ws c v m, fun σ2 H2 p => ⟨m, Nat.lt_succ_self _, p⟩, ?_⟩
      have eH0 := e1.trans eH
      refine lc_w (J := Itl K l) (n := xs.length) (H1 := H') (fun R h => ⟨_, rfl, l, rfl, ⟨_, SqL.of hl⟩, h⟩) (walk_list (xs := xs)) fun D nD => ⟨fun j Hj => Ext H' Hj ∧ ∃ its, Hj D = some (.lst its) ∧ A2 (Tn Hj) its (((level.take j).filter fun wc => meetsM Th e0 Th.length ws c v wc.2).map (·.1)),
        ⟨Ext.new nD, [], upd_same, A2.nil⟩, fun j Hj ⟨ej, _⟩ => SqL.of (ej.1 _ _ hl (by simp)), ?_, ?_⟩
      · rintro j xx Hz Hj hj ⟨ej, its, hD, hA⟩ ⟨rfl, hx⟩
        obtain ⟨wc, hwc, va, vb, g1, g2, g3⟩ := hL.2 j xx hx
        refine tu_tgt (g1.ext ej) ?_
        simp only [tVar, tC, tOp, tUn, tTest, tChain, tNil, tCons, tTup, tLst, tCall, tMake, tCB, tIf, tAndV, tOrV, tNotV, tIsN, tNotN, tB, tAnd, tOr, tNot, tNext, tSeq, tDrop, tRet, tRetN, tIfS, tNever, gName, gNil, gCons, gSub, tAsg, tAug, tAugS, ipI, tBM, tBM0, tSl, tNoPart, tPart, tDGet, tDIn, tDNotIn, tDGet1, sDPut, tMth, tDNewT, tDNewK, tYes, rI0, rI, rU, rAdd, rSub, rEq, rNe, L2.start, List.map_cons, List.map_nil, List.length_cons, List.length_nil, List.replicate, List.append_nil, List.nil_append, List.cons_append, List.getElem?_cons_zero, List.getElem?_cons_succ, List.set_cons_zero, List.set_cons_succ, Option.some.injEq, V.int.injEq, V.bl.injEq, V.ref.injEq, V.str.injEq, exists_eq_left', exists_eq_left, exists_and_left, true_and, and_true, Nat.reduceAdd, Nat.reduceSub, Nat.add_one_sub_one, Nat.sub_self, Bool.true_eq_false, Bool.false_eq_true, if_true, if_false, ite_true, ite_false, cxOf, Cx.nox, decide_eq_true_eq, reduceCtorEq, decide_false, decide_true, Bool.not_false, Bool.not_true, eq_self, upd_same, L2.upd_upd, List.cons.injEq, and_assoc, wipe]
        obtain ⟨k1, k2, k3⟩ := hlv wc (List.mem_of_getElem? hwc)
        have eHj := eH.trans ej
        refine (cu.ext eHj).mth ⟨_, vb, z, e0, Th, ws, wc.2, c, v, rfl, cf.ext eHj, Tu.ext g3 ej, k2, hz.ext (e1.trans eHj), hc, _, rfl, ?_⟩
        have htk : level.take (j + 1) = level.take j ++ [wc] := take_g hwc
        rw [htk, List.filter_append, List.map_append]
        refine ifd (fun hm => ?_) (fun hm => ?_)
        · refine ⟨_, hD, Nat.lt_of_le_of_lt (m := 1000) ?_ (by rw [sizeLine_eq]; omega), ej.upd nD, _, rfl, ?_⟩
          · rw [hA.1, List.length_map]
            have h1 := List.length_filter_le (fun wc => meetsM Th e0 Th.length ws c v wc.2) (level.take j)
            rw [List.length_take] at h1
            omega
          · have : [wc].filter (fun wc => meetsM Th e0 Th.length ws c v wc.2) = [wc] := by simp [hm]
            rw [this]
            exact A2.snoc (hA.imp fun _ _ zz => Tu.kp zz (Kp.lst hD)) (Tu.kp (Tu.ext g2 ej) (Kp.lst hD))
        · refine ⟨ej, its, hD, ?_⟩
          have : [wc].filter (fun wc => meetsM Th e0 Th.length ws c v wc.2) = [] := by simp [hm]
          rw [this, List.map_nil, List.append_nil]
          exact hA
      · rintro Hm ⟨em, its, hD, hA⟩
        rw [hL.1, List.take_length] at hA
        refine ⟨!its.isEmpty, .inl ⟨its, SqL.of hD, rfl⟩, ?_⟩
        have hsu : someM (laterM Th Th.length ws) (meetsM Th e0 Th.length ws c v) (m + 1) level = match (level.filter fun wc => meetsM Th e0 Th.length ws c v wc.2).map (·.1) with
            | a :: l => some (minL a l)
            | [] => someM (laterM Th Th.length ws) (meetsM Th e0 Th.length ws c v) m (nextLvl (laterM Th Th.length ws) level) := if_neg hne
        rw [hso] at hsu
        cases hmt : (level.filter fun wc => meetsM Th e0 Th.length ws c v wc.2).map (·.1) with
        | cons b bs =>
          rw [hmt] at hA hsu
          have : its.isEmpty = false := by
            cases its with
            | nil => have := hA.1; simp at this
            | cons x xs => rfl
          rw [this]
          simp only [tVar, tC, tOp, tUn, tTest, tChain, tNil, tCons, tTup, tLst, tCall, tMake, tCB, tIf, tAndV, tOrV, tNotV, tIsN, tNotN, tB, tAnd, tOr, tNot, tNext, tSeq, tDrop, tRet, tRetN, tIfS, tNever, gName, gNil, gCons, gSub, tAsg, tAug, tAugS, ipI, tBM, tBM0, tSl, tNoPart, tPart, tDGet, tDIn, tDNotIn, tDGet1, sDPut, tMth, tDNewT, tDNewK, tYes, rI0, rI, rU, rAdd, rSub, rEq, rNe, L2.start, List.map_cons, List.map_nil, List.length_cons, List.length_nil, List.replicate, List.append_nil, List.nil_append, List.cons_append, List.getElem?_cons_zero, List.getElem?_cons_succ, List.set_cons_zero, List.set_cons_succ, Option.some.injEq, V.int.injEq, V.bl.injEq, V.ref.injEq, V.str.injEq, exists_eq_left', exists_eq_left, exists_and_left, true_and, and_true, Nat.reduceAdd, Nat.reduceSub, Nat.add_one_sub_one, Nat.sub_self, Bool.true_eq_false, Bool.false_eq_true, if_true, if_false, ite_true, ite_false, cxOf, Cx.nox, decide_eq_true_eq, reduceCtorEq, decide_false, decide_true, Bool.not_false, Bool.not_true, eq_self, upd_same, L2.upd_upd, List.cons.injEq, and_assoc]
          refine ⟨D, its, b, bs, rfl, SqL.of hD, hA, fun r hr => q r Hm (eH0.trans em) ?_⟩
          rw [hsu]; exact hr
        | nil =>
          rw [hmt] at hA hsu
          have : its = [] := hA.nil_right
          subst this
          simp only [List.isEmpty_nil, tVar, tC, tOp, tUn, tTest, tChain, tNil, tCons, tTup, tLst, tCall, tMake, tCB, tIf, tAndV, tOrV, tNotV, tIsN, tNotN, tB, tAnd, tOr, tNot, tNext, tSeq, tDrop, tRet, tRetN, tIfS, tNever, gName, gNil, gCons, gSub, tAsg, tAug, tAugS, ipI, tBM, tBM0, tSl, tNoPart, tPart, tDGet, tDIn, tDNotIn, tDGet1, sDPut, tMth, tDNewT, tDNewK, tYes, rI0, rI, rU, rAdd, rSub, rEq, rNe, L2.start, List.map_cons, List.map_nil, List.length_cons, List.length_nil, List.replicate, List.append_nil, List.nil_append, List.cons_append, List.getElem?_cons_zero, List.getElem?_cons_succ, List.set_cons_zero, List.set_cons_succ, Option.some.injEq, V.int.injEq, V.bl.injEq, V.ref.injEq, V.str.injEq, exists_eq_left', exists_eq_left, exists_and_left, true_and, and_true, Nat.reduceAdd, Nat.reduceSub, Nat.add_one_sub_one, Nat.sub_self, Bool.true_eq_false, Bool.false_eq_true, if_true, if_false, ite_true, ite_false, cxOf, Cx.nox, decide_eq_true_eq, reduceCtorEq, decide_false, decide_true, Bool.not_false, Bool.not_true, eq_self, upd_same, L2.upd_upd, List.cons.injEq, and_assoc]
          intro p np
          have eHm := eH.trans em
          have hlm := em.1 _ _ hl (by simp)
          have hLm : A2 (LvRow Hm) xs level := hL.imp fun _ _ zz => zz.kp em.kp
          have np1 : H1 p = none := eHm.free np
          have hlp : l ≠ p := fun zz => by rw [zz, np] at hlm; cases hlm
          have hfl := LOk.fold2 (i := i) (n := 3) (lat := laterM Th Th.length ws) (fun c => Nat.le_trans (later_len _ _ _ _) n3)
          refine for_lstT (a := l) (xs := xs) (fun R h => ⟨_, rfl, h⟩) (by rw [upd_ne hlp]; exact hlm) (fun j σ' H' => ∃ v7 v8 v9 v10 kvs, σ' = [some x, some y, some z, some (.ref a), some (.ref l), some (.ref D), some (.ref p), v7, v8, v9, v10] ∧ Ext Hm H' ∧ H' p = some (.dT kvs) ∧
              DT H' kvs ((level.take j).foldl (fun least wc => (laterM Th Th.length ws wc.2).foldl (lessStep wc.1) least) []))
            ⟨v7, v8, v9, v10, [], rfl, Ext.new np, upd_same, A2.nil⟩ (fun j σ' H' ⟨_, _, _, _, _, _, e, _⟩ => e.1 _ _ hlm (by simp)) ?_ ?_
          · rintro j xx σ' H5 hj ⟨v7, v8, v9, v10, kvs, rfl, e5, hd5, hT5⟩
            obtain ⟨wc, hwc, va, vb, g1, g2, g3⟩ := hLm.2 j xx hj
            have htk : level.take (j + 1) = level.take j ++ [wc] := take_g hwc
            have hjl : j < level.length := (List.getElem?_eq_some_iff.mp hwc).1
            obtain ⟨k1, k2, k3⟩ := hlv wc (List.mem_of_getElem? hwc)
            have hcl := (found_dom hok k2).2
            obtain ⟨f1, f2⟩ := hfl (level.take j) [] (fun wc h => (hlv wc (List.mem_of_mem_take h)).1) ⟨List.nodup_nil, fun p h => by cases h⟩
            have f2 : ((level.take j).foldl (fun least wc => (laterM Th Th.length ws wc.2).foldl (lessStep wc.1) least) []).length ≤ 3 * 729 := by
              refine Nat.le_trans f2 ?_
              rw [List.length_take, List.length_nil]
              omega
            simp only [htk, List.foldl_append, List.foldl_cons, List.foldl_nil]
            generalize (level.take j).foldl (fun least wc => (laterM Th Th.length ws wc.2).foldl (lessStep wc.1) least) [] = ls at *
            refine tu_tgt (g1.ext e5) ?_
            simp only [tVar, tC, tOp, tUn, tTest, tChain, tNil, tCons, tTup, tLst, tCall, tMake, tCB, tIf, tAndV, tOrV, tNotV, tIsN, tNotN, tB, tAnd, tOr, tNot, tNext, tSeq, tDrop, tRet, tRetN, tIfS, tNever, gName, gNil, gCons, gSub, tAsg, tAug, tAugS, ipI, tBM, tBM0, tSl, tNoPart, tPart, tDGet, tDIn, tDNotIn, tDGet1, sDPut, tMth, tDNewT, tDNewK, tYes, rI0, rI, rU, rAdd, rSub, rEq, rNe, L2.start, List.map_cons, List.map_nil, List.length_cons, List.length_nil, List.replicate, List.append_nil, List.nil_append, List.cons_append, List.getElem?_cons_zero, List.getElem?_cons_succ, List.set_cons_zero, List.set_cons_succ, Option.some.injEq, V.int.injEq, V.bl.injEq, V.ref.injEq, V.str.injEq, exists_eq_left', exists_eq_left, exists_and_left, true_and, and_true, Nat.reduceAdd, Nat.reduceSub, Nat.add_one_sub_one, Nat.sub_self, Bool.true_eq_false, Bool.false_eq_true, if_true, if_false, ite_true, ite_false, cxOf, Cx.nox, decide_eq_true_eq, reduceCtorEq, decide_false, decide_true, Bool.not_false, Bool.not_true, eq_self, upd_same, L2.upd_upd, List.cons.injEq, and_assoc]
            have eH5 := eHm.trans e5
            refine for_lstC (fun b bs H6 => Ext H5 H6 ∧ H5 b = none ∧ H6 b = some (.lst bs) ∧ A2 (LaRow H6) bs (laterM Th Th.length ws wc.2)) (fun R h => ?_) ?_
            · simp only [tVar, tC, tOp, tUn, tTest, tChain, tNil, tCons, tTup, tLst, tCall, tMake, tCB, tIf, tAndV, tOrV, tNotV, tIsN, tNotN, tB, tAnd, tOr, tNot, tNext, tSeq, tDrop, tRet, tRetN, tIfS, tNever, gName, gNil, gCons, gSub, tAsg, tAug, tAugS, ipI, tBM, tBM0, tSl, tNoPart, tPart, tDGet, tDIn, tDNotIn, tDGet1, sDPut, tMth, tDNewT, tDNewK, tYes, rI0, rI, rU, rAdd, rSub, rEq, rNe, L2.start, List.map_cons, List.map_nil, List.length_cons, List.length_nil, List.replicate, List.append_nil, List.nil_append, List.cons_append, List.getElem?_cons_zero, List.getElem?_cons_succ, List.set_cons_zero, List.set_cons_succ, Option.some.injEq, V.int.injEq, V.bl.injEq, V.ref.injEq, V.str.injEq, exists_eq_left', exists_eq_left, exists_and_left, true_and, and_true, Nat.reduceAdd, Nat.reduceSub, Nat.add_one_sub_one, Nat.sub_self, Bool.true_eq_false, Bool.false_eq_true, if_true, if_false, ite_true, ite_false, cxOf, Cx.nox, decide_eq_true_eq, reduceCtorEq, decide_false, decide_true, Bool.not_false, Bool.not_true, eq_self, upd_same, L2.upd_upd, List.cons.injEq, and_assoc]
              exact (cu.ext eH5).mth ⟨_, vb, e0, Th, ws, nu, Pr, cl, la, fi, .ref s1, .ref o1, wc.2, rfl, cu.ext eH5, Tu.ext g3 e5, hcl, (e1.trans eH5).2.tab ta, fun H6 b bs e nb hb hB => h b bs H6 ⟨e, nb, hb, hB⟩⟩
            · rintro b bs H6 ⟨e6, nb, hb, hB⟩
              have hbp : b ≠ p := fun zz => by rw [zz, hd5] at nb; cases nb
              have hd6 : H6 p = some (.dT kvs) := e6.1 _ _ hd5 (by simp)
              have k6 : Kp H6 (del p H6) := Kp.del hd6 (fun z => z) (fun ps z => by cases z)
              have e7 : Ext Hm (del p H6) := (e5.trans e6).todel np
              have ex : Ext (del p H6) H6 := Ext.del
              have hbd : del p H6 b = some (.lst bs) := by rw [del_ne hbp]; exact hb
              have hBd : A2 (LaRow (del p H6)) bs (laterM Th Th.length ws wc.2) := hB.imp fun _ _ zz => zz.kp k6
              have hpd : del p H6 p = none := del_same
              generalize del p H6 = Hd at *
              refine ⟨hb, fun jj σ' H' => ∃ v9 v10 kvs, σ' = [some x, some y, some z, some (.ref a), some (.ref l), some (.ref D), some (.ref p), some va, some vb, v9, v10] ∧ Ext Hd H' ∧ H' p = some (.dT kvs) ∧ DT H' kvs (((laterM Th Th.length ws wc.2).take jj).foldl (lessStep wc.1) ls),
                ⟨v9, v10, kvs, rfl, ex, hd6, hT5.kp e6.kp⟩, fun jj σ' H' ⟨_, _, _, _, e, _⟩ => e.1 _ _ hbd (by simp), ?_, ?_⟩
              · rintro jj yy σ' H8 hjj ⟨v9, v10, kvs8, rfl, e8, hd8, hT8⟩
                obtain ⟨r, hr1, mv, hr2, hr3⟩ := hBd.2 jj yy hjj
                obtain ⟨t, mc⟩ := r
                have htk2 : (laterM Th Th.length ws wc.2).take (jj + 1) = (laterM Th Th.length ws wc.2).take jj ++ [(t, mc)] := take_g hr1
                obtain ⟨h1, h2⟩ := LOk.fold (i := i) k1 ((laterM Th Th.length ws wc.2).take jj) ls f1
                have h2 : (((laterM Th Th.length ws wc.2).take jj).foldl (lessStep wc.1) ls).length ≤ 3000 := by
                  have := later_len Th Th.length ws wc.2
                  rw [List.length_take] at h2
                  omega
                simp only [htk2, List.foldl_append, List.foldl_cons, List.foldl_nil]
                generalize ((laterM Th Th.length ws wc.2).take jj).foldl (lessStep wc.1) ls = l8 at *
                refine tu_tgt (hr2.ext e8) ?_
                simp only [tVar, tC, tOp, tUn, tTest, tChain, tNil, tCons, tTup, tLst, tCall, tMake, tCB, tIf, tAndV, tOrV, tNotV, tIsN, tNotN, tB, tAnd, tOr, tNot, tNext, tSeq, tDrop, tRet, tRetN, tIfS, tNever, gName, gNil, gCons, gSub, tAsg, tAug, tAugS, ipI, tBM, tBM0, tSl, tNoPart, tPart, tDGet, tDIn, tDNotIn, tDGet1, sDPut, tMth, tDNewT, tDNewK, tYes, rI0, rI, rU, rAdd, rSub, rEq, rNe, L2.start, List.map_cons, List.map_nil, List.length_cons, List.length_nil, List.replicate, List.append_nil, List.nil_append, List.cons_append, List.getElem?_cons_zero, List.getElem?_cons_succ, List.set_cons_zero, List.set_cons_succ, Option.some.injEq, V.int.injEq, V.bl.injEq, V.ref.injEq, V.str.injEq, exists_eq_left', exists_eq_left, exists_and_left, true_and, and_true, Nat.reduceAdd, Nat.reduceSub, Nat.add_one_sub_one, Nat.sub_self, Bool.true_eq_false, Bool.false_eq_true, if_true, if_false, ite_true, ite_false, cxOf, Cx.nox, decide_eq_true_eq, reduceCtorEq, decide_false, decide_true, Bool.not_false, Bool.not_true, eq_self, upd_same, L2.upd_upd, List.cons.injEq, and_assoc, tDGet2]
                obtain ⟨ma, rfl, hma⟩ := hr3
                have hma8 : H8 ma = some (.tup (nI mc)) := e8.1 _ _ hma (by simp)
                have g28 : Tn H8 va wc.1 := Tu.ext (Tu.ext g2 e7) e8
                refine ⟨.inr ⟨_, .inl hd8⟩, szN (by decide), fun q1 nq1 => ⟨_, _, g28.ext (Ext.new nq1), ⟨q1, rfl, upd_same⟩, szN (by rw [nI_length, k1]; show i + 1 ≤ 1000; omega), fun z1 H9 e9 hz1 => ?_⟩⟩
                have e9' := (Ext.new (o := .tup [V.int (t : Nat)]) nq1).trans e9
                have hd9 := e9'.1 _ _ hd8 (by simp)
                have hma9 := e9'.1 _ _ hma8 (by simp)
                have hz1' : Tn H9 z1 (wc.1 ++ [t]) := by
                  have : nI wc.1 ++ [V.int (t : Nat)] = nI (wc.1 ++ [t]) := (nI_append wc.1 [t]).symm
                  show Tu H9 z1 (nI (wc.1 ++ [t]))
                  rw [← this]; exact hz1
                have hT9 := hT8.kp e9'.kp
                have hgt : ∃ zv, ((valV kvs8 (ckey mc)).getD z1) = zv ∧ Tn H9 zv ((l8.lookup mc).getD (wc.1 ++ [t])) := by
                  cases hlk : l8.lookup mc with
                  | none => exact ⟨_, rfl, by rw [(hT9.val mc).1 hlk]; exact hz1'⟩
                  | some w8 =>
                    obtain ⟨vv, hvv, hvT⟩ := (hT9.val mc).2 w8 hlk
                    exact ⟨_, rfl, by rw [hvv]; exact hvT⟩
                obtain ⟨zv, hzv, hzT⟩ := hgt
                refine ⟨_, DGet.t (k := ckey mc) hd9 (by rw [ckey_tup]; exact hma9), szN (by decide), fun q2 nq2 => ⟨_, _, (Tu.ext g28 e9').ext (Ext.new nq2), ⟨q2, rfl, upd_same⟩, szN (by rw [nI_length, k1]; show i + 1 ≤ 1000; omega), fun z2 H10 e10 hz2 => ?_⟩⟩
                rw [hzv]
                have e10' := (Ext.new (o := .tup [V.int (t : Nat)]) nq2).trans e10
                have hz2' : Tn H10 z2 (wc.1 ++ [t]) := by
                  have : nI wc.1 ++ [V.int (t : Nat)] = nI (wc.1 ++ [t]) := (nI_append wc.1 [t]).symm
                  show Tu H10 z2 (nI (wc.1 ++ [t]))
                  rw [← this]; exact hz2
                refine ⟨zv, z2, _, _, rfl, Tu.ext hzT e10', hz2', fun z3 hz3 => ?_⟩
                have hd10 := e10'.1 _ _ hd9 (by simp)
                have hma10 := e10'.1 _ _ hma9 (by simp)
                have hT10 := hT9.kp e10'.kp
                refine ⟨_, DPut.t (k := ckey mc) hd10 (by rw [ckey_tup]; exact hma10) (Nat.lt_of_le_of_lt (m := 3000) (by rw [hT10.1]; exact h2) (by rw [sizeLine_eq]; omega)), ?_⟩
                have kk : Kp H10 (upd H10 p (.dT (putK kvs8 (ckey mc) z3))) := Kp.set hd10 (fun z => z) (fun ps z => by cases z)
                exact ⟨((e8.trans e9').trans e10').upd hpd, _, upd_same, (hT10.put h1.nd hz3).kp kk⟩
              · rintro σ' H8 ⟨v9, v10, kvs8, rfl, e8, hd8, hT8⟩
                rw [hB.1, List.take_length] at hT8
                exact ⟨_, _, _, _, rfl, e7.trans e8, _, hd8, hT8⟩
          · rintro σ' H5 ⟨v7, v8, v9, v10, kvs, rfl, e5, hd5, hT5⟩
            rw [hL.1, List.take_length] at hT5
            obtain ⟨f1, f2⟩ := hfl level [] (fun wc h => (hlv wc h).1) ⟨List.nodup_nil, fun p h => by cases h⟩
            have hT5 : DT H5 kvs (leastM (laterM Th Th.length ws) level) := hT5
            have f1 : LOk (i + 1) (leastM (laterM Th Th.length ws) level) := f1
            have f2 : (leastM (laterM Th Th.length ws) level).length ≤ 3 * level.length := by
              have : (leastM (laterM Th Th.length ws) level).length ≤ 0 + 3 * level.length := f2
              omega
            have hmem : ∀ k ∈ (leastM (laterM Th Th.length ws) level).map (·.1), k ∈ keysM (foundM Th e0 Th.length ws) ∧ remL Th k + (i + 1) = remL Th (zeroL Th.length) := fun k hk => by
              obtain ⟨wc, hwc, r, hr, rfl⟩ := (mem_leastM level).mp hk
              obtain ⟨k1, k2, k3⟩ := hlv wc hwc
              obtain ⟨j1, j2, _⟩ := later_rem hok k2 hr
              exact ⟨j1, by omega⟩
            simp only [tVar, tC, tOp, tUn, tTest, tChain, tNil, tCons, tTup, tLst, tCall, tMake, tCB, tIf, tAndV, tOrV, tNotV, tIsN, tNotN, tB, tAnd, tOr, tNot, tNext, tSeq, tDrop, tRet, tRetN, tIfS, tNever, gName, gNil, gCons, gSub, tAsg, tAug, tAugS, ipI, tBM, tBM0, tSl, tNoPart, tPart, tDGet, tDIn, tDNotIn, tDGet1, sDPut, tMth, tDNewT, tDNewK, tYes, rI0, rI, rU, rAdd, rSub, rEq, rNe, L2.start, List.map_cons, List.map_nil, List.length_cons, List.length_nil, List.replicate, List.append_nil, List.nil_append, List.cons_append, List.getElem?_cons_zero, List.getElem?_cons_succ, List.set_cons_zero, List.set_cons_succ, Option.some.injEq, V.int.injEq, V.bl.injEq, V.ref.injEq, V.str.injEq, exists_eq_left', exists_eq_left, exists_and_left, true_and, and_true, Nat.reduceAdd, Nat.reduceSub, Nat.add_one_sub_one, Nat.sub_self, Bool.true_eq_false, Bool.false_eq_true, if_true, if_false, ite_true, ite_false, cxOf, Cx.nox, decide_eq_true_eq, reduceCtorEq, decide_false, decide_true, Bool.not_false, Bool.not_true, eq_self, upd_same, L2.upd_upd, List.cons.injEq, and_assoc, tLock]
            refine ⟨p, _, hd5, trivial, fun od => ?_⟩
            have k5 : Kp H5 (upd H5 p (.frz od (.dT kvs))) := Kp.set hd5 (fun z => z) (fun ps z => by cases z)
            have hf : upd H5 p (.frz od (.dT kvs)) p = some (.frz od (.dT kvs)) := upd_same
            have eb : Ext H1 (upd H5 p (.frz od (.dT kvs))) := (eHm.trans e5).upd np1
            have hTb := hT5.kp k5
            generalize upd H5 p (.frz od (.dT kvs)) = Hb at *
            generalize hls : leastM (laterM Th Th.length ws) level = ls at *
            refine lc_w (J := Itkt p od kvs) (n := kvs.length) (H1 := Hb) (fun R h => ?_) walk_keysT fun D2 nD2 => ⟨fun j Hj => Ext Hb Hj ∧ ∃ its, Hj D2 = some (.lst its) ∧ A2 (LvRow Hj) its ((ls.take j).map fun p => (p.2, p.1)),
              ⟨Ext.new nD2, [], upd_same, A2.nil⟩, fun j Hj ⟨ej, _⟩ => ej.1 _ _ hf (by simp), ?_, ?_⟩
            · unfold iKeys
              simp only [tVar, tC, tOp, tUn, tTest, tChain, tNil, tCons, tTup, tLst, tCall, tMake, tCB, tIf, tAndV, tOrV, tNotV, tIsN, tNotN, tB, tAnd, tOr, tNot, tNext, tSeq, tDrop, tRet, tRetN, tIfS, tNever, gName, gNil, gCons, gSub, tAsg, tAug, tAugS, ipI, tBM, tBM0, tSl, tNoPart, tPart, tDGet, tDIn, tDNotIn, tDGet1, sDPut, tMth, tDNewT, tDNewK, tYes, rI0, rI, rU, rAdd, rSub, rEq, rNe, L2.start, List.map_cons, List.map_nil, List.length_cons, List.length_nil, List.replicate, List.append_nil, List.nil_append, List.cons_append, List.getElem?_cons_zero, List.getElem?_cons_succ, List.set_cons_zero, List.set_cons_succ, Option.some.injEq, V.int.injEq, V.bl.injEq, V.ref.injEq, V.str.injEq, exists_eq_left', exists_eq_left, exists_and_left, true_and, and_true, Nat.reduceAdd, Nat.reduceSub, Nat.add_one_sub_one, Nat.sub_self, Bool.true_eq_false, Bool.false_eq_true, if_true, if_false, ite_true, ite_false, cxOf, Cx.nox, decide_eq_true_eq, reduceCtorEq, decide_false, decide_true, Bool.not_false, Bool.not_true, eq_self, upd_same, L2.upd_upd, List.cons.injEq, and_assoc]
              exact ⟨od, .inr ⟨kvs, hf, h⟩⟩
            · rintro j xx Hz Hj hj ⟨ej, its, hD2, hA⟩ ⟨rfl, k, vv, qa, hkv, rfl, hqa⟩
              obtain ⟨cw, hcw, g1, g2⟩ := hTb.2 j _ hkv
              obtain ⟨cc, ww⟩ := cw
              have g1 : k = ckey cc := g1
              subst g1
              have hval : valV kvs (ckey cc) = some vv := by
                have hlk : ls.lookup cc = some ww := lookup_nd f1.nd (List.mem_of_getElem? hcw)
                obtain ⟨v', h1, h2⟩ := (hTb.val cc).2 ww hlk
                have := valV_nd hTb f1.nd hkv
                exact this
              simp only [tVar, tC, tOp, tUn, tTest, tChain, tNil, tCons, tTup, tLst, tCall, tMake, tCB, tIf, tAndV, tOrV, tNotV, tIsN, tNotN, tB, tAnd, tOr, tNot, tNext, tSeq, tDrop, tRet, tRetN, tIfS, tNever, gName, gNil, gCons, gSub, tAsg, tAug, tAugS, ipI, tBM, tBM0, tSl, tNoPart, tPart, tDGet, tDIn, tDNotIn, tDGet1, sDPut, tMth, tDNewT, tDNewK, tYes, rI0, rI, rU, rAdd, rSub, rEq, rNe, L2.start, List.map_cons, List.map_nil, List.length_cons, List.length_nil, List.replicate, List.append_nil, List.nil_append, List.cons_append, List.getElem?_cons_zero, List.getElem?_cons_succ, List.set_cons_zero, List.set_cons_succ, Option.some.injEq, V.int.injEq, V.bl.injEq, V.ref.injEq, V.str.injEq, exists_eq_left', exists_eq_left, exists_and_left, true_and, and_true, Nat.reduceAdd, Nat.reduceSub, Nat.add_one_sub_one, Nat.sub_self, Bool.true_eq_false, Bool.false_eq_true, if_true, if_false, ite_true, ite_false, cxOf, Cx.nox, decide_eq_true_eq, reduceCtorEq, decide_false, decide_true, Bool.not_false, Bool.not_true, eq_self, upd_same, L2.upd_upd, List.cons.injEq, and_assoc, wipe]
              refine ⟨p, vv, rfl, ?_, szN (by decide), fun q3 nq3 => ?_⟩
              · exact .inr ⟨kvs, ckey cc, qa, .inr ⟨od, ej.1 _ _ hf (by simp)⟩, rfl, hqa, hval.symm⟩
              have e11 := ej.trans (Ext.new (o := .tup [vv, V.ref qa]) nq3)
              have hD3 := (Ext.new (o := .tup [vv, V.ref qa]) nq3).1 _ _ hD2 (by simp)
              have htk : ls.take (j + 1) = ls.take j ++ [(cc, ww)] := take_g hcw
              refine ⟨its, hD3, Nat.lt_of_le_of_lt (m := 3000) ?_ (by rw [sizeLine_eq]; omega), e11.upd nD2, _, rfl, ?_⟩
              · rw [hA.1, List.length_map, List.length_take]; omega
              · rw [htk, List.map_append]
                have kk := (Ext.new (o := .tup [vv, V.ref qa]) nq3).kp.trans (Kp.lst (o := .lst (its ++ [V.ref q3])) hD3)
                refine A2.snoc (hA.imp fun _ _ zz => zz.kp kk) ⟨vv, V.ref qa, ?_, Tu.kp (Tu.ext g2 ej) kk, Tu.kp ⟨qa, rfl, by rw [hqa, ckey_tup]⟩ kk⟩
                have : Tu (upd Hj q3 (.tup [vv, V.ref qa])) (V.ref q3) [vv, V.ref qa] := ⟨q3, rfl, upd_same⟩
                exact this.kp (Kp.lst hD3)
            · rintro Hj ⟨ej, its, hD2, hA⟩
              have hlk : kvs.length = ls.length := hTb.1
              rw [hlk, List.take_length] at hA
              have hfj := ej.1 _ _ hf (by simp)
              have hD2p : D2 ≠ p := fun zz => by rw [zz, hf] at nD2; cases nD2
              have kj : Kp Hj (upd Hj p (.dT kvs)) := Kp.set hfj (fun z => z) (fun ps z => by cases z)
              refine ⟨hfj, i + 1, nextLvl (laterM Th Th.length ws) level, D2, its, some (.ref D), some (.ref p), v7, v8, v9, v10, rfl, (eb.trans ej).upd np1, by rw [upd_ne hD2p]; exact hD2, ?_, by omega, hsu.symm, ?_, fun wc hwc => ?_⟩
              · unfold nextLvl
                rw [hls]
                exact hA.imp fun _ _ zz => zz.kp kj
              · unfold nextLvl
                rw [hls, List.length_map, Nat.pow_succ]; omega
              · unfold nextLvl at hwc
                rw [hls] at hwc
                obtain ⟨p', hp', rfl⟩ := List.mem_map.mp hwc
                obtain ⟨m1, m2⟩ := hmem p'.1 (List.mem_map.mpr ⟨p', hp', rfl⟩)
                exact ⟨f1.len p' hp', m1, m2⟩
end
end TW

set_option maxHeartbeats 8000000
/-! TwR: every, first_run, same_runs, barred_behind. -/
namespace TW
open PySem PySem.Spec PyProof.Rows L2
open TC hiding Step Env
section
variable {P : Program} {w : World} {K : PySem.W.Frag} {mg : Str → Option Value} {base : Heap}
abbrev sEvery : Stmt := tx 20
abbrev nEvery : List Str := ["program", "schedule", "condition", "found", "avoiding", "cut", "way", "thread", "row"]
def spEvery (Pa Pb Pc : Addr) : Sp := fun vs H Q _ => ∃ x y z e0 Th ws c v, vs = [x, y, z] ∧ PW H x e0 Th ∧ Tn H y ws ∧ okw Th e0 (zeroL Th.length) ws = true ∧ Tu H z [.str (nm c), .int v] ∧ c ∈ dom e0 ∧ GxR.TabG H Pa ∧ GxR.TabG H Pb ∧ GxR.TabG H Pc ∧
  ∀ r H', Ext H H' → OptN H' r (everyR Th e0 Th.length ws c v) → Q r H'
theorem scEvery : FnScope nEvery ["program", "schedule", "condition"] (defScope sEvery) := ⟨rfl, rfl, rfl, by decide +kernel, rfl, by decide +kernel, by decide +kernel⟩
def EvI (H0 : Hp) (x y z : V) (a p : Addr) (e0 : TC.Env) (Th : Thr) (ws : List Nat) (c : Nat) (v : Int) (m : Nat) (σ' : L2.St) (H' : Hp) : Prop :=
  ∃ cut way cv wv th, σ' = [some x, some y, some z, some (.ref a), some (.ref p), some cv, some wv, th, none] ∧ Ext H0 H' ∧ Tn H' cv cut ∧ Tn H' wv way ∧ way ++ everyM (laterM Th Th.length ws) (lastM Th.length ws) (avR Th e0 Th.length ws c v) m cut = everyM (laterM Th Th.length ws) (lastM Th.length ws) (avR Th e0 Th.length ws c v) (remL Th (zeroL Th.length) + 1) (zeroL Th.length) ∧
    cut ∈ avR Th e0 Th.length ws c v ∧ cut ∈ keysM (foundM Th e0 Th.length ws) ∧ remL Th cut < m ∧ way.length + remL Th cut = remL Th (zeroL Th.length)
theorem ok_every {f C Pa Pb Pc : Addr} {fd : FuncData} (F : Fun K "every" "every" sEvery f fd) (B : Bt mg) (ck : CK K C) (c0 : CCuts P w K mg base C Pa Pc) (c1 : CLater P w K mg base C Pa) (c2 : CAvoid P w K mg base C Pa Pb) : FnOk P w K mg base CX0 8 f fd ["program", "schedule", "condition"] (spEvery Pa Pb Pc) := by
  refine F.ok scEvery (fun vs H Q E h => ?_) (fun cdv A outer s H vs Q E hr h => ?_)
  · obtain ⟨x, y, z, e0, Th, ws, c, v, rfl, _⟩ := h
    rfl
  · obtain ⟨x, y, z, e0, Th, ws, c, v, rfl, hp, hw, hok, hz, hc, ta, tb, tc, q⟩ := h
    refine ⟨_, pss_cons (ps_set (i := 3) scEvery.nd rfl (Or.inl rfl) (pe_calC c0 hr rfl (pa_cons (pv 0) (pa_cons (pv 1) pa_nil))))
      (pss_cons (ps_set (i := 4) scEvery.nd rfl (Or.inr rfl) (pe_mcal c2 ck.cl (hr.mono (by decide)) (pv 3) (pa_cons (pv 2) pa_nil)))
      (pss_cons (ps_if (pt_cmp (pc_dnotin (hu_of hr) (pe_fldR (pv 3)) (pv 4))) (pss_one (ps_ret pe_non)) pss_nil)
      (pss_cons (ps_set (i := 5) scEvery.nd rfl (Or.inl rfl) (pe_fldR (pv 3)))
      (pss_cons (ps_set (i := 6) scEvery.nd rfl (Or.inl rfl) (pe_tup pa_nil))
      (pss_cons (ps_while PassesOwn.never (pt_cmpR (op_neD (hu64 hr)) (pv 5) (pe_fldR (pv 3)) (nomark _))
        (pss_cons (ps_asg (pe_ix ix_list (pe_lc (own := [("row", 8)]) (g := gName 8) (tt := tB (tDIn (tOp (rIxT K) (tVar 8) (tC (.int 1))) (tVar 4))) (te := tVar 8) rfl scEvery.nd (pi_list (pe_mcal c1 ck.cl (hr.mono (by decide)) (pv 3) (pa_cons (pv 5) pa_nil))) (blkOk_by (N := nEvery) (sc := defScope sEvery) (by decide +kernel))
              (fun _ _ _ _ _ => pg_name (i := 8) scEvery.nd rfl (.inl rfl)) (fun _ _ _ _ _ => pts_one (pt_cmp (pc_din (hu_of hr) (pe_ix ix_tup (pv 8) pe_int (fun _ _ => rfl)) (pv 4)))) (fun _ _ _ _ _ => pv 8)) pe_int (fun _ _ => rfl)) (pg_tup rfl (pgs_cons (pg_name (i := 7) scEvery.nd rfl (.inl rfl)) (pgs_cons (pg_name (i := 5) scEvery.nd rfl (.inl rfl)) pgs_nil))))
        (pss_one (ps_aug (i := 6) scEvery.nd rfl (Or.inl rfl) (pe_tup (pa_cons (pv 7) pa_nil)) ip_catS))))
      (pss_one (ps_ret (pv 6)))))))), ?_⟩
    simp only [tVar, tC, tOp, tUn, tTest, tChain, tNil, tCons, tTup, tLst, tCall, tMake, tCB, tIf, tAndV, tOrV, tNotV, tIsN, tNotN, tB, tAnd, tOr, tNot, tNext, tSeq, tDrop, tRet, tRetN, tIfS, tNever, gName, gNil, gCons, gSub, tAsg, tAug, tAugS, ipI, tBM, tBM0, tSl, tNoPart, tPart, tDGet, tDIn, tDNotIn, tDGet1, sDPut, tMth, tDNewT, tDNewK, tYes, rI0, rI, rU, rAdd, rSub, rEq, rNe, L2.start, List.map_cons, List.map_nil, List.length_cons, List.length_nil, List.replicate, List.append_nil, List.nil_append, List.cons_append, List.getElem?_cons_zero, List.getElem?_cons_succ, List.set_cons_zero, List.set_cons_succ, Option.some.injEq, V.int.injEq, V.bl.injEq, V.ref.injEq, V.str.injEq, exists_eq_left', exists_eq_left, exists_and_left, true_and, and_true, Nat.reduceAdd, Nat.reduceSub, Nat.add_one_sub_one, Nat.sub_self, Bool.true_eq_false, Bool.false_eq_true, if_true, if_false, ite_true, ite_false, cxOf, Cx.nox, decide_eq_true_eq, reduceCtorEq, decide_false, decide_true, Bool.not_false, Bool.not_true, eq_self, upd_same, L2.upd_upd, List.cons.injEq, and_assoc]
    have n3 := hp.n3
    have hR0 : remL Th (zeroL Th.length) ≤ 6 := Nat.le_trans (remL_le hp.l2) (by omega)
    refine mk_cuts hp hw hok ta tc fun a H1 e1 cf => ?_
    obtain ⟨nu, Pr, cl, la, fi, s1, o1, kvs, os, cu, hs, hS, ho, hO⟩ := id cf.ex
    refine cu.mth ⟨_, z, e0, Th, ws, c, v, rfl, cf, hz.ext e1, hc, e1.2.tab ta, e1.2.tab tb, fun H2 p e2 hp2 => ?_⟩
    have hp2 : H2 p = some (.dT (avK (avR Th e0 Th.length ws c v))) := hp2
    have cu2 := cu.ext e2
    obtain ⟨fa, rfl, hfa⟩ := id cu2.first
    refine cu2.f_first ck ⟨p, rfl, _, DGet.t (k := ckey (zeroL Th.length)) hp2 (by rw [ckey_tup]; exact hfa), ?_⟩
    rw [avK_val]
    by_cases hin : zeroL Th.length ∈ avR Th e0 Th.length ws c v
    · have hev : everyR Th e0 Th.length ws c v = some (everyM (laterM Th Th.length ws) (lastM Th.length ws) (avR Th e0 Th.length ws c v) (remL Th (zeroL Th.length) + 1) (zeroL Th.length)) := if_pos hin
      rw [hev] at q
      simp only [hin, if_true, Option.isSome_some, tVar, tC, tOp, tUn, tTest, tChain, tNil, tCons, tTup, tLst, tCall, tMake, tCB, tIf, tAndV, tOrV, tNotV, tIsN, tNotN, tB, tAnd, tOr, tNot, tNext, tSeq, tDrop, tRet, tRetN, tIfS, tNever, gName, gNil, gCons, gSub, tAsg, tAug, tAugS, ipI, tBM, tBM0, tSl, tNoPart, tPart, tDGet, tDIn, tDNotIn, tDGet1, sDPut, tMth, tDNewT, tDNewK, tYes, rI0, rI, rU, rAdd, rSub, rEq, rNe, L2.start, List.map_cons, List.map_nil, List.length_cons, List.length_nil, List.replicate, List.append_nil, List.nil_append, List.cons_append, List.getElem?_cons_zero, List.getElem?_cons_succ, List.set_cons_zero, List.set_cons_succ, Option.some.injEq, V.int.injEq, V.bl.injEq, V.ref.injEq, V.str.injEq, exists_eq_left', exists_eq_left, exists_and_left, true_and, and_true, Nat.reduceAdd, Nat.reduceSub, Nat.add_one_sub_one, Nat.sub_self, Bool.true_eq_false, Bool.false_eq_true, if_true, if_false, ite_true, ite_false, cxOf, Cx.nox, decide_eq_true_eq, reduceCtorEq, decide_false, decide_true, Bool.not_false, Bool.not_true, eq_self, upd_same, L2.upd_upd, List.cons.injEq, and_assoc]
      refine cu2.f_first ck ⟨szN (by decide), fun p1 np1 => ?_⟩
      have e3 : Ext H2 (upd H2 p1 (.tup [])) := Ext.new np1
      have hp1 : Tn (upd H2 p1 (.tup [])) (.ref p1) [] := ⟨p1, rfl, upd_same⟩
      generalize upd H2 p1 (.tup []) = H3 at *
      refine while_m (EvI H2 x y z a p e0 Th ws c v) (remL Th (zeroL Th.length) + 1) ⟨zeroL Th.length, [], _, _, none, rfl, e3, Tu.ext cu2.first e3, hp1, rfl, hin, (found_ok (runOk_of rfl hok)).zero, by omega, by simp⟩ ?_
      rintro m σ' H' ⟨cut, way, cv, wv, th, rfl, eH, hcv, hwv, hev2, hca, hck, hrm, hwl⟩
      simp only [tVar, tC, tOp, tUn, tTest, tChain, tNil, tCons, tTup, tLst, tCall, tMake, tCB, tIf, tAndV, tOrV, tNotV, tIsN, tNotN, tB, tAnd, tOr, tNot, tNext, tSeq, tDrop, tRet, tRetN, tIfS, tNever, gName, gNil, gCons, gSub, tAsg, tAug, tAugS, ipI, tBM, tBM0, tSl, tNoPart, tPart, tDGet, tDIn, tDNotIn, tDGet1, sDPut, tMth, tDNewT, tDNewK, tYes, rI0, rI, rU, rAdd, rSub, rEq, rNe, L2.start, List.map_cons, List.map_nil, List.length_cons, List.length_nil, List.replicate, List.append_nil, List.nil_append, List.cons_append, List.getElem?_cons_zero, List.getElem?_cons_succ, List.set_cons_zero, List.set_cons_succ, Option.some.injEq, V.int.injEq, V.bl.injEq, V.ref.injEq, V.str.injEq, exists_eq_left', exists_eq_left, exists_and_left, true_and, and_true, Nat.reduceAdd, Nat.reduceSub, Nat.add_one_sub_one, Nat.sub_self, Bool.true_eq_false, Bool.false_eq_true, if_true, if_false, ite_true, ite_false, cxOf, Cx.nox, decide_eq_true_eq, reduceCtorEq, decide_false, decide_true, Bool.not_false, Bool.not_true, eq_self, upd_same, L2.upd_upd, List.cons.injEq, and_assoc]
      have cuH := cu2.ext eH
      refine cuH.f_last ck (ne_N hcv cuH.last ⟨_, rfl, ?_⟩)
      obtain ⟨m, rfl⟩ : ∃ m', m = m' + 1 := ⟨m - 1, by omega⟩
      have hcl := (found_dom hok hck).2
      have e02 := (e1.trans e2).trans eH
      have hsu : everyM (laterM Th Th.length ws) (lastM Th.length ws) (avR Th e0 Th.length ws c v) (m + 1) cut = if cut = lastM Th.length ws then [] else match (laterM Th Th.length ws cut).filter fun r => decide (r.2 ∈ avR Th e0 Th.length ws c v) with
        | r :: _ => r.1 :: everyM (laterM Th Th.length ws) (lastM Th.length ws) (avR Th e0 Th.length ws c v) m r.2
        | [] => [] := rfl
      by_cases hla : cut = lastM Th.length ws
      · rw [decide_eq_true hla]
        simp only [tVar, tC, tOp, tUn, tTest, tChain, tNil, tCons, tTup, tLst, tCall, tMake, tCB, tIf, tAndV, tOrV, tNotV, tIsN, tNotN, tB, tAnd, tOr, tNot, tNext, tSeq, tDrop, tRet, tRetN, tIfS, tNever, gName, gNil, gCons, gSub, tAsg, tAug, tAugS, ipI, tBM, tBM0, tSl, tNoPart, tPart, tDGet, tDIn, tDNotIn, tDGet1, sDPut, tMth, tDNewT, tDNewK, tYes, rI0, rI, rU, rAdd, rSub, rEq, rNe, L2.start, List.map_cons, List.map_nil, List.length_cons, List.length_nil, List.replicate, List.append_nil, List.nil_append, List.cons_append, List.getElem?_cons_zero, List.getElem?_cons_succ, List.set_cons_zero, List.set_cons_succ, Option.some.injEq, V.int.injEq, V.bl.injEq, V.ref.injEq, V.str.injEq, exists_eq_left', exists_eq_left, exists_and_left, true_and, and_true, Nat.reduceAdd, Nat.reduceSub, Nat.add_one_sub_one, Nat.sub_self, Bool.true_eq_false, Bool.false_eq_true, if_true, if_false, ite_true, ite_false, cxOf, Cx.nox, decide_eq_true_eq, reduceCtorEq, decide_false, decide_true, Bool.not_false, Bool.not_true, eq_self, upd_same, L2.upd_upd, List.cons.injEq, and_assoc]
        rw [hsu, if_pos hla, List.append_nil] at hev2
        exact q wv H' e02 (by rw [← hev2]; exact hwv)
      · rw [decide_eq_false hla]
        simp only [tVar, tC, tOp, tUn, tTest, tChain, tNil, tCons, tTup, tLst, tCall, tMake, tCB, tIf, tAndV, tOrV, tNotV, tIsN, tNotN, tB, tAnd, tOr, tNot, tNext, tSeq, tDrop, tRet, tRetN, tIfS, tNever, gName, gNil, gCons, gSub, tAsg, tAug, tAugS, ipI, tBM, tBM0, tSl, tNoPart, tPart, tDGet, tDIn, tDNotIn, tDGet1, sDPut, tMth, tDNewT, tDNewK, tYes, rI0, rI, rU, rAdd, rSub, rEq, rNe, L2.start, List.map_cons, List.map_nil, List.length_cons, List.length_nil, List.replicate, List.append_nil, List.nil_append, List.cons_append, List.getElem?_cons_zero, List.getElem?_cons_succ, List.set_cons_zero, List.set_cons_succ, Option.some.injEq, V.int.injEq, V.bl.injEq, V.ref.injEq, V.str.injEq, exists_eq_left', exists_eq_left, exists_and_left, true_and, and_true, Nat.reduceAdd, Nat.reduceSub, Nat.add_one_sub_one, Nat.sub_self, Bool.true_eq_false, Bool.false_eq_true, if_true, if_false, ite_true, ite_false, cxOf, Cx.nox, decide_eq_true_eq, reduceCtorEq, decide_false, decide_true, Bool.not_false, Bool.not_true, eq_self, upd_same, L2.upd_upd, List.cons.injEq, and_assoc]
        rw [hsu, if_neg hla] at hev2
        refine ⟨EvI H2 x y z a p e0 Th ws c v m, fun σ2 H2 p => ⟨m, Nat.lt_succ_self _, p⟩, ?_⟩
        have hpH := eH.1 _ _ hp2 (by simp)
        refine lc_lC (K := K) (fun b bs H4 => Ext H' H4 ∧ A2 (LaRow H4) bs (laterM Th Th.length ws cut)) (fun R h => ?_) ?_
        · unfold iList
          simp only [tVar, tC, tOp, tUn, tTest, tChain, tNil, tCons, tTup, tLst, tCall, tMake, tCB, tIf, tAndV, tOrV, tNotV, tIsN, tNotN, tB, tAnd, tOr, tNot, tNext, tSeq, tDrop, tRet, tRetN, tIfS, tNever, gName, gNil, gCons, gSub, tAsg, tAug, tAugS, ipI, tBM, tBM0, tSl, tNoPart, tPart, tDGet, tDIn, tDNotIn, tDGet1, sDPut, tMth, tDNewT, tDNewK, tYes, rI0, rI, rU, rAdd, rSub, rEq, rNe, L2.start, List.map_cons, List.map_nil, List.length_cons, List.length_nil, List.replicate, List.append_nil, List.nil_append, List.cons_append, List.getElem?_cons_zero, List.getElem?_cons_succ, List.set_cons_zero, List.set_cons_succ, Option.some.injEq, V.int.injEq, V.bl.injEq, V.ref.injEq, V.str.injEq, exists_eq_left', exists_eq_left, exists_and_left, true_and, and_true, Nat.reduceAdd, Nat.reduceSub, Nat.add_one_sub_one, Nat.sub_self, Bool.true_eq_false, Bool.false_eq_true, if_true, if_false, ite_true, ite_false, cxOf, Cx.nox, decide_eq_true_eq, reduceCtorEq, decide_false, decide_true, Bool.not_false, Bool.not_true, eq_self, upd_same, L2.upd_upd, List.cons.injEq, and_assoc]
          exact cuH.mth ⟨_, cv, e0, Th, ws, nu, Pr, cl, la, .ref fa, .ref s1, .ref o1, cut, rfl, cuH, hcv, hcl, e02.2.tab ta, fun H4 b bs e nb hb hB => ⟨b, rfl, ⟨_, SqL.of hb⟩, h b bs H4 ⟨e, hB⟩ hb⟩⟩
        · rintro b bs H4 ⟨e4, hB⟩ hb D nD
          refine ⟨fun j Hj => Ext H4 Hj ∧ ∃ its, Hj D = some (.lst its) ∧ A2 (LaRow Hj) its (((laterM Th Th.length ws cut).take j).filter fun r => decide (r.2 ∈ avR Th e0 Th.length ws c v)),
            ⟨Ext.new nD, [], upd_same, A2.nil⟩, fun j Hj ⟨ej, _⟩ => ej.1 _ _ hb (by simp), ?_, ?_⟩
          · rintro j xx Hj hj ⟨ej, its, hD, hA⟩
            obtain ⟨r, hr1, mv, hr2, hr3⟩ := hB.2 j xx hj
            obtain ⟨t, mc⟩ := r
            have htk : (laterM Th Th.length ws cut).take (j + 1) = (laterM Th Th.length ws cut).take j ++ [(t, mc)] := take_g hr1
            obtain ⟨ma, rfl, hma⟩ := id hr3
            have hpj := (e4.trans ej).1 _ _ hpH (by simp)
            have hmaj : Hj ma = some (.tup (nI mc)) := ej.1 _ _ hma (by simp)
            simp only [tVar, tC, tOp, tUn, tTest, tChain, tNil, tCons, tTup, tLst, tCall, tMake, tCB, tIf, tAndV, tOrV, tNotV, tIsN, tNotN, tB, tAnd, tOr, tNot, tNext, tSeq, tDrop, tRet, tRetN, tIfS, tNever, gName, gNil, gCons, gSub, tAsg, tAug, tAugS, ipI, tBM, tBM0, tSl, tNoPart, tPart, tDGet, tDIn, tDNotIn, tDGet1, sDPut, tMth, tDNewT, tDNewK, tYes, rI0, rI, rU, rAdd, rSub, rEq, rNe, L2.start, List.map_cons, List.map_nil, List.length_cons, List.length_nil, List.replicate, List.append_nil, List.nil_append, List.cons_append, List.getElem?_cons_zero, List.getElem?_cons_succ, List.set_cons_zero, List.set_cons_succ, Option.some.injEq, V.int.injEq, V.bl.injEq, V.ref.injEq, V.str.injEq, exists_eq_left', exists_eq_left, exists_and_left, true_and, and_true, Nat.reduceAdd, Nat.reduceSub, Nat.add_one_sub_one, Nat.sub_self, Bool.true_eq_false, Bool.false_eq_true, if_true, if_false, ite_true, ite_false, cxOf, Cx.nox, decide_eq_true_eq, reduceCtorEq, decide_false, decide_true, Bool.not_false, Bool.not_true, eq_self, upd_same, L2.upd_upd, List.cons.injEq, and_assoc, wipe]
            refine tu_ix 1 (hr2.ext ej) rfl ⟨_, DGet.t (k := ckey mc) hpj (by rw [ckey_tup]; exact hmaj), ?_⟩
            rw [avK_val, htk, List.filter_append]
            have h3 := later_len Th Th.length ws cut
            by_cases hm : mc ∈ avR Th e0 Th.length ws c v
            · simp only [hm, if_true, Option.isSome_some, tVar, tC, tOp, tUn, tTest, tChain, tNil, tCons, tTup, tLst, tCall, tMake, tCB, tIf, tAndV, tOrV, tNotV, tIsN, tNotN, tB, tAnd, tOr, tNot, tNext, tSeq, tDrop, tRet, tRetN, tIfS, tNever, gName, gNil, gCons, gSub, tAsg, tAug, tAugS, ipI, tBM, tBM0, tSl, tNoPart, tPart, tDGet, tDIn, tDNotIn, tDGet1, sDPut, tMth, tDNewT, tDNewK, tYes, rI0, rI, rU, rAdd, rSub, rEq, rNe, L2.start, List.map_cons, List.map_nil, List.length_cons, List.length_nil, List.replicate, List.append_nil, List.nil_append, List.cons_append, List.getElem?_cons_zero, List.getElem?_cons_succ, List.set_cons_zero, List.set_cons_succ, Option.some.injEq, V.int.injEq, V.bl.injEq, V.ref.injEq, V.str.injEq, exists_eq_left', exists_eq_left, exists_and_left, true_and, and_true, Nat.reduceAdd, Nat.reduceSub, Nat.add_one_sub_one, Nat.sub_self, Bool.true_eq_false, Bool.false_eq_true, if_true, if_false, ite_true, ite_false, cxOf, Cx.nox, decide_eq_true_eq, reduceCtorEq, decide_false, decide_true, Bool.not_false, Bool.not_true, eq_self, upd_same, L2.upd_upd, List.cons.injEq, and_assoc]
              refine ⟨_, hD, small1000 ?_, ej.upd nD, _, rfl, ?_⟩
              · rw [hA.1]
                have := List.length_filter_le (fun r : Nat × List Nat => decide (r.2 ∈ avR Th e0 Th.length ws c v)) ((laterM Th Th.length ws cut).take j)
                rw [List.length_take] at this
                omega
              · have : [(t, mc)].filter (fun r : Nat × List Nat => decide (r.2 ∈ avR Th e0 Th.length ws c v)) = [(t, mc)] := by simp [hm]
                rw [this]
                have kk := Kp.lst (o := .lst (its ++ [xx])) hD
                have lr : LaRow Hj xx (t, mc) := ⟨V.ref ma, hr2.ext ej, Tu.ext hr3 ej⟩
                refine A2.snoc (hA.imp fun _ _ zz => zz.kp kk) (lr.kp kk)
            · simp only [hm, if_false, Option.isSome_none, tVar, tC, tOp, tUn, tTest, tChain, tNil, tCons, tTup, tLst, tCall, tMake, tCB, tIf, tAndV, tOrV, tNotV, tIsN, tNotN, tB, tAnd, tOr, tNot, tNext, tSeq, tDrop, tRet, tRetN, tIfS, tNever, gName, gNil, gCons, gSub, tAsg, tAug, tAugS, ipI, tBM, tBM0, tSl, tNoPart, tPart, tDGet, tDIn, tDNotIn, tDGet1, sDPut, tMth, tDNewT, tDNewK, tYes, rI0, rI, rU, rAdd, rSub, rEq, rNe, L2.start, List.map_cons, List.map_nil, List.length_cons, List.length_nil, List.replicate, List.append_nil, List.nil_append, List.cons_append, List.getElem?_cons_zero, List.getElem?_cons_succ, List.set_cons_zero, List.set_cons_succ, Option.some.injEq, V.int.injEq, V.bl.injEq, V.ref.injEq, V.str.injEq, exists_eq_left', exists_eq_left, exists_and_left, true_and, and_true, Nat.reduceAdd, Nat.reduceSub, Nat.add_one_sub_one, Nat.sub_self, Bool.true_eq_false, Bool.false_eq_true, if_true, if_false, ite_true, ite_false, cxOf, Cx.nox, decide_eq_true_eq, reduceCtorEq, decide_false, decide_true, Bool.not_false, Bool.not_true, eq_self, upd_same, L2.upd_upd, List.cons.injEq, and_assoc]
              refine ⟨ej, its, hD, ?_⟩
              have : [(t, mc)].filter (fun r : Nat × List Nat => decide (r.2 ∈ avR Th e0 Th.length ws c v)) = [] := by simp [hm]
              simpa [hm] using hA
          · rintro Hj ⟨ej, its, hD, hA⟩
            rw [hB.1, List.take_length] at hA
            obtain ⟨r, hrl, hra⟩ : ∃ r ∈ laterM Th Th.length ws cut, r.2 ∈ avR Th e0 Th.length ws c v := by
              rcases (avoid_next cut hca).2 with h | h
              · exact absurd h hla
              · exact h
            cases hfi : (laterM Th Th.length ws cut).filter fun r => decide (r.2 ∈ avR Th e0 Th.length ws c v) with
            | nil =>
              have : r ∈ (laterM Th Th.length ws cut).filter fun r => decide (r.2 ∈ avR Th e0 Th.length ws c v) := List.mem_filter.mpr ⟨hrl, decide_eq_true hra⟩
              rw [hfi] at this; cases this
            | cons r0 rs =>
              rw [hfi] at hev2 hA
              have hr0 : r0 ∈ (laterM Th Th.length ws cut).filter fun r => decide (r.2 ∈ avR Th e0 Th.length ws c v) := by rw [hfi]; exact List.mem_cons_self
              obtain ⟨hr01, hr02⟩ := List.mem_filter.mp hr0
              obtain ⟨k1, k2, k3, k4, k5⟩ := later_rem hok hck hr01
              obtain ⟨u, hu, mv, hu1, hu2⟩ := hA.at (i := 0) (b := r0) rfl
              refine ls_ix 0 hD hu (tu_tgt hu1 ?_)
              simp only [tVar, tC, tOp, tUn, tTest, tChain, tNil, tCons, tTup, tLst, tCall, tMake, tCB, tIf, tAndV, tOrV, tNotV, tIsN, tNotN, tB, tAnd, tOr, tNot, tNext, tSeq, tDrop, tRet, tRetN, tIfS, tNever, gName, gNil, gCons, gSub, tAsg, tAug, tAugS, ipI, tBM, tBM0, tSl, tNoPart, tPart, tDGet, tDIn, tDNotIn, tDGet1, sDPut, tMth, tDNewT, tDNewK, tYes, rI0, rI, rU, rAdd, rSub, rEq, rNe, L2.start, List.map_cons, List.map_nil, List.length_cons, List.length_nil, List.replicate, List.append_nil, List.nil_append, List.cons_append, List.getElem?_cons_zero, List.getElem?_cons_succ, List.set_cons_zero, List.set_cons_succ, Option.some.injEq, V.int.injEq, V.bl.injEq, V.ref.injEq, V.str.injEq, exists_eq_left', exists_eq_left, exists_and_left, true_and, and_true, Nat.reduceAdd, Nat.reduceSub, Nat.add_one_sub_one, Nat.sub_self, Bool.true_eq_false, Bool.false_eq_true, if_true, if_false, ite_true, ite_false, cxOf, Cx.nox, decide_eq_true_eq, reduceCtorEq, decide_false, decide_true, Bool.not_false, Bool.not_true, eq_self, upd_same, L2.upd_upd, List.cons.injEq, and_assoc]
              refine ⟨szN (by decide), fun q1 nq1 => ⟨_, _, (Tu.ext (Tu.ext hwv e4) ej).ext (Ext.new nq1), ⟨q1, rfl, upd_same⟩, szN (by rw [nI_length]; show way.length + 1 ≤ 1000; omega), fun z1 H9 e9 hz1 => ?_⟩⟩
              have e9' := (Ext.new (o := .tup [V.int (r0.1 : Nat)]) nq1).trans e9
              have hz1' : Tn H9 z1 (way ++ [r0.1]) := by
                have : nI way ++ [V.int (r0.1 : Nat)] = nI (way ++ [r0.1]) := (nI_append way [r0.1]).symm
                show Tu H9 z1 (nI (way ++ [r0.1]))
                rw [← this]; exact hz1
              refine ⟨r0.2, way ++ [r0.1], mv, z1, _, rfl, ((eH.trans e4).trans ej).trans e9', Tu.ext hu2 e9', hz1', ?_, of_decide_eq_true hr02, k1, by omega, by rw [List.length_append]; show way.length + 1 + _ = _; omega⟩
              rw [← hev2, List.append_assoc]; rfl
    · have hev : everyR Th e0 Th.length ws c v = none := if_neg hin
      rw [hev] at q
      simp only [hin, if_false, Option.isSome_none, tVar, tC, tOp, tUn, tTest, tChain, tNil, tCons, tTup, tLst, tCall, tMake, tCB, tIf, tAndV, tOrV, tNotV, tIsN, tNotN, tB, tAnd, tOr, tNot, tNext, tSeq, tDrop, tRet, tRetN, tIfS, tNever, gName, gNil, gCons, gSub, tAsg, tAug, tAugS, ipI, tBM, tBM0, tSl, tNoPart, tPart, tDGet, tDIn, tDNotIn, tDGet1, sDPut, tMth, tDNewT, tDNewK, tYes, rI0, rI, rU, rAdd, rSub, rEq, rNe, L2.start, List.map_cons, List.map_nil, List.length_cons, List.length_nil, List.replicate, List.append_nil, List.nil_append, List.cons_append, List.getElem?_cons_zero, List.getElem?_cons_succ, List.set_cons_zero, List.set_cons_succ, Option.some.injEq, V.int.injEq, V.bl.injEq, V.ref.injEq, V.str.injEq, exists_eq_left', exists_eq_left, exists_and_left, true_and, and_true, Nat.reduceAdd, Nat.reduceSub, Nat.add_one_sub_one, Nat.sub_self, Bool.true_eq_false, Bool.false_eq_true, if_true, if_false, ite_true, ite_false, cxOf, Cx.nox, decide_eq_true_eq, reduceCtorEq, decide_false, decide_true, Bool.not_false, Bool.not_true, eq_self, upd_same, L2.upd_upd, List.cons.injEq, and_assoc]
      exact q .non H2 (e1.trans e2) rfl

/-! ### first_run, same_runs -/
abbrev sFirst : Stmt := tx 22
abbrev nFirst : List Str := ["program", "schedule", "found", "cut", "way", "thread"]
def spFirst (Pa Pc : Addr) : Sp := fun vs H Q _ => ∃ x y e0 Th ws, vs = [x, y] ∧ PW H x e0 Th ∧ Tn H y ws ∧ okw Th e0 (zeroL Th.length) ws = true ∧ GxR.TabG H Pa ∧ GxR.TabG H Pc ∧
  ∀ r H', Ext H H' → Tn H' r (frunM Th Th.length ws) → Q r H'
theorem scFirst : FnScope nFirst ["program", "schedule"] (defScope sFirst) := ⟨rfl, rfl, rfl, by decide +kernel, rfl, by decide +kernel, by decide +kernel⟩
def FiI (H0 : Hp) (x y : V) (a : Addr) (Th : Thr) (ws : List Nat) (m : Nat) (σ' : L2.St) (H' : Hp) : Prop :=
  ∃ cut way cv wv th xx vv, σ' = [some x, some y, some (.ref a), some cv, some wv, th] ∧ Ext H0 H' ∧ Tn H' cv cut ∧ Tn H' wv way ∧ way ++ firstM (laterM Th Th.length ws) (lastM Th.length ws) m cut = frunM Th Th.length ws ∧
    At Th Th.length ws cut xx vv ∧ vv.length + 1 = m ∧ way.length + vv.length = ws.length
theorem ok_first {f C Pa Pc : Addr} {fd : FuncData} (F : Fun K "first_run" "first_run" sFirst f fd) (B : Bt mg) (ck : CK K C) (c0 : CCuts P w K mg base C Pa Pc) (c1 : CLater P w K mg base C Pa) : FnOk P w K mg base CX0 8 f fd ["program", "schedule"] (spFirst Pa Pc) := by
  refine F.ok scFirst (fun vs H Q E h => ?_) (fun cdv A outer s H vs Q E hr h => ?_)
  · obtain ⟨x, y, e0, Th, ws, rfl, _⟩ := h
    rfl
  · obtain ⟨x, y, e0, Th, ws, rfl, hp, hw, hok, ta, tc, q⟩ := h
    refine ⟨_, pss_cons (ps_set (i := 2) scFirst.nd rfl (Or.inl rfl) (pe_calC c0 hr rfl (pa_cons (pv 0) (pa_cons (pv 1) pa_nil))))
      (pss_cons (ps_set (i := 3) scFirst.nd rfl (Or.inl rfl) (pe_fldR (pv 2)))
      (pss_cons (ps_set (i := 4) scFirst.nd rfl (Or.inl rfl) (pe_tup pa_nil))
      (pss_cons (ps_while PassesOwn.never (pt_cmpR (op_neD (hu64 hr)) (pv 3) (pe_fldR (pv 2)) (nomark _))
        (pss_cons (ps_asg (pe_ix ix_list (pe_mcal c1 ck.cl (hr.mono (by decide)) (pv 2) (pa_cons (pv 3) pa_nil)) pe_int (fun _ _ => rfl)) (pg_tup rfl (pgs_cons (pg_name (i := 5) scFirst.nd rfl (.inl rfl)) (pgs_cons (pg_name (i := 3) scFirst.nd rfl (.inl rfl)) pgs_nil))))
        (pss_one (ps_aug (i := 4) scFirst.nd rfl (Or.inl rfl) (pe_tup (pa_cons (pv 5) pa_nil)) ip_catS))))
      (pss_one (ps_ret (pv 4)))))), ?_⟩
    simp only [tVar, tC, tOp, tUn, tTest, tChain, tNil, tCons, tTup, tLst, tCall, tMake, tCB, tIf, tAndV, tOrV, tNotV, tIsN, tNotN, tB, tAnd, tOr, tNot, tNext, tSeq, tDrop, tRet, tRetN, tIfS, tNever, gName, gNil, gCons, gSub, tAsg, tAug, tAugS, ipI, tBM, tBM0, tSl, tNoPart, tPart, tDGet, tDIn, tDNotIn, tDGet1, sDPut, tMth, tDNewT, tDNewK, tYes, rI0, rI, rU, rAdd, rSub, rEq, rNe, L2.start, List.map_cons, List.map_nil, List.length_cons, List.length_nil, List.replicate, List.append_nil, List.nil_append, List.cons_append, List.getElem?_cons_zero, List.getElem?_cons_succ, List.set_cons_zero, List.set_cons_succ, Option.some.injEq, V.int.injEq, V.bl.injEq, V.ref.injEq, V.str.injEq, exists_eq_left', exists_eq_left, exists_and_left, true_and, and_true, Nat.reduceAdd, Nat.reduceSub, Nat.add_one_sub_one, Nat.sub_self, Bool.true_eq_false, Bool.false_eq_true, if_true, if_false, ite_true, ite_false, cxOf, Cx.nox, decide_eq_true_eq, reduceCtorEq, decide_false, decide_true, Bool.not_false, Bool.not_true, eq_self, upd_same, L2.upd_upd, List.cons.injEq, and_assoc]
    have n3 := hp.n3
    have hwl := run_len hp hok
    have R := runOk_of (n := Th.length) rfl hok
    refine mk_cuts hp hw hok ta tc fun a H1 e1 cf => ?_
    obtain ⟨nu, Pr, cl, la, fi, s1, o1, kvs, os, cu, hs, hS, ho, hO⟩ := id cf.ex
    refine cu.f_first ck ⟨szN (by decide), fun p1 np1 => ?_⟩
    have e3 : Ext H1 (upd H1 p1 (.tup [])) := Ext.new np1
    have hp1 : Tn (upd H1 p1 (.tup [])) (.ref p1) [] := ⟨p1, rfl, upd_same⟩
    generalize upd H1 p1 (.tup []) = H3 at *
    refine while_m (FiI H1 x y a Th ws) (ws.length + 1) ⟨zeroL Th.length, [], _, _, none, [], ws, rfl, e3, Tu.ext cu.first e3, hp1, rfl, At.first Th Th.length ws, rfl, by simp⟩ ?_
    rintro m σ' H' ⟨cut, way, cv, wv, th, xx, vv, rfl, eH, hcv, hwv, hev, hat, hvm, hwl2⟩
    subst hvm
    simp only [tVar, tC, tOp, tUn, tTest, tChain, tNil, tCons, tTup, tLst, tCall, tMake, tCB, tIf, tAndV, tOrV, tNotV, tIsN, tNotN, tB, tAnd, tOr, tNot, tNext, tSeq, tDrop, tRet, tRetN, tIfS, tNever, gName, gNil, gCons, gSub, tAsg, tAug, tAugS, ipI, tBM, tBM0, tSl, tNoPart, tPart, tDGet, tDIn, tDNotIn, tDGet1, sDPut, tMth, tDNewT, tDNewK, tYes, rI0, rI, rU, rAdd, rSub, rEq, rNe, L2.start, List.map_cons, List.map_nil, List.length_cons, List.length_nil, List.replicate, List.append_nil, List.nil_append, List.cons_append, List.getElem?_cons_zero, List.getElem?_cons_succ, List.set_cons_zero, List.set_cons_succ, Option.some.injEq, V.int.injEq, V.bl.injEq, V.ref.injEq, V.str.injEq, exists_eq_left', exists_eq_left, exists_and_left, true_and, and_true, Nat.reduceAdd, Nat.reduceSub, Nat.add_one_sub_one, Nat.sub_self, Bool.true_eq_false, Bool.false_eq_true, if_true, if_false, ite_true, ite_false, cxOf, Cx.nox, decide_eq_true_eq, reduceCtorEq, decide_false, decide_true, Bool.not_false, Bool.not_true, eq_self, upd_same, L2.upd_upd, List.cons.injEq, and_assoc]
    have cuH := cu.ext eH
    refine cuH.f_last ck (ne_N hcv cuH.last ⟨_, rfl, ?_⟩)
    have hcl := hat.len
    have e02 := e1.trans eH
    have hsu : firstM (laterM Th Th.length ws) (lastM Th.length ws) (vv.length + 1) cut = if cut = lastM Th.length ws then [] else match laterM Th Th.length ws cut with
      | r :: _ => r.1 :: firstM (laterM Th Th.length ws) (lastM Th.length ws) vv.length r.2
      | [] => [] := rfl
    by_cases hla : cut = lastM Th.length ws
    · rw [decide_eq_true hla]
      simp only [tVar, tC, tOp, tUn, tTest, tChain, tNil, tCons, tTup, tLst, tCall, tMake, tCB, tIf, tAndV, tOrV, tNotV, tIsN, tNotN, tB, tAnd, tOr, tNot, tNext, tSeq, tDrop, tRet, tRetN, tIfS, tNever, gName, gNil, gCons, gSub, tAsg, tAug, tAugS, ipI, tBM, tBM0, tSl, tNoPart, tPart, tDGet, tDIn, tDNotIn, tDGet1, sDPut, tMth, tDNewT, tDNewK, tYes, rI0, rI, rU, rAdd, rSub, rEq, rNe, L2.start, List.map_cons, List.map_nil, List.length_cons, List.length_nil, List.replicate, List.append_nil, List.nil_append, List.cons_append, List.getElem?_cons_zero, List.getElem?_cons_succ, List.set_cons_zero, List.set_cons_succ, Option.some.injEq, V.int.injEq, V.bl.injEq, V.ref.injEq, V.str.injEq, exists_eq_left', exists_eq_left, exists_and_left, true_and, and_true, Nat.reduceAdd, Nat.reduceSub, Nat.add_one_sub_one, Nat.sub_self, Bool.true_eq_false, Bool.false_eq_true, if_true, if_false, ite_true, ite_false, cxOf, Cx.nox, decide_eq_true_eq, reduceCtorEq, decide_false, decide_true, Bool.not_false, Bool.not_true, eq_self, upd_same, L2.upd_upd, List.cons.injEq, and_assoc]
      rw [hsu, if_pos hla, List.append_nil] at hev
      exact q wv H' e02 (by rw [← hev]; exact hwv)
    · rw [decide_eq_false hla]
      simp only [tVar, tC, tOp, tUn, tTest, tChain, tNil, tCons, tTup, tLst, tCall, tMake, tCB, tIf, tAndV, tOrV, tNotV, tIsN, tNotN, tB, tAnd, tOr, tNot, tNext, tSeq, tDrop, tRet, tRetN, tIfS, tNever, gName, gNil, gCons, gSub, tAsg, tAug, tAugS, ipI, tBM, tBM0, tSl, tNoPart, tPart, tDGet, tDIn, tDNotIn, tDGet1, sDPut, tMth, tDNewT, tDNewK, tYes, rI0, rI, rU, rAdd, rSub, rEq, rNe, L2.start, List.map_cons, List.map_nil, List.length_cons, List.length_nil, List.replicate, List.append_nil, List.nil_append, List.cons_append, List.getElem?_cons_zero, List.getElem?_cons_succ, List.set_cons_zero, List.set_cons_succ, Option.some.injEq, V.int.injEq, V.bl.injEq, V.ref.injEq, V.str.injEq, exists_eq_left', exists_eq_left, exists_and_left, true_and, and_true, Nat.reduceAdd, Nat.reduceSub, Nat.add_one_sub_one, Nat.sub_self, Bool.true_eq_false, Bool.false_eq_true, if_true, if_false, ite_true, ite_false, cxOf, Cx.nox, decide_eq_true_eq, reduceCtorEq, decide_false, decide_true, Bool.not_false, Bool.not_true, eq_self, upd_same, L2.upd_upd, List.cons.injEq, and_assoc]
      rw [hsu, if_neg hla] at hev
      refine ⟨FiI H1 x y a Th ws vv.length, fun σ2 H2 p => ⟨vv.length, Nat.lt_succ_self _, p⟩, ?_⟩
      refine cuH.mth ⟨_, cv, e0, Th, ws, nu, Pr, cl, la, fi, .ref s1, .ref o1, cut, rfl, cuH, hcv, hcl, e02.2.tab ta, fun H4 b bs e4 nb hb hB => ?_⟩
      cases hlt : laterM Th Th.length ws cut with
      | nil => exact absurd hlt (R.later_ne hat hla)
      | cons r0 rs =>
        rw [hlt] at hev hB
        have hr0 : r0 ∈ laterM Th Th.length ws cut := by rw [hlt]; exact List.mem_cons_self
        obtain ⟨q1, q2⟩ := (R.mem_later hat).mp hr0
        have hat2 := hat.next R q1
        rw [← q2] at hat2
        have hlen := List.length_erase_of_mem (fr_mem q1)
        have hpos : 0 < vv.length := List.length_pos_of_mem (fr_mem q1)
        obtain ⟨u, hu, mv, hu1, hu2⟩ := hB.at (i := 0) (b := r0) rfl
        refine ls_ix 0 hb hu (tu_tgt hu1 ?_)
        simp only [tVar, tC, tOp, tUn, tTest, tChain, tNil, tCons, tTup, tLst, tCall, tMake, tCB, tIf, tAndV, tOrV, tNotV, tIsN, tNotN, tB, tAnd, tOr, tNot, tNext, tSeq, tDrop, tRet, tRetN, tIfS, tNever, gName, gNil, gCons, gSub, tAsg, tAug, tAugS, ipI, tBM, tBM0, tSl, tNoPart, tPart, tDGet, tDIn, tDNotIn, tDGet1, sDPut, tMth, tDNewT, tDNewK, tYes, rI0, rI, rU, rAdd, rSub, rEq, rNe, L2.start, List.map_cons, List.map_nil, List.length_cons, List.length_nil, List.replicate, List.append_nil, List.nil_append, List.cons_append, List.getElem?_cons_zero, List.getElem?_cons_succ, List.set_cons_zero, List.set_cons_succ, Option.some.injEq, V.int.injEq, V.bl.injEq, V.ref.injEq, V.str.injEq, exists_eq_left', exists_eq_left, exists_and_left, true_and, and_true, Nat.reduceAdd, Nat.reduceSub, Nat.add_one_sub_one, Nat.sub_self, Bool.true_eq_false, Bool.false_eq_true, if_true, if_false, ite_true, ite_false, cxOf, Cx.nox, decide_eq_true_eq, reduceCtorEq, decide_false, decide_true, Bool.not_false, Bool.not_true, eq_self, upd_same, L2.upd_upd, List.cons.injEq, and_assoc]
        refine ⟨szN (by decide), fun q1 nq1 => ⟨_, _, (Tu.ext hwv e4).ext (Ext.new nq1), ⟨q1, rfl, upd_same⟩, szN (by rw [nI_length]; show way.length + 1 ≤ 1000; omega), fun z1 H9 e9 hz1 => ?_⟩⟩
        have e9' := (Ext.new (o := .tup [V.int (r0.1 : Nat)]) nq1).trans e9
        have hz1' : Tn H9 z1 (way ++ [r0.1]) := by
          have : nI way ++ [V.int (r0.1 : Nat)] = nI (way ++ [r0.1]) := (nI_append way [r0.1]).symm
          show Tu H9 z1 (nI (way ++ [r0.1]))
          rw [← this]; exact hz1
        refine ⟨r0.2, way ++ [r0.1], mv, z1, _, _, vv.erase r0.1, rfl, (eH.trans e4).trans e9', Tu.ext hu2 e9', hz1', ?_, hat2, by omega, by rw [List.length_append]; show way.length + 1 + _ = _; omega⟩
        rw [← hev, List.append_assoc]
        rfl
abbrev CFirst (P : Program) (w : World) (K : PySem.W.Frag) (mg : Str → Option Value) (base : Heap) (Pa Pc : Addr) : Prop := Cal P w K mg base 8 "first_run" ["program", "schedule"] (spFirst Pa Pc)
abbrev sSame : Stmt := tx 23
def spSame (Pa Pc : Addr) : Sp := fun vs H Q _ => ∃ x y z e0 Th ws us, vs = [x, y, z] ∧ PW H x e0 Th ∧ Tn H y ws ∧ okw Th e0 (zeroL Th.length) ws = true ∧ Tn H z us ∧ okw Th e0 (zeroL Th.length) us = true ∧ GxR.TabG H Pa ∧ GxR.TabG H Pc ∧
  ∀ H', Ext H H' → Q (.bl (decide (frunM Th Th.length ws = frunM Th Th.length us))) H'
theorem scSame : FnScope ["program", "schedule", "other"] ["program", "schedule", "other"] (defScope sSame) := ⟨rfl, rfl, rfl, by decide +kernel, rfl, by decide +kernel, by decide +kernel⟩
theorem ok_same {f Pa Pc : Addr} {fd : FuncData} (F : Fun K "same_runs" "same_runs" sSame f fd) (c1 : CFirst P w K mg base Pa Pc) : FnOk P w K mg base CX0 9 f fd ["program", "schedule", "other"] (spSame Pa Pc) := by
  refine F.ok scSame (fun vs H Q E h => ?_) (fun cdv A outer s H vs Q E hr h => ?_)
  · obtain ⟨x, y, z, e0, Th, ws, us, rfl, _⟩ := h
    rfl
  · obtain ⟨x, y, z, e0, Th, ws, us, rfl, hp, hw, hok, hu, hok2, ta, tc, q⟩ := h
    refine ⟨_, pss_one (ps_ret (pe_cmpR (op_eqD (hu64 hr)) (pe_cal c1 hr rfl (pa_cons (pv 0) (pa_cons (pv 1) pa_nil))) (pe_cal c1 hr rfl (pa_cons (pv 0) (pa_cons (pv 2) pa_nil))) (nomark _))), ?_⟩
    simp only [tVar, tC, tOp, tUn, tTest, tChain, tNil, tCons, tTup, tLst, tCall, tMake, tCB, tIf, tAndV, tOrV, tNotV, tIsN, tNotN, tB, tAnd, tOr, tNot, tNext, tSeq, tDrop, tRet, tRetN, tIfS, tNever, gName, gNil, gCons, gSub, tAsg, tAug, tAugS, ipI, tBM, tBM0, tSl, tNoPart, tPart, tDGet, tDIn, tDNotIn, tDGet1, sDPut, tMth, tDNewT, tDNewK, tYes, rI0, rI, rU, rAdd, rSub, rEq, rNe, L2.start, List.map_cons, List.map_nil, List.length_cons, List.length_nil, List.replicate, List.append_nil, List.nil_append, List.cons_append, List.getElem?_cons_zero, List.getElem?_cons_succ, List.set_cons_zero, List.set_cons_succ, Option.some.injEq, V.int.injEq, V.bl.injEq, V.ref.injEq, V.str.injEq, exists_eq_left', exists_eq_left, exists_and_left, true_and, and_true, Nat.reduceAdd, Nat.reduceSub, Nat.add_one_sub_one, Nat.sub_self, Bool.true_eq_false, Bool.false_eq_true, if_true, if_false, ite_true, ite_false, cxOf, Cx.nox, decide_eq_true_eq, reduceCtorEq, decide_false, decide_true, Bool.not_false, Bool.not_true, eq_self, upd_same, L2.upd_upd, List.cons.injEq, and_assoc]
    refine ⟨x, y, e0, Th, ws, rfl, hp, hw, hok, ta, tc, fun r H1 e1 hr1 => ⟨x, z, e0, Th, us, rfl, hp.ext e1, hu.ext e1, hok2, e1.2.tab ta, e1.2.tab tc, fun r2 H2 e2 hr2 => ?_⟩⟩
    exact eq_N (Tu.ext hr1 e2) hr2 (q H2 (e1.trans e2))
/-! ### barred_behind -/
theorem in_nI (t : Nat) (B : List Nat) : inV (.int (t : Nat)) (nI B) = decide (t ∈ B) := by
  unfold inV nI
  induction B with
  | nil => rfl
  | cons b B ih =>
    rw [List.map_cons, List.any_cons, ih]
    by_cases e : b = t
    · subst e; simp [eqV]
    · have : eqV (.int ((b : Nat) : Int)) (.int ((t : Nat) : Int)) = false := by
        simp only [eqV]
        exact beq_eq_false_iff_ne.mpr (by omega)
      have e' : ¬ t = b := fun z => e z.symm
      simp [this, e']
theorem flat_nI (B : List Nat) : (nI B).all flatV = true := by
  unfold nI
  rw [List.all_map, List.all_eq_true]
  intro n _; rfl
theorem in_N {K : PySem.W.Frag} {H : Hp} {x : V} {B : List Nat} {t : Nat} {Q : VK} (h : Tn H x B) (q : Q (.bl (decide (t ∈ B))) H) : rIn K false (.int (t : Nat)) x H Q := by
  obtain ⟨a, rfl, ha⟩ := h
  refine ⟨a, _, rfl, .inr (SqT.of ha), rfl, flat_nI B, ?_⟩
  rw [if_neg (by decide), in_nI]; exact q
theorem notin_N {K : PySem.W.Frag} {H : Hp} {x : V} {B : List Nat} {t : Nat} {Q : VK} (h : Tn H x B) (q : Q (.bl (!decide (t ∈ B))) H) : rIn K true (.int (t : Nat)) x H Q := by
  obtain ⟨a, rfl, ha⟩ := h
  refine ⟨a, _, rfl, .inr (SqT.of ha), rfl, flat_nI B, ?_⟩
  rw [if_pos rfl, in_nI]; exact q
abbrev sBar : Stmt := tx 24
abbrev nBar : List Str := ["program", "done", "barred", "thread", "step", "found", "other", "own"]
def spBar : Sp := fun vs H Q _ => ∃ x y z e0 Th d Bl t s, vs = [x, y, z, .int (t : Nat)] ∧ PW H x e0 Th ∧ Tn H y d ∧ d.length = Th.length ∧ Tn H z Bl ∧ t < Th.length ∧ nxt Th d t = some s ∧
  ∀ r H', Ext H H' → Tn H' r (barM Th d Bl t) → Q r H'
theorem scBar : FnScope nBar ["program", "done", "barred", "thread"] (defScope sBar) := ⟨rfl, rfl, rfl, by decide +kernel, rfl, by decide +kernel, by decide +kernel⟩
theorem ok_bar {f : Addr} {fd : FuncData} (F : Fun K "barred_behind" "barred_behind" sBar f fd) (B : Bt mg) (c1 : CNext P w K mg base) (c2 : CDep P w K mg base) : FnOk P w K mg base CX0 3 f fd ["program", "done", "barred", "thread"] spBar := by
  refine F.ok scBar (fun vs H Q E h => ?_) (fun cdv A outer s H vs Q E hr h => ?_)
  · obtain ⟨x, y, z, e0, Th, d, Bl, t, s0, rfl, _⟩ := h
    rfl
  · obtain ⟨x, y, z, e0, Th, d, Bl, t, s0, rfl, hp, hd, hdl, hz, ht, hs0, q⟩ := h
    have hr1 : Room 1 _ := hr.mono (by decide)
    refine ⟨_, pss_cons (ps_set (i := 4) scBar.nd rfl (Or.inl rfl) (pe_cal c1 hr1 rfl (pa_cons (pv 0) (pa_cons (pv 1) (pa_cons (pv 3) pa_nil)))))
      (pss_cons (ps_set (i := 5) scBar.nd rfl (Or.inl rfl) (pe_lst pa_nil))
      (pss_cons (ps_for PassesOwn.never rfl (pi_range1 (by rfl) B.range (pa_cons (pe_callB call_len (by rfl) B.len PySem.boot_len (pa_cons (pv 1) pa_nil)) pa_nil)) (pg_name (i := 6) scBar.nd rfl (.inl rfl))
        (pss_cons (ps_set (i := 7) scBar.nd rfl (Or.inl rfl) (pe_cal c1 hr1 rfl (pa_cons (pv 0) (pa_cons (pv 1) (pa_cons (pv 6) pa_nil)))))
        (pss_one (ps_if (PW.pt (pw_and (pt_cmpR op_ne (pv 6) (pv 3) (nomark _)) (pw_and (pt_cmpR op_notN (pv 7) pe_non (nomark _)) (pw_and (PW.pt (pw_or (pt_cmpR op_in_seq (pv 6) (pv 2) rfl) (pw_or1 (pt_cmpR op_lt (pv 6) (pv 3) (nomark _))))) (pw_and1 (pt_not (pt_val (pe_cal c2 hr rfl (pa_cons (pv 7) (pa_cons (pv 4) pa_nil))))))))))
          (pss_one (ps_expr (pe_bm PySem.F.plainAttrs_list PySem.F.slot_list_append PySem.F.type_list_append mt_append (pv 5) (pa_cons (pv 6) pa_nil)))) pss_nil))))
      (pss_one (ps_ret (pe_callTy cr_tupL (by rfl) B.tuple (by decide +kernel) (pa_cons (pv 5) pa_nil)))))), ?_⟩
    simp only [tVar, tC, tOp, tUn, tTest, tChain, tNil, tCons, tTup, tLst, tCall, tMake, tCB, tIf, tAndV, tOrV, tNotV, tIsN, tNotN, tB, tAnd, tOr, tNot, tNext, tSeq, tDrop, tRet, tRetN, tIfS, tNever, gName, gNil, gCons, gSub, tAsg, tAug, tAugS, ipI, tBM, tBM0, tSl, tNoPart, tPart, tDGet, tDIn, tDNotIn, tDGet1, sDPut, tMth, tDNewT, tDNewK, tYes, rI0, rI, rU, rAdd, rSub, rEq, rNe, L2.start, List.map_cons, List.map_nil, List.length_cons, List.length_nil, List.replicate, List.append_nil, List.nil_append, List.cons_append, List.getElem?_cons_zero, List.getElem?_cons_succ, List.set_cons_zero, List.set_cons_succ, Option.some.injEq, V.int.injEq, V.bl.injEq, V.ref.injEq, V.str.injEq, exists_eq_left', exists_eq_left, exists_and_left, true_and, and_true, Nat.reduceAdd, Nat.reduceSub, Nat.add_one_sub_one, Nat.sub_self, Bool.true_eq_false, Bool.false_eq_true, if_true, if_false, ite_true, ite_false, cxOf, Cx.nox, decide_eq_true_eq, reduceCtorEq, decide_false, decide_true, Bool.not_false, Bool.not_true, eq_self, upd_same, L2.upd_upd, List.cons.injEq, and_assoc]
    have n3 := hp.n3
    refine ⟨x, y, e0, Th, d, t, rfl, hp.prog, hd, ht, by omega, fun sv hsv => ⟨Nat.zero_le _, fun p np => ?_⟩⟩
    rw [hs0] at hsv
    have hsv : Tu H sv (stepV s0) := hsv
    have hnx : nx Th d t = s0 := by unfold nx; rw [hs0]; rfl
    have e1 : Ext H (upd H p (.lst [])) := Ext.new np
    refine for_rngT (n := d.length) (fun R h => ?_) (by omega) (fun i σ' H' => ∃ v6 v7 its, σ' = [some x, some y, some z, some (V.int (t : Nat)), some sv, some (.ref p), v6, v7] ∧ Ext H H' ∧ H' p = some (.lst (nI its)) ∧
        its = (List.range i).filter fun o => decide (o ≠ t) && ((nxt Th d o).isSome && ((decide (o ∈ Bl) || decide (o < t)) && !dep (nx Th d o) (nx Th d t))))
      ⟨none, none, [], rfl, e1, upd_same, rfl⟩ ?_ ?_
    · simp only [tVar, tC, tOp, tUn, tTest, tChain, tNil, tCons, tTup, tLst, tCall, tMake, tCB, tIf, tAndV, tOrV, tNotV, tIsN, tNotN, tB, tAnd, tOr, tNot, tNext, tSeq, tDrop, tRet, tRetN, tIfS, tNever, gName, gNil, gCons, gSub, tAsg, tAug, tAugS, ipI, tBM, tBM0, tSl, tNoPart, tPart, tDGet, tDIn, tDNotIn, tDGet1, sDPut, tMth, tDNewT, tDNewK, tYes, rI0, rI, rU, rAdd, rSub, rEq, rNe, L2.start, List.map_cons, List.map_nil, List.length_cons, List.length_nil, List.replicate, List.append_nil, List.nil_append, List.cons_append, List.getElem?_cons_zero, List.getElem?_cons_succ, List.set_cons_zero, List.set_cons_succ, Option.some.injEq, V.int.injEq, V.bl.injEq, V.ref.injEq, V.str.injEq, exists_eq_left', exists_eq_left, exists_and_left, true_and, and_true, Nat.reduceAdd, Nat.reduceSub, Nat.add_one_sub_one, Nat.sub_self, Bool.true_eq_false, Bool.false_eq_true, if_true, if_false, ite_true, ite_false, cxOf, Cx.nox, decide_eq_true_eq, reduceCtorEq, decide_false, decide_true, Bool.not_false, Bool.not_true, eq_self, upd_same, L2.upd_upd, List.cons.injEq, and_assoc]
      refine tu_len (hd.ext e1) ?_
      rw [nI_length]
      exact h
    · rintro i σ' H' hi ⟨v6, v7, its, rfl, e2, hp2, rfl⟩
      simp only [tVar, tC, tOp, tUn, tTest, tChain, tNil, tCons, tTup, tLst, tCall, tMake, tCB, tIf, tAndV, tOrV, tNotV, tIsN, tNotN, tB, tAnd, tOr, tNot, tNext, tSeq, tDrop, tRet, tRetN, tIfS, tNever, gName, gNil, gCons, gSub, tAsg, tAug, tAugS, ipI, tBM, tBM0, tSl, tNoPart, tPart, tDGet, tDIn, tDNotIn, tDGet1, sDPut, tMth, tDNewT, tDNewK, tYes, rI0, rI, rU, rAdd, rSub, rEq, rNe, L2.start, List.map_cons, List.map_nil, List.length_cons, List.length_nil, List.replicate, List.append_nil, List.nil_append, List.cons_append, List.getElem?_cons_zero, List.getElem?_cons_succ, List.set_cons_zero, List.set_cons_succ, Option.some.injEq, V.int.injEq, V.bl.injEq, V.ref.injEq, V.str.injEq, exists_eq_left', exists_eq_left, exists_and_left, true_and, and_true, Nat.reduceAdd, Nat.reduceSub, Nat.add_one_sub_one, Nat.sub_self, Bool.true_eq_false, Bool.false_eq_true, if_true, if_false, ite_true, ite_false, cxOf, Cx.nox, decide_eq_true_eq, reduceCtorEq, decide_false, decide_true, Bool.not_false, Bool.not_true, eq_self, upd_same, L2.upd_upd, List.cons.injEq, and_assoc]
      have hiT : i < Th.length := by omega
      refine ⟨x, y, e0, Th, d, i, rfl, (hp.ext e2).prog, hd.ext e2, hiT, hi, fun ov hov => ?_⟩
      have hfz : ((List.range i).filter fun o => decide (o ≠ t) && ((nxt Th d o).isSome && ((decide (o ∈ Bl) || decide (o < t)) && !dep (nx Th d o) (nx Th d t)))).length ≤ i := by
        have := List.length_filter_le (fun o => decide (o ≠ t) && ((nxt Th d o).isSome && ((decide (o ∈ Bl) || decide (o < t)) && !dep (nx Th d o) (nx Th d t)))) (List.range i)
        rw [List.length_range] at this
        exact this
      have stay : ∀ {Hx : Hp}, Ext H' Hx → (decide (i ≠ t) && ((nxt Th d i).isSome && ((decide (i ∈ Bl) || decide (i < t)) && !dep (nx Th d i) (nx Th d t)))) = false →
          Ext H Hx ∧ Hx p = some (.lst (nI ((List.range (i + 1)).filter fun o => decide (o ≠ t) && ((nxt Th d o).isSome && ((decide (o ∈ Bl) || decide (o < t)) && !dep (nx Th d o) (nx Th d t)))))) := fun {Hx} ex hf => by
        refine ⟨e2.trans ex, ?_⟩
        rw [List.range_succ, List.filter_append]
        have : [i].filter (fun o => decide (o ≠ t) && ((nxt Th d o).isSome && ((decide (o ∈ Bl) || decide (o < t)) && !dep (nx Th d o) (nx Th d t)))) = [] := by
          rw [List.filter_cons_of_neg (by rw [hf]; decide)]; rfl
        rw [this, List.append_nil]
        exact ex.1 _ _ hp2 (by simp)
      show _ ∧ _
      refine ⟨by rfl, ?_⟩
      by_cases hit : i = t
      · have : ((i : Int) = (t : Int)) := by rw [hit]
        simp only [this, tVar, tC, tOp, tUn, tTest, tChain, tNil, tCons, tTup, tLst, tCall, tMake, tCB, tIf, tAndV, tOrV, tNotV, tIsN, tNotN, tB, tAnd, tOr, tNot, tNext, tSeq, tDrop, tRet, tRetN, tIfS, tNever, gName, gNil, gCons, gSub, tAsg, tAug, tAugS, ipI, tBM, tBM0, tSl, tNoPart, tPart, tDGet, tDIn, tDNotIn, tDGet1, sDPut, tMth, tDNewT, tDNewK, tYes, rI0, rI, rU, rAdd, rSub, rEq, rNe, L2.start, List.map_cons, List.map_nil, List.length_cons, List.length_nil, List.replicate, List.append_nil, List.nil_append, List.cons_append, List.getElem?_cons_zero, List.getElem?_cons_succ, List.set_cons_zero, List.set_cons_succ, Option.some.injEq, V.int.injEq, V.bl.injEq, V.ref.injEq, V.str.injEq, exists_eq_left', exists_eq_left, exists_and_left, true_and, and_true, Nat.reduceAdd, Nat.reduceSub, Nat.add_one_sub_one, Nat.sub_self, Bool.true_eq_false, Bool.false_eq_true, if_true, if_false, ite_true, ite_false, cxOf, Cx.nox, decide_eq_true_eq, reduceCtorEq, decide_false, decide_true, Bool.not_false, Bool.not_true, eq_self, upd_same, L2.upd_upd, List.cons.injEq, and_assoc]
        obtain ⟨g1, g2⟩ := stay (Ext.refl _) (by rw [decide_eq_false (fun z => z hit)]; rfl)
        exact ⟨g1, _, g2, rfl⟩
      · have hne : ¬ ((i : Int) = (t : Int)) := by omega
        simp only [hne, tVar, tC, tOp, tUn, tTest, tChain, tNil, tCons, tTup, tLst, tCall, tMake, tCB, tIf, tAndV, tOrV, tNotV, tIsN, tNotN, tB, tAnd, tOr, tNot, tNext, tSeq, tDrop, tRet, tRetN, tIfS, tNever, gName, gNil, gCons, gSub, tAsg, tAug, tAugS, ipI, tBM, tBM0, tSl, tNoPart, tPart, tDGet, tDIn, tDNotIn, tDGet1, sDPut, tMth, tDNewT, tDNewK, tYes, rI0, rI, rU, rAdd, rSub, rEq, rNe, L2.start, List.map_cons, List.map_nil, List.length_cons, List.length_nil, List.replicate, List.append_nil, List.nil_append, List.cons_append, List.getElem?_cons_zero, List.getElem?_cons_succ, List.set_cons_zero, List.set_cons_succ, Option.some.injEq, V.int.injEq, V.bl.injEq, V.ref.injEq, V.str.injEq, exists_eq_left', exists_eq_left, exists_and_left, true_and, and_true, Nat.reduceAdd, Nat.reduceSub, Nat.add_one_sub_one, Nat.sub_self, Bool.true_eq_false, Bool.false_eq_true, if_true, if_false, ite_true, ite_false, cxOf, Cx.nox, decide_eq_true_eq, reduceCtorEq, decide_false, decide_true, Bool.not_false, Bool.not_true, eq_self, upd_same, L2.upd_upd, List.cons.injEq, and_assoc]
        cases hu : nxt Th d i with
        | none =>
          rw [hu] at hov
          have hov : ov = .non := hov
          simp only [hov, tVar, tC, tOp, tUn, tTest, tChain, tNil, tCons, tTup, tLst, tCall, tMake, tCB, tIf, tAndV, tOrV, tNotV, tIsN, tNotN, tB, tAnd, tOr, tNot, tNext, tSeq, tDrop, tRet, tRetN, tIfS, tNever, gName, gNil, gCons, gSub, tAsg, tAug, tAugS, ipI, tBM, tBM0, tSl, tNoPart, tPart, tDGet, tDIn, tDNotIn, tDGet1, sDPut, tMth, tDNewT, tDNewK, tYes, rI0, rI, rU, rAdd, rSub, rEq, rNe, L2.start, List.map_cons, List.map_nil, List.length_cons, List.length_nil, List.replicate, List.append_nil, List.nil_append, List.cons_append, List.getElem?_cons_zero, List.getElem?_cons_succ, List.set_cons_zero, List.set_cons_succ, Option.some.injEq, V.int.injEq, V.bl.injEq, V.ref.injEq, V.str.injEq, exists_eq_left', exists_eq_left, exists_and_left, true_and, and_true, Nat.reduceAdd, Nat.reduceSub, Nat.add_one_sub_one, Nat.sub_self, Bool.true_eq_false, Bool.false_eq_true, if_true, if_false, ite_true, ite_false, cxOf, Cx.nox, decide_eq_true_eq, reduceCtorEq, decide_false, decide_true, Bool.not_false, Bool.not_true, eq_self, upd_same, L2.upd_upd, List.cons.injEq, and_assoc]
          obtain ⟨g1, g2⟩ := stay (Ext.refl _) (by rw [hu]; simp)
          exact ⟨g1, _, g2, rfl⟩
        | some u =>
          rw [hu] at hov
          have hov : Tu H' ov (stepV u) := hov
          have hnu : nx Th d i = u := by unfold nx; rw [hu]; rfl
          have hnon : ¬ ov = .non := by
            obtain ⟨a, rfl, _⟩ := hov
            intro z; cases z
          simp only [hnon, tVar, tC, tOp, tUn, tTest, tChain, tNil, tCons, tTup, tLst, tCall, tMake, tCB, tIf, tAndV, tOrV, tNotV, tIsN, tNotN, tB, tAnd, tOr, tNot, tNext, tSeq, tDrop, tRet, tRetN, tIfS, tNever, gName, gNil, gCons, gSub, tAsg, tAug, tAugS, ipI, tBM, tBM0, tSl, tNoPart, tPart, tDGet, tDIn, tDNotIn, tDGet1, sDPut, tMth, tDNewT, tDNewK, tYes, rI0, rI, rU, rAdd, rSub, rEq, rNe, L2.start, List.map_cons, List.map_nil, List.length_cons, List.length_nil, List.replicate, List.append_nil, List.nil_append, List.cons_append, List.getElem?_cons_zero, List.getElem?_cons_succ, List.set_cons_zero, List.set_cons_succ, Option.some.injEq, V.int.injEq, V.bl.injEq, V.ref.injEq, V.str.injEq, exists_eq_left', exists_eq_left, exists_and_left, true_and, and_true, Nat.reduceAdd, Nat.reduceSub, Nat.add_one_sub_one, Nat.sub_self, Bool.true_eq_false, Bool.false_eq_true, if_true, if_false, ite_true, ite_false, cxOf, Cx.nox, decide_eq_true_eq, reduceCtorEq, decide_false, decide_true, Bool.not_false, Bool.not_true, eq_self, upd_same, L2.upd_upd, List.cons.injEq, and_assoc]
          have go : ∀ (A' B' : Hp → Prop), (∀ Hk, Ext H' Hk → dep u s0 = false → A' Hk) → (∀ Hk, Ext H' Hk → dep u s0 = true → B' Hk) → spDep [ov, sv] H' (fun x H1 => ∃ c, x = .bl c ∧ if (!c) = true then A' H1 else B' H1) E0 := fun A' B' hA hB => by
            refine ⟨ov, sv, u, s0, rfl, hov, hsv.ext e2, fun Hk ek => ⟨_, rfl, ?_⟩⟩
            cases hde : dep u s0 with
            | true => exact hB Hk ek hde
            | false => exact hA Hk ek hde
          have yes : ∀ {Hk : Hp}, Ext H' Hk → dep u s0 = false → (decide (i ∈ Bl) || decide (i < t)) = true → tyV K "list" (.ref p) Hk ∧ rAppend (.ref p) [V.int (i : Nat)] Hk fun x H1 => Ext H H1 ∧ ∃ x, H1 p = some (HO.lst (nI x)) ∧ x = (List.range (i + 1)).filter fun o => decide (o ≠ t) && ((nxt Th d o).isSome && ((decide (o ∈ Bl) || decide (o < t)) && !dep (nx Th d o) (nx Th d t))) := fun {Hk} ek hde hb => by
            have hpk := ek.1 _ _ hp2 (by simp)
            refine ⟨ty_list hpk, ap_list hpk (by rw [nI_length]; omega) ⟨(e2.trans ek).upd np, _, ?_, rfl⟩⟩
            rw [upd_same, List.range_succ, List.filter_append, nI_append]
            have : [i].filter (fun o => decide (o ≠ t) && ((nxt Th d o).isSome && ((decide (o ∈ Bl) || decide (o < t)) && !dep (nx Th d o) (nx Th d t)))) = [i] := by
              rw [List.filter_cons_of_pos (by rw [hu, hnu, hnx, hde, hb, decide_eq_true hit]; rfl)]; rfl
            rw [this]; rfl
          have no : ∀ {Hk : Hp}, Ext H' Hk → ((decide (i ∈ Bl) || decide (i < t)) && !dep u s0) = false → Ext H Hk ∧ ∃ x, Hk p = some (HO.lst (nI x)) ∧ x = (List.range (i + 1)).filter fun o => decide (o ≠ t) && ((nxt Th d o).isSome && ((decide (o ∈ Bl) || decide (o < t)) && !dep (nx Th d o) (nx Th d t))) := fun {Hk} ek hf => by
            obtain ⟨g1, g2⟩ := stay ek (by rw [hu, hnu, hnx, hf]; simp)
            exact ⟨g1, _, g2, rfl⟩
          refine in_N (hz.ext e2) ⟨_, rfl, ?_⟩
          by_cases hb1 : i ∈ Bl
          · rw [decide_eq_true hb1, if_pos rfl]
            exact go _ _ (fun Hk ek hde => yes ek hde (by rw [decide_eq_true hb1]; rfl)) fun Hk ek hde => no ek (by rw [hde]; simp)
          · rw [decide_eq_false hb1, if_neg (by decide)]
            by_cases hb2 : i < t
            · rw [if_pos (show (i : Int) < (t : Int) by omega)]
              exact go _ _ (fun Hk ek hde => yes ek hde (by rw [decide_eq_true hb2]; simp)) fun Hk ek hde => no ek (by rw [hde]; simp)
            · rw [if_neg (show ¬ (i : Int) < (t : Int) by omega)]
              exact no (Ext.refl _) (by rw [decide_eq_false hb1, decide_eq_false hb2]; rfl)
    · rintro σ' H' ⟨v6, v7, its, rfl, e2, hp2, rfl⟩
      simp only [tVar, tC, tOp, tUn, tTest, tChain, tNil, tCons, tTup, tLst, tCall, tMake, tCB, tIf, tAndV, tOrV, tNotV, tIsN, tNotN, tB, tAnd, tOr, tNot, tNext, tSeq, tDrop, tRet, tRetN, tIfS, tNever, gName, gNil, gCons, gSub, tAsg, tAug, tAugS, ipI, tBM, tBM0, tSl, tNoPart, tPart, tDGet, tDIn, tDNotIn, tDGet1, sDPut, tMth, tDNewT, tDNewK, tYes, rI0, rI, rU, rAdd, rSub, rEq, rNe, L2.start, List.map_cons, List.map_nil, List.length_cons, List.length_nil, List.replicate, List.append_nil, List.nil_append, List.cons_append, List.getElem?_cons_zero, List.getElem?_cons_succ, List.set_cons_zero, List.set_cons_succ, Option.some.injEq, V.int.injEq, V.bl.injEq, V.ref.injEq, V.str.injEq, exists_eq_left', exists_eq_left, exists_and_left, true_and, and_true, Nat.reduceAdd, Nat.reduceSub, Nat.add_one_sub_one, Nat.sub_self, Bool.true_eq_false, Bool.false_eq_true, if_true, if_false, ite_true, ite_false, cxOf, Cx.nox, decide_eq_true_eq, reduceCtorEq, decide_false, decide_true, Bool.not_false, Bool.not_true, eq_self, upd_same, L2.upd_upd, List.cons.injEq, and_assoc]
      refine ⟨p, _, rfl, SqL.of hp2, fun l nl => q _ _ (e2.trans (Ext.new nl)) ⟨l, rfl, upd_same⟩⟩
end
end TW

set_option maxHeartbeats 8000000
/-! TwS: Runs, runs. -/
namespace TW
open PySem PySem.Spec PyProof.Rows L2
open TC hiding Step Env
theorem goM_fuel {Th : Thr} : ∀ (f g : Nat) (e : TC.Env) (d B way : List Nat), d.length = Th.length → remL Th d < f → remL Th d < g → goM Th f e d B way = goM Th g e d B way := by
  intro f
  induction f with
  | zero => intro g e d B way _ h; omega
  | succ f ih =>
    intro g e d B way hl hf hg
    obtain ⟨g, rfl⟩ : ∃ g', g = g' + 1 := ⟨g - 1, by omega⟩
    unfold goM
    congr 1
    have : ∀ l : List Nat, (∀ t ∈ l, poss Th e d t = true) → (l.flatMap fun t => goM Th f (app e (nx Th d t)) (inc d t) (barM Th d B t) (way ++ [t])) = l.flatMap fun t => goM Th g (app e (nx Th d t)) (inc d t) (barM Th d B t) (way ++ [t]) := by
      intro l
      induction l with
      | nil => intro _; rfl
      | cons t l il =>
        intro h
        have hr := rem_inc hl (nx_of (h t List.mem_cons_self))
        rw [List.flatMap_cons, List.flatMap_cons, il fun u hu => h u (List.mem_cons_of_mem _ hu), ih g _ _ _ _ (by rw [inc_length]; exact hl) (by omega) (by omega)]
    exact this _ fun t ht => (mem_possL hl).mp (List.mem_filter.mp ht).1
theorem possL_len {Th : Thr} {e : TC.Env} {d : List Nat} (hl : d.length = Th.length) (h3 : Th.length ≤ 3) : (possL Th e d).length ≤ 3 := by
  unfold possL
  have := List.length_filter_le (poss Th e d) (List.range d.length)
  rw [List.length_range] at this
  omega
theorem goM_len {Th : Thr} (h3 : Th.length ≤ 3) : ∀ (f : Nat) (e : TC.Env) (d B way : List Nat), d.length = Th.length → (goM Th f e d B way).length ≤ 3 ^ remL Th d := by
  intro f
  induction f with
  | zero => intro e d B way _; exact Nat.zero_le _
  | succ f ih =>
    intro e d B way hl
    unfold goM
    by_cases q : possL Th e d = []
    · rw [if_pos q, q]
      show 1 ≤ _
      exact Nat.pos_of_ne_zero (by simp)
    · rw [if_neg q, List.nil_append]
      obtain ⟨t0, ht0⟩ := List.exists_mem_of_ne_nil _ q
      have hr0 := rem_inc hl (nx_of ((mem_possL hl).mp ht0))
      obtain ⟨r, hr⟩ : ∃ r, remL Th d = r + 1 := ⟨_, hr0.symm⟩
      have key : ∀ l : List Nat, (∀ t ∈ l, poss Th e d t = true) → (l.flatMap fun t => goM Th f (app e (nx Th d t)) (inc d t) (barM Th d B t) (way ++ [t])).length ≤ l.length * 3 ^ r := by
        intro l
        induction l with
        | nil => intro _; exact Nat.zero_le _
        | cons t l il =>
          intro h
          have hrt := rem_inc hl (nx_of (h t List.mem_cons_self))
          have h1 := ih (app e (nx Th d t)) (inc d t) (barM Th d B t) (way ++ [t]) (by rw [inc_length]; exact hl)
          have h2 := il fun u hu => h u (List.mem_cons_of_mem _ hu)
          have : remL Th (inc d t) = r := by omega
          rw [this] at h1
          rw [List.flatMap_cons, List.length_append, List.length_cons, Nat.succ_mul]
          omega
      refine Nat.le_trans (key _ fun t ht => (mem_possL hl).mp (List.mem_filter.mp ht).1) ?_
      rw [hr, Nat.pow_succ, Nat.mul_comm]
      refine Nat.mul_le_mul_left _ (Nat.le_trans (List.length_filter_le _ _) (possL_len hl h3))
theorem goM_flat {Th : Thr} (h3 : Th.length ≤ 3) {f r : Nat} {e : TC.Env} {d B way : List Nat} (hl : d.length = Th.length) (hr : remL Th d = r + 1) : ∀ l : List Nat, (∀ t ∈ l, poss Th e d t = true) → (l.flatMap fun t => goM Th f (app e (nx Th d t)) (inc d t) (barM Th d B t) (way ++ [t])).length ≤ l.length * 3 ^ r
  | [], _ => Nat.zero_le _
  | t :: l, h => by
    have hrt := rem_inc hl (nx_of (h t List.mem_cons_self))
    have h1 := goM_len h3 f (app e (nx Th d t)) (inc d t) (barM Th d B t) (way ++ [t]) (by rw [inc_length]; exact hl)
    have h2 := goM_flat h3 (f := f) (B := B) (way := way) hl hr l fun u hu => h u (List.mem_cons_of_mem _ hu)
    have : remL Th (inc d t) = r := by omega
    rw [this] at h1
    rw [List.flatMap_cons, List.length_append, List.length_cons, Nat.succ_mul]
    omega
theorem A2.perm {α β : Type} {R : α → β → Prop} {xs ys : List α} (p : xs.Perm ys) : ∀ {l : List β}, A2 R ys l → ∃ l', A2 R xs l' ∧ l'.Perm l := by
  induction p with
  | nil => intro l h; exact ⟨l, h, .refl l⟩
  | cons x p ih =>
    intro l h
    cases l with
    | nil => have := h.1; simp at this
    | cons b l =>
      obtain ⟨h1, h2⟩ := A2.cons h
      obtain ⟨l', q1, q2⟩ := ih h2
      exact ⟨b :: l', A2.consI h1 q1, q2.cons b⟩
  | swap x y xs =>
    intro l h
    match l, h with
    | [], h => have := h.1; simp at this
    | [b], h => have := h.1; simp at this
    | b :: c :: l, h =>
      obtain ⟨h1, h2⟩ := A2.cons h
      obtain ⟨h3, h4⟩ := A2.cons h2
      exact ⟨c :: b :: l, A2.consI h3 (A2.consI h1 h4), .swap b c l⟩
  | trans p1 p2 ih1 ih2 =>
    intro l h
    obtain ⟨l1, q1, q2⟩ := ih2 h
    obtain ⟨l2, q3, q4⟩ := ih1 q1
    exact ⟨l2, q3, q4.trans q2⟩
theorem listed_ne {Th : Thr} {e0 : TC.Env} {n : Nat} (hn : Th.length = n) (h2 : 2 ≤ (listedM Th e0 n).length) : ∀ p ∈ listedM Th e0 n, p.1 ≠ [] := by
  unfold listedM at *
  unfold goM at *
  by_cases q : possL Th e0 (zeroL n) = []
  · rw [if_pos q, q] at h2
    simp at h2
  · rw [if_neg q, List.nil_append]
    intro p hp
    obtain ⟨t, ht, h⟩ := List.mem_flatMap.mp hp
    have hl : (zeroL n).length = Th.length := by rw [zeroL_length, hn]
    have hr := rem_inc hl (nx_of ((mem_possL hl).mp (List.mem_filter.mp ht).1))
    obtain ⟨u, e1, _⟩ := (go_mem _ _ _ _ _ (by rw [inc_length]; exact hl) (by omega) p.1 p.2).mp h
    rw [e1]; simp
/-- the class of runs -/
structure RK (K : PySem.W.Frag) (C : Addr) : Prop where
  cl : Cls K C
  program : NoAttr K C "program"
  found : NoAttr K C "found"
def RuS (C : Addr) (H : Hp) (x : V) (l : Addr) (Pr : V) : Prop := ∃ p dx, x = .ref p ∧ H p = some (.ins C dx [("program", Pr), ("found", .ref l)])
section
variable {K : PySem.W.Frag} {C : Addr} {H : Hp} {x : V} {l : Addr} {Pr : V} {Q : VK}
theorem RuS.ext {H' : Hp} (c : RuS C H x l Pr) (e : Ext H H') : RuS C H' x l Pr := by
  obtain ⟨p, dx, h1, h2⟩ := c
  exact ⟨p, dx, h1, e.1 _ _ h2 (by simp)⟩
theorem RuS.del {os : List V} (c : RuS C H x l Pr) (h : H l = some (.lst os)) : RuS C (TW.del l H) x l Pr := by
  obtain ⟨p, dx, h1, h2⟩ := c
  exact ⟨p, dx, h1, by rw [del_ne (ne_of h2 h (by simp))]; exact h2⟩
theorem RuS.f_program (c : RuS C H x l Pr) (k : RK K C) (q : Q Pr H) : rFld K "program" x H Q := by
  obtain ⟨p, dx, e, h⟩ := c
  exact ⟨p, C, dx, _, _, e, h, k.cl, k.program, rfl, q⟩
theorem RuS.f_found (c : RuS C H x l Pr) (k : RK K C) (q : Q (.ref l) H) : rFld K "found" x H Q := by
  obtain ⟨p, dx, e, h⟩ := c
  exact ⟨p, C, dx, _, _, e, h, k.cl, k.found, rfl, q⟩
theorem RuS.mth {m : Str} {R : Prop} (c : RuS C H x l Pr) (r : R) (hm : ([("program", Pr), ("found", .ref l)] : List (Str × V)).lookup m = none := by rfl) : rIns C m x H R := by
  obtain ⟨p, dx, e, h⟩ := c
  exact ⟨p, dx, _, e, h, hm, r⟩
end
section
variable {P : Program} {w : World} {K : PySem.W.Frag} {mg : Str → Option Value} {base : Heap}
abbrev CBar (P : Program) (w : World) (K : PySem.W.Frag) (mg : Str → Option Value) (base : Heap) : Prop := Cal P w K mg base 3 "barred_behind" ["program", "done", "barred", "thread"] spBar
abbrev sGo : Stmt := inClass (tx 25) 1
abbrev nGo : List Str := ["self", "values", "done", "barred", "way", "threads", "thread", "step", "later"]
def spGo (C : Addr) (n : Nat) : Sp := fun vs H Q _ => ∃ x vv dd bb wv Pr l e0 e Th d Bl way os rs, vs = [x, vv, dd, bb, wv] ∧ RuS C H x l Pr ∧ PW H Pr e0 Th ∧ EnvD H vv e ∧ dom e = dom e0 ∧ Tn H dd d ∧ d.length = Th.length ∧ Tn H bb Bl ∧ Tn H wv way ∧ remL Th d < n ∧
  way.length + remL Th d ≤ 6 ∧ H l = some (.lst os) ∧ A2 (LvRow H) os rs ∧ rs.length + 3 ^ remL Th d ≤ 1000 ∧
  ∀ H' os', Ext (del l H) H' → H' l = some (.lst os') → A2 (LvRow H') os' (rs ++ goM Th n e d Bl way) → Q .non H'
theorem scGo : FnScope nGo ["self", "values", "done", "barred", "way"] (defScope sGo) := ⟨rfl, rfl, rfl, by decide +kernel, rfl, by decide +kernel, by decide +kernel⟩
theorem ok_go {f C : Addr} {fd : FuncData} (F : Fun K "go" "Runs.go" sGo f fd) (mt : Meth K C "go" f) (bd : Binds K fd ["self", "values", "done", "barred", "way"] []) (B : Bt mg) (rk : RK K C) (c1 : CPoss P w K mg base) (c2 : CNext P w K mg base) (c3 : CBar P w K mg base) (c4 : CVals P w K mg base) (c5 : CAfter P w K mg base) :
    ∀ n : Nat, FnOk P w K mg base CX0 (3 + n + 1) f fd ["self", "values", "done", "barred", "way"] (spGo C n) := by
  intro n
  induction n with
  | zero =>
    refine F.ok scGo (fun vs H Q E h => ?_) (fun cdv A outer s H vs Q E hr h => ?_)
    · obtain ⟨x, vv, dd, bb, wv, Pr, l, e0, e, Th, d, Bl, way, os, rs, rfl, _⟩ := h
      rfl
    · obtain ⟨x, vv, dd, bb, wv, Pr, l, e0, e, Th, d, Bl, way, os, rs, rfl, _, _, _, _, _, _, _, _, h, _⟩ := h
      omega
  | succ n ih =>
  have cg : CalM P w K mg base C (3 + n + 1) "go" ["self", "values", "done", "barred", "way"] (spGo C n) := ⟨f, fd, mt, bd, ih⟩
  refine F.ok scGo (fun vs H Q E h => ?_) (fun cdv A outer s H vs Q E hr h => ?_)
  · obtain ⟨x, vv, dd, bb, wv, Pr, l, e0, e, Th, d, Bl, way, os, rs, rfl, _⟩ := h
    rfl
  · obtain ⟨x, vv, dd, bb, wv, Pr, l, e0, e, Th, d, Bl, way, os, rs, rfl, ru, hp, hvv, hdom, hdd, hdl, hbb, hwv, hrn, hwl, hl, hL, hrz, q⟩ := h
    have hr1 : Room 1 _ := hr.mono (by omega)
    refine ⟨_, pss_cons (ps_setLc (i := 5) (own := [("thread", 6)]) (g := gName 6) (tt := tB (tCall spPoss [] E0 (tCons (tUn (rFld K "program") (tVar 0)) (tCons (tVar 1) (tCons (tVar 2) (tCons (tVar 6) tNil)))))) (te := tVar 6) rfl scGo.nd rfl rfl (sw_true rfl rfl rfl (by decide +kernel)) (pi_range1 (by rfl) B.range (pa_cons (pe_callB call_len (by rfl) B.len PySem.boot_len (pa_cons (pv 2) pa_nil)) pa_nil)) (blkOk_by (N := nGo) (sc := defScope sGo) (by decide +kernel))
            (fun _ _ _ _ _ => pg_name (i := 6) scGo.nd rfl (.inl rfl)) (fun _ _ _ _ _ => pts_one (pt_val (pe_cal c1 (hr.mono (by omega)) rfl (pa_cons (pe_fldR (pv 0)) (pa_cons (pv 1) (pa_cons (pv 2) (pa_cons (pv 6) pa_nil))))))) (fun _ _ _ _ _ => pv 6))
      (pss_cons (ps_if (pt_not (pt_truth (pv 5) (fun _ => rfl))) (pss_one (ps_expr (pe_bm PySem.F.plainAttrs_list PySem.F.slot_list_append PySem.F.type_list_append mt_append (pe_fldR (pv 0)) (pa_cons (pe_tup (pa_cons (pv 4) (pa_cons (pv 2) pa_nil))) pa_nil)))) pss_nil)
      (pss_one (ps_for PassesOwn.never rfl (pi_list (pv 5)) (pg_name (i := 6) scGo.nd rfl (.inl rfl))
        (pss_one (ps_if (pt_cmpR op_notIn_seq (pv 6) (pv 3) rfl)
          (pss_cons (ps_set (i := 7) scGo.nd rfl (Or.inl rfl) (pe_cal c2 hr1 rfl (pa_cons (pe_fldR (pv 0)) (pa_cons (pv 2) (pa_cons (pv 6) pa_nil)))))
          (pss_cons (ps_set (i := 8) scGo.nd rfl (Or.inl rfl) (pe_cal c3 (hr.mono (by omega)) rfl (pa_cons (pe_fldR (pv 0)) (pa_cons (pv 2) (pa_cons (pv 3) (pa_cons (pv 6) pa_nil))))))
          (pss_one (ps_expr (pe_mcal cg rk.cl hr (pv 0) (pa_cons (pe_cal c4 hr1 rfl (pa_cons (pv 1) (pa_cons (pv 7) pa_nil))) (pa_cons (pe_cal c5 hr1 rfl (pa_cons (pv 2) (pa_cons (pv 6) pa_nil))) (pa_cons (pv 8) (pa_cons (pe_op op_catS (pv 4) (pe_tup (pa_cons (pv 6) pa_nil))) pa_nil)))))))))
          pss_nil))))), ?_⟩
    simp only [tVar, tC, tOp, tUn, tTest, tChain, tNil, tCons, tTup, tLst, tCall, tMake, tCB, tIf, tAndV, tOrV, tNotV, tIsN, tNotN, tB, tAnd, tOr, tNot, tNext, tSeq, tDrop, tRet, tRetN, tIfS, tNever, gName, gNil, gCons, gSub, tAsg, tAug, tAugS, ipI, tBM, tBM0, tSl, tNoPart, tPart, tDGet, tDIn, tDNotIn, tDGet1, sDPut, tMth, tDNewT, tDNewK, tYes, rI0, rI, rU, rAdd, rSub, rEq, rNe, L2.start, List.map_cons, List.map_nil, List.length_cons, List.length_nil, List.replicate, List.append_nil, List.nil_append, List.cons_append, List.getElem?_cons_zero, List.getElem?_cons_succ, List.set_cons_zero, List.set_cons_succ, Option.some.injEq, V.int.injEq, V.bl.injEq, V.ref.injEq, V.str.injEq, exists_eq_left', exists_eq_left, exists_and_left, true_and, and_true, Nat.reduceAdd, Nat.reduceSub, Nat.add_one_sub_one, Nat.sub_self, Bool.true_eq_false, Bool.false_eq_true, if_true, if_false, ite_true, ite_false, cxOf, Cx.nox, decide_eq_true_eq, reduceCtorEq, decide_false, decide_true, Bool.not_false, Bool.not_true, eq_self, upd_same, L2.upd_upd, List.cons.injEq, and_assoc]
    have n3 := hp.n3
    have hgo : goM Th (n + 1) e d Bl way = (if possL Th e d = [] then [(way, d)] else []) ++ ((possL Th e d).filter fun t => !decide (t ∈ Bl)).flatMap fun t => goM Th n (app e (nx Th d t)) (inc d t) (barM Th d Bl t) (way ++ [t]) := rfl
    refine lc_w (J := Itr 0 Th.length) (n := Th.length) (H1 := H) (fun R h => ?_) walk_range fun D nD => ⟨fun j Hj => Ext H Hj ∧ Hj D = some (.lst (nI ((List.range j).filter (poss Th e d)))),
      ⟨Ext.new nD, upd_same⟩, fun _ _ _ => trivial, ?_, ?_⟩
    · unfold iRng1
      simp only [tVar, tC, tOp, tUn, tTest, tChain, tNil, tCons, tTup, tLst, tCall, tMake, tCB, tIf, tAndV, tOrV, tNotV, tIsN, tNotN, tB, tAnd, tOr, tNot, tNext, tSeq, tDrop, tRet, tRetN, tIfS, tNever, gName, gNil, gCons, gSub, tAsg, tAug, tAugS, ipI, tBM, tBM0, tSl, tNoPart, tPart, tDGet, tDIn, tDNotIn, tDGet1, sDPut, tMth, tDNewT, tDNewK, tYes, rI0, rI, rU, rAdd, rSub, rEq, rNe, L2.start, List.map_cons, List.map_nil, List.length_cons, List.length_nil, List.replicate, List.append_nil, List.nil_append, List.cons_append, List.getElem?_cons_zero, List.getElem?_cons_succ, List.set_cons_zero, List.set_cons_succ, Option.some.injEq, V.int.injEq, V.bl.injEq, V.ref.injEq, V.str.injEq, exists_eq_left', exists_eq_left, exists_and_left, true_and, and_true, Nat.reduceAdd, Nat.reduceSub, Nat.add_one_sub_one, Nat.sub_self, Bool.true_eq_false, Bool.false_eq_true, if_true, if_false, ite_true, ite_false, cxOf, Cx.nox, decide_eq_true_eq, reduceCtorEq, decide_false, decide_true, Bool.not_false, Bool.not_true, eq_self, upd_same, L2.upd_upd, List.cons.injEq, and_assoc]
      refine tu_len hdd ?_
      rw [nI_length, hdl]
      exact ⟨_, rfl, by omega, by omega, by rw [Int.toNat_natCast]; exact h⟩
    · rintro j xx Hj _ hj ⟨ej, hD⟩ ⟨rfl, rfl⟩
      simp only [tVar, tC, tOp, tUn, tTest, tChain, tNil, tCons, tTup, tLst, tCall, tMake, tCB, tIf, tAndV, tOrV, tNotV, tIsN, tNotN, tB, tAnd, tOr, tNot, tNext, tSeq, tDrop, tRet, tRetN, tIfS, tNever, gName, gNil, gCons, gSub, tAsg, tAug, tAugS, ipI, tBM, tBM0, tSl, tNoPart, tPart, tDGet, tDIn, tDNotIn, tDGet1, sDPut, tMth, tDNewT, tDNewK, tYes, rI0, rI, rU, rAdd, rSub, rEq, rNe, L2.start, List.map_cons, List.map_nil, List.length_cons, List.length_nil, List.replicate, List.append_nil, List.nil_append, List.cons_append, List.getElem?_cons_zero, List.getElem?_cons_succ, List.set_cons_zero, List.set_cons_succ, Option.some.injEq, V.int.injEq, V.bl.injEq, V.ref.injEq, V.str.injEq, exists_eq_left', exists_eq_left, exists_and_left, true_and, and_true, Nat.reduceAdd, Nat.reduceSub, Nat.add_one_sub_one, Nat.sub_self, Bool.true_eq_false, Bool.false_eq_true, if_true, if_false, ite_true, ite_false, cxOf, Cx.nox, decide_eq_true_eq, reduceCtorEq, decide_false, decide_true, Bool.not_false, Bool.not_true, eq_self, upd_same, L2.upd_upd, List.cons.injEq, and_assoc, wipe, Int.zero_add]
      refine (ru.ext ej).f_program rk ⟨Pr, vv, dd, e0, e, Th, d, j, rfl, (hp.ext ej).prog, hp.wf, hvv.ext ej, hdom, hdd.ext ej, hj, by omega, _, rfl, ?_⟩
      refine ifd (fun hps => ⟨_, hD, small1000 ?_, ej.upd nD, ?_⟩) (fun hps => ⟨ej, ?_⟩)
      · rw [nI_length]
        have := List.length_filter_le (poss Th e d) (List.range j)
        rw [List.length_range] at this
        omega
      · rw [List.range_succ, List.filter_append, nI_append]
        simp [hps, nI]
      · rw [List.range_succ, List.filter_append, nI_append]
        simp [hps, nI, hD]
    · rintro Hm ⟨em, hD⟩
      have hpl : (List.range Th.length).filter (poss Th e d) = possL Th e d := by unfold possL; rw [hdl]
      rw [hpl] at hD
      refine ⟨!(nI (possL Th e d)).isEmpty, .inl ⟨_, SqL.of hD, rfl⟩, ?_⟩
      have hlm : Hm l = some (.lst os) := em.1 _ _ hl (by simp)
      have hDl : D ≠ l := fun z => by rw [z, hl] at nD; cases nD
      have hLm := hL.imp fun _ _ zz => zz.kp em.kp
      have ru2 := ru.ext em
      have eb0 : Ext (del l H) (del l Hm) := (Ext.del.trans em).todel del_same
      by_cases hne : possL Th e d = []
      · rw [hne] at hD ⊢
        rw [hgo, if_pos hne, hne] at q
        simp only [nI, List.map_nil, List.isEmpty_nil, tVar, tC, tOp, tUn, tTest, tChain, tNil, tCons, tTup, tLst, tCall, tMake, tCB, tIf, tAndV, tOrV, tNotV, tIsN, tNotN, tB, tAnd, tOr, tNot, tNext, tSeq, tDrop, tRet, tRetN, tIfS, tNever, gName, gNil, gCons, gSub, tAsg, tAug, tAugS, ipI, tBM, tBM0, tSl, tNoPart, tPart, tDGet, tDIn, tDNotIn, tDGet1, sDPut, tMth, tDNewT, tDNewK, tYes, rI0, rI, rU, rAdd, rSub, rEq, rNe, L2.start, List.map_cons, List.map_nil, List.length_cons, List.length_nil, List.replicate, List.append_nil, List.nil_append, List.cons_append, List.getElem?_cons_zero, List.getElem?_cons_succ, List.set_cons_zero, List.set_cons_succ, Option.some.injEq, V.int.injEq, V.bl.injEq, V.ref.injEq, V.str.injEq, exists_eq_left', exists_eq_left, exists_and_left, true_and, and_true, Nat.reduceAdd, Nat.reduceSub, Nat.add_one_sub_one, Nat.sub_self, Bool.true_eq_false, Bool.false_eq_true, if_true, if_false, ite_true, ite_false, cxOf, Cx.nox, decide_eq_true_eq, reduceCtorEq, decide_false, decide_true, Bool.not_false, Bool.not_true, eq_self, upd_same, L2.upd_upd, List.cons.injEq, and_assoc] at hD ⊢
        refine ru2.f_found rk ⟨ty_list hlm, szN (by decide), fun p np => ?_⟩
        have e2 : Ext Hm (upd Hm p (.tup [wv, dd])) := Ext.new np
        have hl2 := e2.1 _ _ hlm (by simp)
        have hD2 := e2.1 _ _ hD (by simp)
        refine ap_list hl2 (by rw [hL.1]; have : 1 ≤ 3 ^ remL Th d := Nat.pos_of_ne_zero (by simp); omega) ?_
        refine for_lstT (a := D) (xs := []) (fun R h => ⟨_, rfl, h⟩) (by rw [upd_ne hDl]; exact hD2) (fun i σ' H' => H' = upd (upd Hm p (.tup [wv, dd])) l (.lst (os ++ [.ref p]))) rfl (fun i σ' H' e => by rw [e, upd_ne hDl]; exact hD2) (fun i xx σ' H' hi => by simp at hi) ?_
        rintro σ' H' rfl
        have kk := e2.kp.trans (Kp.lst (o := .lst (os ++ [V.ref p])) hl2)
        have npl : p ≠ l := fun z => by rw [z, hlm] at np; cases np
        refine q _ _ ((((eb0.trans Ext.del).trans e2)).upd del_same) upd_same ?_
        refine A2.snoc (hLm.imp fun _ _ zz => zz.kp kk) ⟨wv, dd, ?_, Tu.kp (Tu.ext hwv em) kk, Tu.kp (Tu.ext hdd em) kk⟩
        have : Tu (upd Hm p (.tup [wv, dd])) (V.ref p) [wv, dd] := ⟨p, rfl, upd_same⟩
        exact this.kp (Kp.lst hl2)
      · rw [hgo, if_neg hne, List.nil_append] at q
        have hie : (nI (possL Th e d)).isEmpty = false := by
          cases hc : possL Th e d with
          | nil => exact absurd hc hne
          | cons a l => rfl
        simp only [hie, tVar, tC, tOp, tUn, tTest, tChain, tNil, tCons, tTup, tLst, tCall, tMake, tCB, tIf, tAndV, tOrV, tNotV, tIsN, tNotN, tB, tAnd, tOr, tNot, tNext, tSeq, tDrop, tRet, tRetN, tIfS, tNever, gName, gNil, gCons, gSub, tAsg, tAug, tAugS, ipI, tBM, tBM0, tSl, tNoPart, tPart, tDGet, tDIn, tDNotIn, tDGet1, sDPut, tMth, tDNewT, tDNewK, tYes, rI0, rI, rU, rAdd, rSub, rEq, rNe, L2.start, List.map_cons, List.map_nil, List.length_cons, List.length_nil, List.replicate, List.append_nil, List.nil_append, List.cons_append, List.getElem?_cons_zero, List.getElem?_cons_succ, List.set_cons_zero, List.set_cons_succ, Option.some.injEq, V.int.injEq, V.bl.injEq, V.ref.injEq, V.str.injEq, exists_eq_left', exists_eq_left, exists_and_left, true_and, and_true, Nat.reduceAdd, Nat.reduceSub, Nat.add_one_sub_one, Nat.sub_self, Bool.true_eq_false, Bool.false_eq_true, if_true, if_false, ite_true, ite_false, cxOf, Cx.nox, decide_eq_true_eq, reduceCtorEq, decide_false, decide_true, Bool.not_false, Bool.not_true, eq_self, upd_same, L2.upd_upd, List.cons.injEq, and_assoc]
        obtain ⟨t0, ht0⟩ := List.exists_mem_of_ne_nil _ hne
        have hr0 := rem_inc hdl (nx_of ((mem_possL hdl).mp ht0))
        obtain ⟨r, hr⟩ : ∃ r, remL Th d = r + 1 := ⟨_, hr0.symm⟩
        have kb : Kp Hm (del l Hm) := Kp.del hlm (fun z => z) (fun ps z => by cases z)
        have hDb : del l Hm D = some (.lst (nI (possL Th e d))) := by rw [del_ne hDl]; exact hD
        have rub := ru2.del hlm
        have exb : Ext (del l Hm) Hm := Ext.del
        have hbl : del l Hm l = none := del_same
        have hpb := (hp.ext em).kp kb
        have hvb := (hvv.ext em).kp kb
        have hdb : Tn _ dd d := Tu.kp (Tu.ext hdd em) kb
        have hbb' : Tn _ bb Bl := Tu.kp (Tu.ext hbb em) kb
        have hwb : Tn _ wv way := Tu.kp (Tu.ext hwv em) kb
        generalize del l Hm = Hb at *
        refine for_lstT (a := D) (xs := nI (possL Th e d)) (fun R h => ⟨_, rfl, h⟩) hD (fun j σ' H' => ∃ v6 v7 v8 os', σ' = [some x, some vv, some dd, some bb, some wv, some (.ref D), v6, v7, v8] ∧ Ext Hb H' ∧ H' l = some (.lst os') ∧
            A2 (LvRow H') os' (rs ++ (((possL Th e d).take j).filter fun t => !decide (t ∈ Bl)).flatMap fun t => goM Th n (app e (nx Th d t)) (inc d t) (barM Th d Bl t) (way ++ [t])))
          ⟨none, none, none, os, rfl, exb, hlm, by simpa using hLm⟩ (fun j σ' H' ⟨_, _, _, _, _, ex, _⟩ => ex.1 _ _ hDb (by simp)) ?_ ?_
        · rintro j xx σ' H' hj ⟨v6, v7, v8, os', rfl, e3, hl3, hL3⟩
          obtain ⟨t, ht, rfl⟩ := nI_inv hj
          have hps := (mem_possL hdl).mp (List.mem_of_getElem? ht)
          have htk : (possL Th e d).take (j + 1) = (possL Th e d).take j ++ [t] := take_g ht
          have htn : t < Th.length := poss_lt hps
          have hnx := nx_of hps
          have hjl := (List.getElem?_eq_some_iff.mp ht).1
          have hp3 := possL_len (e := e) hdl n3
          have hfz := goM_flat n3 (f := n) (e := e) (B := Bl) (way := way) hdl hr (((possL Th e d).take j).filter fun t => !decide (t ∈ Bl)) (fun u hu => (mem_possL hdl).mp (List.mem_of_mem_take (List.mem_filter.mp hu).1))
          have hfz2 : (((possL Th e d).take j).filter fun t => !decide (t ∈ Bl)).length ≤ 2 := by
            have := List.length_filter_le (fun t => !decide (t ∈ Bl)) ((possL Th e d).take j)
            rw [List.length_take] at this
            omega
          have hfz3 := Nat.le_trans hfz (Nat.mul_le_mul_right (3 ^ r) hfz2)
          simp only [htk, List.filter_append, List.flatMap_append]
          simp only [tVar, tC, tOp, tUn, tTest, tChain, tNil, tCons, tTup, tLst, tCall, tMake, tCB, tIf, tAndV, tOrV, tNotV, tIsN, tNotN, tB, tAnd, tOr, tNot, tNext, tSeq, tDrop, tRet, tRetN, tIfS, tNever, gName, gNil, gCons, gSub, tAsg, tAug, tAugS, ipI, tBM, tBM0, tSl, tNoPart, tPart, tDGet, tDIn, tDNotIn, tDGet1, sDPut, tMth, tDNewT, tDNewK, tYes, rI0, rI, rU, rAdd, rSub, rEq, rNe, L2.start, List.map_cons, List.map_nil, List.length_cons, List.length_nil, List.replicate, List.append_nil, List.nil_append, List.cons_append, List.getElem?_cons_zero, List.getElem?_cons_succ, List.set_cons_zero, List.set_cons_succ, Option.some.injEq, V.int.injEq, V.bl.injEq, V.ref.injEq, V.str.injEq, exists_eq_left', exists_eq_left, exists_and_left, true_and, and_true, Nat.reduceAdd, Nat.reduceSub, Nat.add_one_sub_one, Nat.sub_self, Bool.true_eq_false, Bool.false_eq_true, if_true, if_false, ite_true, ite_false, cxOf, Cx.nox, decide_eq_true_eq, reduceCtorEq, decide_false, decide_true, Bool.not_false, Bool.not_true, eq_self, upd_same, L2.upd_upd, List.cons.injEq, and_assoc]
          refine notin_N (Tu.ext hbb' e3) ⟨_, rfl, ?_⟩
          by_cases hin : t ∈ Bl
          · have hf : [t].filter (fun t => !decide (t ∈ Bl)) = [] := by simp [hin]
            simp only [hin, hf, List.flatMap_nil, List.append_nil, tVar, tC, tOp, tUn, tTest, tChain, tNil, tCons, tTup, tLst, tCall, tMake, tCB, tIf, tAndV, tOrV, tNotV, tIsN, tNotN, tB, tAnd, tOr, tNot, tNext, tSeq, tDrop, tRet, tRetN, tIfS, tNever, gName, gNil, gCons, gSub, tAsg, tAug, tAugS, ipI, tBM, tBM0, tSl, tNoPart, tPart, tDGet, tDIn, tDNotIn, tDGet1, sDPut, tMth, tDNewT, tDNewK, tYes, rI0, rI, rU, rAdd, rSub, rEq, rNe, L2.start, List.map_cons, List.map_nil, List.length_cons, List.length_nil, List.replicate, List.append_nil, List.nil_append, List.cons_append, List.getElem?_cons_zero, List.getElem?_cons_succ, List.set_cons_zero, List.set_cons_succ, Option.some.injEq, V.int.injEq, V.bl.injEq, V.ref.injEq, V.str.injEq, exists_eq_left', exists_eq_left, exists_and_left, true_and, and_true, Nat.reduceAdd, Nat.reduceSub, Nat.add_one_sub_one, Nat.sub_self, Bool.true_eq_false, Bool.false_eq_true, if_true, if_false, ite_true, ite_false, cxOf, Cx.nox, decide_eq_true_eq, reduceCtorEq, decide_false, decide_true, Bool.not_false, Bool.not_true, eq_self, upd_same, L2.upd_upd, List.cons.injEq, and_assoc]
            exact ⟨e3, _, hl3, hL3⟩
          · have hf : [t].filter (fun t => !decide (t ∈ Bl)) = [t] := by simp [hin]
            simp only [hin, hf, List.flatMap_cons, List.flatMap_nil, List.append_nil, tVar, tC, tOp, tUn, tTest, tChain, tNil, tCons, tTup, tLst, tCall, tMake, tCB, tIf, tAndV, tOrV, tNotV, tIsN, tNotN, tB, tAnd, tOr, tNot, tNext, tSeq, tDrop, tRet, tRetN, tIfS, tNever, gName, gNil, gCons, gSub, tAsg, tAug, tAugS, ipI, tBM, tBM0, tSl, tNoPart, tPart, tDGet, tDIn, tDNotIn, tDGet1, sDPut, tMth, tDNewT, tDNewK, tYes, rI0, rI, rU, rAdd, rSub, rEq, rNe, L2.start, List.map_cons, List.map_nil, List.length_cons, List.length_nil, List.replicate, List.append_nil, List.nil_append, List.cons_append, List.getElem?_cons_zero, List.getElem?_cons_succ, List.set_cons_zero, List.set_cons_succ, Option.some.injEq, V.int.injEq, V.bl.injEq, V.ref.injEq, V.str.injEq, exists_eq_left', exists_eq_left, exists_and_left, true_and, and_true, Nat.reduceAdd, Nat.reduceSub, Nat.add_one_sub_one, Nat.sub_self, Bool.true_eq_false, Bool.false_eq_true, if_true, if_false, ite_true, ite_false, cxOf, Cx.nox, decide_eq_true_eq, reduceCtorEq, decide_false, decide_true, Bool.not_false, Bool.not_true, eq_self, upd_same, L2.upd_upd, List.cons.injEq, and_assoc]
            generalize (((possL Th e d).take j).filter fun t => !decide (t ∈ Bl)).flatMap (fun t => goM Th n (app e (nx Th d t)) (inc d t) (barM Th d Bl t) (way ++ [t])) = rj at *
            have hrt := rem_inc hdl hnx
            refine (rub.ext e3).f_program rk ⟨Pr, dd, e0, Th, d, t, rfl, (hpb.ext e3).prog, hdb.ext e3, htn, by omega, fun sv hsv => ?_⟩
            rw [hnx] at hsv
            have hsv : Tu H' sv (stepV (nx Th d t)) := hsv
            refine (rub.ext e3).f_program rk ⟨Pr, dd, bb, e0, Th, d, Bl, t, _, rfl, hpb.ext e3, hdb.ext e3, hdl, Tu.ext hbb' e3, htn, hnx, fun bv H4 e4 hbv => ?_⟩
            have e34 := e3.trans e4
            refine (rub.ext e34).mth ⟨vv, sv, e, _, rfl, hvb.ext e34, hsv.ext e4, by rw [dom_len hdom]; exact hp.wf.2.1, fun c hc => by rw [hdom]; exact hp.wf.names hnx c hc, fun v5 H5 e5 hv5 => ?_⟩
            have e35 := e34.trans e5
            refine ⟨dd, d, t, rfl, Tu.ext hdb e35, by omega, by omega, fun d6 H6 e6 hd6 => ⟨szN (by decide), fun q1 nq1 => ?_⟩⟩
            have e36 := e35.trans e6
            refine ⟨_, _, (Tu.ext hwb e36).ext (Ext.new nq1), ⟨q1, rfl, upd_same⟩, szN (by rw [nI_length]; show way.length + 1 ≤ 1000; omega), fun z1 H9 e9 hz1 => ?_⟩
            have e9' := (Ext.new (o := .tup [V.int (t : Nat)]) nq1).trans e9
            have hz1' : Tn H9 z1 (way ++ [t]) := by
              have : nI way ++ [V.int (t : Nat)] = nI (way ++ [t]) := (nI_append way [t]).symm
              show Tu H9 z1 (nI (way ++ [t]))
              rw [← this]; exact hz1
            have e39 := e36.trans e9'
            have hl9 := ((((e4.trans e5).trans e6).trans e9')).1 _ _ hl3 (by simp)
            refine ⟨x, v5, d6, bv, z1, Pr, l, e0, _, Th, inc d t, _, way ++ [t], os', rs ++ rj, rfl, rub.ext e39, hpb.ext e39, (hv5.ext e6).ext e9', by rw [dom_app]; exact hdom, Tu.ext hd6 e9', by rw [inc_length]; exact hdl, Tu.ext hbv ((e5.trans e6).trans e9'), hz1', by omega, by rw [List.length_append]; show way.length + 1 + _ ≤ 6; omega, hl9,
              hL3.imp fun _ _ zz => zz.kp (((e4.trans e5).trans e6).trans e9').kp, ?_, fun H10 os10 e10 hl10 hL10 => ?_⟩
            · rw [hr, Nat.pow_succ] at hrz
              have : remL Th (inc d t) = r := by omega
              rw [this, List.length_append]
              omega
            · exact ⟨(e39.todel hbl).trans e10, _, hl10, by rw [← List.append_assoc]; exact hL10⟩
        · rintro σ' H' ⟨v6, v7, v8, os', rfl, e3, hl3, hL3⟩
          rw [nI_length, List.take_length] at hL3
          exact q H' os' (eb0.trans e3) hl3 hL3

/-! ### Runs.__init__, runs -/
abbrev CGo (P : Program) (w : World) (K : PySem.W.Frag) (mg : Str → Option Value) (base : Heap) (C : Addr) : Prop := CalM P w K mg base C 11 "go" ["self", "values", "done", "barred", "way"] (spGo C 7)
abbrev sRunsI : Stmt := inClass (tx 25) 0
def spRunsI (C : Addr) : Sp := fun vs H Q _ => ∃ H0 p dx y e0 Th, vs = [.ref p, y] ∧ Ext H0 H ∧ H0 p = none ∧ H p = some (.ins C dx []) ∧ PW H0 y e0 Th ∧
  ∀ H' l os, Ext H0 H' → RuS C H' (.ref p) l y → H' l = some (.lst os) → A2 (LvRow H') os (listedM Th e0 Th.length) → Q .non H'
theorem scRunsI : FnScope ["self", "program"] ["self", "program"] (defScope sRunsI) := ⟨rfl, rfl, rfl, by decide +kernel, rfl, by decide +kernel, by decide +kernel⟩
theorem ok_runsI {f C : Addr} {fd : FuncData} (F : Fun K "__init__" "Runs.__init__" sRunsI f fd) (B : Bt mg) (rk : RK K C) (c1 : CGo P w K mg base C) : FnOk P w K mg base CX0 12 f fd ["self", "program"] (spRunsI C) := by
  refine F.ok scRunsI (fun vs H Q E h => ?_) (fun cdv A outer s H vs Q E hr h => ?_)
  · obtain ⟨H0, p, dx, y, e0, Th, rfl, _⟩ := h
    rfl
  · obtain ⟨H0, p, dx, y, e0, Th, rfl, eh, np, hp, hpw, q⟩ := h
    refine ⟨_, pss_cons (ps_fldS (pv 0) (pv 1) rfl) (pss_cons (ps_fldS (pv 0) (pe_lst pa_nil) rfl)
      (pss_one (ps_expr (pe_mcal c1 rk.cl hr (pv 0) (pa_cons (pe_callTy (cr_dictE rfl) (by rfl) B.dict (by decide +kernel) (pa_cons (pe_ix ix_tup (pv 1) pe_int (fun _ _ => rfl)) pa_nil))
        (pa_cons (pe_op op_repZ (pe_tup (pa_cons pe_int pa_nil)) (pe_callB call_len (by rfl) B.len PySem.boot_len (pa_cons (pe_ix ix_tup (pv 1) pe_int (fun _ _ => rfl)) pa_nil)))
        (pa_cons (pe_tup pa_nil) (pa_cons (pe_tup pa_nil) pa_nil)))))))), ?_⟩
    simp only [tVar, tC, tOp, tUn, tTest, tChain, tNil, tCons, tTup, tLst, tCall, tMake, tCB, tIf, tAndV, tOrV, tNotV, tIsN, tNotN, tB, tAnd, tOr, tNot, tNext, tSeq, tDrop, tRet, tRetN, tIfS, tNever, gName, gNil, gCons, gSub, tAsg, tAug, tAugS, ipI, tBM, tBM0, tSl, tNoPart, tPart, tDGet, tDIn, tDNotIn, tDGet1, sDPut, tMth, tDNewT, tDNewK, tYes, rI0, rI, rU, rAdd, rSub, rEq, rNe, L2.start, List.map_cons, List.map_nil, List.length_cons, List.length_nil, List.replicate, List.append_nil, List.nil_append, List.cons_append, List.getElem?_cons_zero, List.getElem?_cons_succ, List.set_cons_zero, List.set_cons_succ, Option.some.injEq, V.int.injEq, V.bl.injEq, V.ref.injEq, V.str.injEq, exists_eq_left', exists_eq_left, exists_and_left, true_and, and_true, Nat.reduceAdd, Nat.reduceSub, Nat.add_one_sub_one, Nat.sub_self, Bool.true_eq_false, Bool.false_eq_true, if_true, if_false, ite_true, ite_false, cxOf, Cx.nox, decide_eq_true_eq, reduceCtorEq, decide_false, decide_true, Bool.not_false, Bool.not_true, eq_self, upd_same, L2.upd_upd, List.cons.injEq, and_assoc, tStF]
    refine st_fld hp rk.cl rk.program (by show 0 < 1000; omega) ⟨Nat.zero_le _, fun l nl => ?_⟩
    have n3 := hpw.n3
    have e1 : Ext H0 (upd H p (.ins C dx (putF "program" y []))) := eh.upd np
    have hp1 : upd H p (.ins C dx (putF "program" y [])) p = _ := upd_same
    generalize upd H p (.ins C dx (putF "program" y [])) = H1 at *
    have e2 : Ext H1 (upd H1 l (.lst [])) := Ext.new nl
    have hp2 := e2.1 _ _ hp1 (by simp)
    have hl2 : upd H1 l (.lst []) l = some (.lst []) := upd_same
    have npl : l ≠ p := fun z => by rw [z, hp1] at nl; cases nl
    generalize upd H1 l (.lst []) = H2 at *
    refine st_fld hp2 rk.cl rk.found (by show 1 < 1000; omega) ?_
    have e3 : Ext H0 (upd H2 p (.ins C dx (putF "found" (.ref l) (putF "program" y [])))) := (e1.trans e2).upd np
    have hp3 : RuS C (upd H2 p (.ins C dx (putF "found" (.ref l) (putF "program" y [])))) (.ref p) l y := ⟨p, dx, rfl, upd_same⟩
    have hl3 : upd H2 p (.ins C dx (putF "found" (.ref l) (putF "program" y []))) l = some (.lst []) := by rw [upd_ne npl]; exact hl2
    generalize upd H2 p (.ins C dx (putF "found" (.ref l) (putF "program" y []))) = H3 at *
    have nl0 : H0 l = none := e1.free nl
    refine hp3.mth ?_
    obtain ⟨v, tt, ps, rows, g1, g2, g3, g4, g5⟩ := (hpw.ext e3).prog
    have hn := g5.1
    refine tu_ix 1 g1 rfl ⟨v, ps, e0, rfl, g2, g3, hpw.wf.1, fun vv H4 e4 hv => ⟨szN (by decide), fun q1 nq1 => ?_⟩⟩
    have e5 := e4.trans (Ext.new (o := .tup [V.int 0]) nq1)
    refine tu_ix 2 (g1.ext e5) rfl (tu_len (g4.ext e5) ⟨rows.length, ⟨q1, rfl, upd_same⟩, rfl, by rw [hn]; exact hpw.n1, by rw [hn]; omega, fun dd H5 e6 hd => ⟨Nat.zero_le _, fun q2 nq2 => ⟨Nat.zero_le _, fun q3 nq3 => ?_⟩⟩⟩)
    rw [hn] at hd
    have e7 := e5.trans e6
    have e8 : Ext H5 (upd H5 q2 (.tup [])) := Ext.new nq2
    have hq2 : Tn (upd H5 q2 (.tup [])) (.ref q2) [] := ⟨q2, rfl, upd_same⟩
    generalize upd H5 q2 (.tup []) = H6 at *
    have e9 : Ext H6 (upd H6 q3 (.tup [])) := Ext.new nq3
    have hq3 : Tn (upd H6 q3 (.tup [])) (.ref q3) [] := ⟨q3, rfl, upd_same⟩
    generalize upd H6 q3 (.tup []) = H7 at *
    have e10 := e6.trans (e8.trans e9)
    have e37 := (e7.trans e8).trans e9
    have hR0 : remL Th (zeroL Th.length) ≤ 6 := Nat.le_trans (remL_le hpw.l2) (by omega)
    have hpow : 3 ^ remL Th (zeroL Th.length) ≤ 729 := Nat.le_trans (Nat.pow_le_pow_right (by decide) hR0) (by decide)
    refine ⟨.ref p, vv, dd, .ref q2, .ref q3, y, l, e0, e0, Th, zeroL Th.length, [], [], [], [], rfl, hp3.ext e37, hpw.ext (e3.trans e37), (hv.ext (Ext.new nq1)).ext e10, rfl, Tu.ext hd (e8.trans e9), zeroL_length _, Tu.ext hq2 e9, hq3, by omega, by simpa using hR0, e37.1 _ _ hl3 (by simp), A2.nil, by simp only [List.length_nil]; omega, fun H8 os e11 hl8 hL8 => ?_⟩
    have e12 : Ext H0 (del l H7) := (e3.trans e37).todel nl0
    have hp7 := (hp3.ext e37).del (e37.1 _ _ hl3 (by simp))
    refine q H8 l os (e12.trans e11) (hp7.ext e11) hl8 ?_
    rw [List.nil_append] at hL8
    unfold listedM
    rw [goM_fuel (remL Th (zeroL Th.length) + 1) 7 _ _ _ _ (zeroL_length _) (by omega) (by omega)]
    exact hL8

theorem sortG_lC {wi : TI} {g : TG} {tt : TT} {te : TE} {vs : List Nat} {Pa : Addr} {σ : L2.St} {H : Hp} {Q : VK} (C : Addr → List V → Hp → Prop) (hwi : ∀ R : It → Hp → Prop, (∀ a xs H1, C a xs H1 → H1 a = some (.lst xs) → R (Itl K a) H1) → wi σ H R)
    (h : ∀ a xs H1, C a xs H1 → H1 a = some (.lst xs) → GxR.TabG H1 Pa ∧ ∃ Pv : Nat → List V → Hp → Prop, (∀ H2, Ext H1 H2 → Pv 0 [] H2) ∧ (∀ i ys H', Pv i ys H' → H' a = some (.lst xs)) ∧
      (∀ (i : Nat) (x : V) (ys : List V) (H' : Hp), xs[i]? = some x → Pv i ys H' → g x (wipe σ vs) H' fun σ2 H2 => wipe σ2 vs = wipe σ vs ∧ tt σ2 H2 fun b H3 => if b = true then te σ2 H3 fun y H4 => True ∧ ys.length < sizeLine ∧ (True → Pv (i + 1) (ys ++ [y]) H4) else Pv (i + 1) ys H3) ∧
      (∀ (ys : List V) (H' : Hp), Pv xs.length ys H' → GX.rSortTI K ys H' Q)) : GX.tSortG K wi g tt te vs Pa σ H Q := by
  refine hwi _ fun a xs H1 hC ha => ?_
  obtain ⟨tab, Pv, h0, hG, hs, hd⟩ := h a xs H1 hC ha
  exact ⟨tab, fun H2 hT => ⟨_, fun _ _ _ => True, fun ys H' => Pv xs.length ys H', xs.length, ⟨rfl, Nat.zero_le _, h0 H2 (Ext.tabbed tab hT)⟩, GX.g_it (walk_list (K := K) (a := a) (xs := xs)) Pv (fun i ys H' _ p => SqL.of (hG i ys H' p))
    (fun i x ys H' H'' hi p y => by obtain ⟨e1, e2⟩ := y; subst e1; exact hs i x ys _ e2 p) fun ys H' p => p, fun ys H' p => hd ys H' p⟩⟩
theorem Tn.tupV {H : Hp} {x : V} {ns : List Nat} (h : Tn H x ns) : GX.TupV K H x (ns.map fun n : Nat => (n : Int)) := by
  obtain ⟨a, rfl, ha⟩ := h
  refine ⟨a, rfl, SqT.of ?_⟩
  rw [ha, List.map_map]; rfl
abbrev CRuns (P : Program) (w : World) (K : PySem.W.Frag) (mg : Str → Option Value) (base : Heap) (C : Addr) : Prop := CalC P w K mg base C 12 "Runs" ["self", "program"] (spRunsI C)
abbrev sRuns : Stmt := tx 26
def spRuns (Pd : Addr) : Sp := fun vs H Q _ => ∃ x e0 Th, vs = [x] ∧ PW H x e0 Th ∧ GxR.TabG H Pd ∧
  ∀ r H' its ls, Ext H H' → Tu H' r its → A2 (Tn H') its ls → ls.Perm ((listedM Th e0 Th.length).map (·.1)) → Q r H'
theorem scRuns : FnScope ["program", "way", "_"] ["program"] (defScope sRuns) := ⟨rfl, rfl, rfl, by decide +kernel, rfl, by decide +kernel, by decide +kernel⟩
theorem ok_runs {f c C Pd : Addr} {fd : FuncData} (F : FunC K "runs" "runs" sRuns f fd c) (TB : GxR.TabB base mg c Pd) (B : Bt mg) (rk : RK K C) (c1 : CRuns P w K mg base C) : FnOk P w K mg base CX0 14 f fd ["program"] (spRuns Pd) := by
  refine F.ok scRuns (fun vs H Q E h => ?_) (fun A outer s H vs Q E hr h => ?_)
  · obtain ⟨x, e0, Th, rfl, _⟩ := h
    rfl
  · obtain ⟨x, e0, Th, rfl, hp, tab, q⟩ := h
    refine ⟨_, pss_one (ps_ret (pe_callTy cr_tupL (by rfl) B.tuple (by decide +kernel) (pa_cons
      (GX.pe_sortG (own := [("way", 1), ("_", 2)]) (g := gTup K 2 (gCons (gName 1) (gCons (gName 2) gNil))) (tt := tYes) (te := tVar 1) (k := 0) rfl (hr.mono (by decide)) TB rfl scRuns.nd (by rfl) B.sorted (pi_list (pe_fldR (pe_calC c1 hr rfl (pa_cons (pv 0) pa_nil))))
        (blkOk_by (N := ["program", "way", "_"]) (sc := defScope sRuns) (by decide +kernel)) rfl (by decide +kernel) (by decide +kernel)
        (fun _ _ _ _ _ _ _ _ _ => pg_tup rfl (pgs_cons (pg_name (i := 1) scRuns.nd rfl (.inl rfl)) (pgs_cons (pg_name (i := 2) scRuns.nd rfl (.inl rfl)) pgs_nil))) (fun _ _ _ _ _ _ _ _ _ => pts_nil) (fun _ _ _ _ _ _ _ _ _ => pv 1)) pa_nil))), ?_⟩
    simp only [tVar, tC, tOp, tUn, tTest, tChain, tNil, tCons, tTup, tLst, tCall, tMake, tCB, tIf, tAndV, tOrV, tNotV, tIsN, tNotN, tB, tAnd, tOr, tNot, tNext, tSeq, tDrop, tRet, tRetN, tIfS, tNever, gName, gNil, gCons, gSub, tAsg, tAug, tAugS, ipI, tBM, tBM0, tSl, tNoPart, tPart, tDGet, tDIn, tDNotIn, tDGet1, sDPut, tMth, tDNewT, tDNewK, tYes, rI0, rI, rU, rAdd, rSub, rEq, rNe, L2.start, List.map_cons, List.map_nil, List.length_cons, List.length_nil, List.replicate, List.append_nil, List.nil_append, List.cons_append, List.getElem?_cons_zero, List.getElem?_cons_succ, List.set_cons_zero, List.set_cons_succ, Option.some.injEq, V.int.injEq, V.bl.injEq, V.ref.injEq, V.str.injEq, exists_eq_left', exists_eq_left, exists_and_left, true_and, and_true, Nat.reduceAdd, Nat.reduceSub, Nat.add_one_sub_one, Nat.sub_self, Bool.true_eq_false, Bool.false_eq_true, if_true, if_false, ite_true, ite_false, cxOf, Cx.nox, decide_eq_true_eq, reduceCtorEq, decide_false, decide_true, Bool.not_false, Bool.not_true, eq_self, upd_same, L2.upd_upd, List.cons.injEq, and_assoc]
    refine sortG_lC (K := K) (fun a xs H1 => Ext H H1 ∧ A2 (LvRow H1) xs (listedM Th e0 Th.length)) (fun R h => ?_) ?_
    · unfold iList
      simp only [tVar, tC, tOp, tUn, tTest, tChain, tNil, tCons, tTup, tLst, tCall, tMake, tCB, tIf, tAndV, tOrV, tNotV, tIsN, tNotN, tB, tAnd, tOr, tNot, tNext, tSeq, tDrop, tRet, tRetN, tIfS, tNever, gName, gNil, gCons, gSub, tAsg, tAug, tAugS, ipI, tBM, tBM0, tSl, tNoPart, tPart, tDGet, tDIn, tDNotIn, tDGet1, sDPut, tMth, tDNewT, tDNewK, tYes, rI0, rI, rU, rAdd, rSub, rEq, rNe, L2.start, List.map_cons, List.map_nil, List.length_cons, List.length_nil, List.replicate, List.append_nil, List.nil_append, List.cons_append, List.getElem?_cons_zero, List.getElem?_cons_succ, List.set_cons_zero, List.set_cons_succ, Option.some.injEq, V.int.injEq, V.bl.injEq, V.ref.injEq, V.str.injEq, exists_eq_left', exists_eq_left, exists_and_left, true_and, and_true, Nat.reduceAdd, Nat.reduceSub, Nat.add_one_sub_one, Nat.sub_self, Bool.true_eq_false, Bool.false_eq_true, if_true, if_false, ite_true, ite_false, cxOf, Cx.nox, decide_eq_true_eq, reduceCtorEq, decide_false, decide_true, Bool.not_false, Bool.not_true, eq_self, upd_same, L2.upd_upd, List.cons.injEq, and_assoc]
      intro z dx nz ndx hne
      refine ⟨H, z, dx, x, e0, Th, rfl, (Ext.new ndx).upd nz, nz, upd_same, hp, fun H' l os e ru hl hL => ⟨rfl, ru.f_found rk ⟨l, rfl, ⟨_, SqL.of hl⟩, h l os H' ⟨e, hL⟩ hl⟩⟩⟩
    · rintro a xs H1 ⟨e1, hL⟩ ha
      have n3 := hp.n3
      have hR0 : remL Th (zeroL Th.length) ≤ 6 := Nat.le_trans (remL_le hp.l2) (by omega)
      have hpow : 3 ^ remL Th (zeroL Th.length) ≤ 729 := Nat.le_trans (Nat.pow_le_pow_right (by decide) hR0) (by decide)
      have hll : (listedM Th e0 Th.length).length ≤ 729 := Nat.le_trans (goM_len n3 _ _ _ _ _ (zeroL_length _)) hpow
      refine ⟨e1.2.tab tab, fun j ys Hj => Ext H1 Hj ∧ A2 (Tn Hj) ys (((listedM Th e0 Th.length).take j).map (·.1)), fun H2 e2 => ⟨e2, A2.nil⟩, fun j ys Hj ⟨e, _⟩ => e.1 _ _ ha (by simp), ?_, ?_⟩
      · rintro j xx ys Hj hj ⟨ej, hA⟩
        obtain ⟨wc, hwc, va, vb, g1, g2, g3⟩ := hL.2 j xx hj
        have hjl := (List.getElem?_eq_some_iff.mp hwc).1
        refine tu_tgt (g1.ext ej) ?_
        simp only [tVar, tC, tOp, tUn, tTest, tChain, tNil, tCons, tTup, tLst, tCall, tMake, tCB, tIf, tAndV, tOrV, tNotV, tIsN, tNotN, tB, tAnd, tOr, tNot, tNext, tSeq, tDrop, tRet, tRetN, tIfS, tNever, gName, gNil, gCons, gSub, tAsg, tAug, tAugS, ipI, tBM, tBM0, tSl, tNoPart, tPart, tDGet, tDIn, tDNotIn, tDGet1, sDPut, tMth, tDNewT, tDNewK, tYes, rI0, rI, rU, rAdd, rSub, rEq, rNe, L2.start, List.map_cons, List.map_nil, List.length_cons, List.length_nil, List.replicate, List.append_nil, List.nil_append, List.cons_append, List.getElem?_cons_zero, List.getElem?_cons_succ, List.set_cons_zero, List.set_cons_succ, Option.some.injEq, V.int.injEq, V.bl.injEq, V.ref.injEq, V.str.injEq, exists_eq_left', exists_eq_left, exists_and_left, true_and, and_true, Nat.reduceAdd, Nat.reduceSub, Nat.add_one_sub_one, Nat.sub_self, Bool.true_eq_false, Bool.false_eq_true, if_true, if_false, ite_true, ite_false, cxOf, Cx.nox, decide_eq_true_eq, reduceCtorEq, decide_false, decide_true, Bool.not_false, Bool.not_true, eq_self, upd_same, L2.upd_upd, List.cons.injEq, and_assoc, wipe]
        have htk : (listedM Th e0 Th.length).take (j + 1) = (listedM Th e0 Th.length).take j ++ [wc] := take_g hwc
        refine ⟨small1000 ?_, fun _ => ⟨ej, ?_⟩⟩
        · rw [hA.1, List.length_map, List.length_take]; omega
        · rw [htk, List.map_append]
          exact A2.snoc hA (Tu.ext g2 ej)
      · rintro ys Hj ⟨ej, hA⟩
        rw [hL.1, List.take_length] at hA
        have hyl : ys.length = (listedM Th e0 Th.length).length := by rw [hA.1, List.length_map]
        refine ⟨Nat.le_of_lt (small1000 (by omega)), fun y hy => ?_, fun zs p hperm np => ?_⟩
        · obtain ⟨i, hi, e⟩ := List.mem_iff_getElem.mp hy
          obtain ⟨b, hb, hT⟩ := hA.2 i y (by rw [List.getElem?_eq_getElem hi, e])
          refine ⟨_, hT.tupV, fun h2 => ?_⟩
          obtain ⟨p, hp', rfl⟩ := List.mem_map.mp (List.mem_of_getElem? hb)
          have := listed_ne (n := Th.length) rfl (by omega) p hp'
          simpa using this
        · obtain ⟨ls, h1, h2⟩ := A2.perm hperm hA
          refine ⟨p, zs, rfl, SqL.of upd_same, fun l nl => ?_⟩
          have e2 : Ext Hj (upd Hj p (.lst zs)) := Ext.new np
          have e3 := e2.trans (Ext.new (o := .tup zs) nl)
          exact q _ _ zs ls ((e1.trans ej).trans e3) ⟨l, rfl, upd_same⟩ (h1.imp fun _ _ zz => Tu.ext zz e3) h2
end
end TW

set_option maxHeartbeats 8000000
/-! TwT: the law's defs that read the script: _law_cell, _law_digits, _law_draw. -/
namespace TW
open PySem PySem.Spec PyProof.Rows L2
open TC hiding Step Env
/-- int(x) of an int -/
def rInt1 : List V → Hp → VK → Prop := fun xs H Q => ∃ i, xs = [.int i] ∧ Q (.int i) H
theorem cr_int1 {X : Cx} : CallR X (.type "int") rInt1 := fun pins s σ H xs us Q I r h => call_int1 pins s σ H xs us Q I r (.inl h)
theorem for_rng2T {ta : TA} {g : TG} {tb : TS} {D : Ends} {σ : L2.St} {H H1 : Hp} {a b : Nat} (hta : ∀ R : List V → Hp → Prop, R [V.int (a : Nat), V.int (b : Nat)] H1 → ta σ H R) (hb : b ≤ 1000) (ha : a ≤ b) (Pv : Nat → L2.St → Hp → Prop) (h0 : Pv 0 σ H1)
    (hs : ∀ (i : Nat) (σ' : L2.St) (H' : Hp), i < b - a → Pv i σ' H' → g (.int ((a + i : Nat) : Int)) σ' H' fun σ2 H2 => tb { D with nx := Pv (i + 1), ct := Pv (i + 1), bk := D.nx } σ2 H2)
    (hd : ∀ σ' H', Pv (b - a) σ' H' → D.nx σ' H') : tFor (iRng2 ta) g tb D σ H := by
  unfold tFor iRng2
  refine hta _ ⟨a, b, rfl, ⟨by omega, by omega, by omega, by omega⟩, ?_⟩
  have : ((b : Int) - (a : Int)).toNat = b - a := by omega
  rw [this]
  refine for_it walk_range Pv h0 (fun i σ' H' _ p => trivial) (fun i x σ' H' H'' hi p y => ?_) hd
  obtain ⟨e1, e2⟩ := y
  subst e1 e2
  have := hs i σ' H'' hi p
  rw [show (((a + i : Nat)) : Int) = (a : Int) + (i : Nat) by omega] at this
  exact this
theorem seq_C {t u : TS} {D : Ends} {σ : L2.St} {H : Hp} (C : L2.St → Hp → Prop) (h1 : ∀ N : L2.St → Hp → Prop, (∀ σ' H', C σ' H' → N σ' H') → t { D with nx := N } σ H) (h2 : ∀ σ' H', C σ' H' → u D σ' H') : tSeq t u D σ H := h1 _ h2
theorem sql_ext {K : PySem.W.Frag} {H H' : Hp} {a : Addr} {xs : List V} (h : SqL K H a xs) (e : Ext H H') : SqL K H' a xs := by
  rcases h with (h | ⟨o, h⟩) | h
  · exact .inl (.inl (e.1 _ _ h (by simp)))
  · exact .inl (.inr ⟨o, e.1 _ _ h (by simp)⟩)
  · exact .inr h
def DgI (H : Hp) (l p : Addr) (m : Nat) (σ' : L2.St) (H' : Hp) : Prop := ∃ (v4 v5 v6 v7 : Option V) (ds : List Int), σ' = [some (.ref l), some (.int 0), some (.int 62), some (.ref p), v4, v5, v6, v7] ∧ Ext H H' ∧ H' p = some (.lst (ds.map V.int)) ∧ ds.length ≤ m
def DgJ (H : Hp) (l p : Addr) (k m : Nat) (σ' : L2.St) (H' : Hp) : Prop := ∃ (c : Int) (v6 v7 : Option V) (ds : List Int), σ' = [some (.ref l), some (.int 0), some (.int 62), some (.ref p), some (.int (k : Nat)), some (.int c), v6, v7] ∧ Ext H H' ∧ H' p = some (.lst (ds.map V.int)) ∧ ds.length ≤ m
def DgK (H : Hp) (l p : Addr) (k m : Nat) (σ' : L2.St) (H' : Hp) : Prop := ∃ (c d : Int) (v6 : Option V) (ds : List Int), σ' = [some (.ref l), some (.int 0), some (.int 62), some (.ref p), some (.int (k : Nat)), some (.int c), v6, some (.int d)] ∧ Ext H H' ∧ H' p = some (.lst (ds.map V.int)) ∧ ds.length ≤ m
theorem push_ints {H0 H : Hp} {p : Addr} {ds : List Int} {m : Nat} {d : Int} {Q : VK} (np : H0 p = none) (e : Ext H0 H) (h : H p = some (.lst (ds.map V.int))) (hm : ds.length ≤ m) (h9 : m ≤ 10000) (q : ∀ H', Ext H0 H' → H' p = some (.lst ((ds ++ [d]).map V.int)) → (ds ++ [d]).length ≤ m + 1 → Q .non H') : rAppend (.ref p) [V.int d] H Q := by
  refine ap_listL h (by rw [List.length_map]; omega) (q _ (e.upd np) ?_ (by rw [List.length_append]; show ds.length + 1 ≤ _; omega))
  rw [upd_same, List.map_append]; rfl
section
variable {P : Program} {w : World} {K : PySem.W.Frag} {mg : Str → Option Value} {base : Heap}
abbrev sCell : Stmt := tx 28
def spCellW (K : PySem.W.Frag) : Sp := fun vs H Q _ => ∃ (l : Addr) (ns : List Int) (k : Nat), vs = [.ref l, .int (k : Nat)] ∧ SqL K H l (ns.map V.int) ∧ ∀ i : Int, Q (.int i) H
theorem scCell : FnScope ["_law_script", "_law_k"] ["_law_script", "_law_k"] (defScope sCell) := ⟨rfl, rfl, rfl, by decide +kernel, rfl, by decide +kernel, by decide +kernel⟩
theorem ok_cellW {f : Addr} {fd : FuncData} (F : Fun K "_law_cell" "_law_cell" sCell f fd) (B : Bt mg) : FnOk P w K mg base CX0 1 f fd ["_law_script", "_law_k"] (spCellW K) := by
  refine F.ok scCell (fun vs H Q E h => ?_) (fun cdv A outer s H vs Q E hr h => ?_)
  · obtain ⟨l, ns, k, rfl, _⟩ := h
    rfl
  · obtain ⟨l, ns, k, rfl, hl, q⟩ := h
    refine ⟨_, pss_cons (ps_if (pt_cmpR op_lt (pv 1) (pe_callB call_len (by rfl) B.len PySem.boot_len (pa_cons (pv 0) pa_nil)) (nomark _)) (pss_one (ps_ret (pe_ix ix_list (pv 0) (pv 1) (fun _ _ => rfl)))) pss_nil)
      (pss_one (ps_ret pe_int)), ?_⟩
    simp only [tVar, tC, tOp, tUn, tTest, tChain, tNil, tCons, tTup, tLst, tCall, tMake, tCB, tIf, tAndV, tOrV, tNotV, tIsN, tNotN, tB, tAnd, tOr, tNot, tNext, tSeq, tDrop, tRet, tRetN, tIfS, tNever, gName, gNil, gCons, gSub, tAsg, tAug, tAugS, ipI, tBM, tBM0, tSl, tNoPart, tPart, tDGet, tDIn, tDNotIn, tDGet1, sDPut, tMth, tDNewT, tDNewK, tYes, rI0, rI, rU, rAdd, rSub, rEq, rNe, L2.start, List.map_cons, List.map_nil, List.length_cons, List.length_nil, List.replicate, List.append_nil, List.nil_append, List.cons_append, List.getElem?_cons_zero, List.getElem?_cons_succ, List.set_cons_zero, List.set_cons_succ, Option.some.injEq, V.int.injEq, V.bl.injEq, V.ref.injEq, V.str.injEq, exists_eq_left', exists_eq_left, exists_and_left, true_and, and_true, Nat.reduceAdd, Nat.reduceSub, Nat.add_one_sub_one, Nat.sub_self, Bool.true_eq_false, Bool.false_eq_true, if_true, if_false, ite_true, ite_false, cxOf, Cx.nox, decide_eq_true_eq, reduceCtorEq, decide_false, decide_true, Bool.not_false, Bool.not_true, eq_self, upd_same, L2.upd_upd, List.cons.injEq, and_assoc]
    refine ⟨l, _, rfl, .inl hl, _, rfl, ?_⟩
    by_cases h : (k : Int) < (((ns.map V.int).length : Nat) : Int)
    · rw [if_pos h]
      have hk : k < ns.length := by rw [List.length_map] at h; omega
      obtain ⟨i, hi⟩ := eq_at hk
      exact ⟨l, _, _, .int i, rfl, rfl, hl, atI_nat (by rw [List.getElem?_map, hi]; rfl), q i⟩
    · rw [if_neg h]
      exact q 0
abbrev CCell (P : Program) (w : World) (K : PySem.W.Frag) (mg : Str → Option Value) (base : Heap) : Prop := Cal P w K mg base 1 "_law_cell" ["_law_script", "_law_k"] (spCellW K)
abbrev sDig : Stmt := tx 29
abbrev nDig : List Str := ["_law_script", "_law_first", "_law_last", "_law_digits_here", "_law_k", "_law_cell_here", "_law_turn", "_law_seed"]
def spDig (K : PySem.W.Frag) : Sp := fun vs H Q _ => ∃ (l : Addr) (ns : List Int), vs = [.ref l, .int 0, .int 62] ∧ SqL K H l (ns.map V.int) ∧ ∀ (H' : Hp) (p : Addr) (ds : List Int), Ext H H' → H' p = some (.lst (ds.map V.int)) → Q (.ref p) H'
theorem scDig : FnScope nDig ["_law_script", "_law_first", "_law_last"] (defScope sDig) := ⟨rfl, rfl, rfl, by decide +kernel, rfl, by decide +kernel, by decide +kernel⟩
theorem ok_dig {f : Addr} {fd : FuncData} (F : Fun K "_law_digits" "_law_digits" sDig f fd) (B : Bt mg) (c1 : CCell P w K mg base) : FnOk P w K mg base CX0 2 f fd ["_law_script", "_law_first", "_law_last"] (spDig K) := by
  refine F.ok scDig (fun vs H Q E h => ?_) (fun cdv A outer s H vs Q E hr h => ?_)
  · obtain ⟨l, ns, rfl, _⟩ := h
    rfl
  · obtain ⟨l, ns, rfl, hl, q⟩ := h
    refine ⟨_, pss_cons (ps_set (i := 3) scDig.nd rfl (Or.inl rfl) (pe_lst pa_nil))
      (pss_cons (ps_for PassesOwn.never rfl (pi_range2 (by rfl) B.range (pa_cons (pv 1) (pa_cons (pv 2) pa_nil))) (pg_name (i := 4) scDig.nd rfl (.inl rfl))
        (pss_cons (ps_set (i := 5) scDig.nd rfl (Or.inl rfl) (pe_cal c1 hr rfl (pa_cons (pv 0) (pa_cons (pv 4) pa_nil))))
        (pss_cons (ps_if (pt_cmpR op_lt (pv 5) pe_int (nomark _)) (pss_one (ps_set (i := 5) scDig.nd rfl (Or.inl rfl) (pe_op op_sub pe_int (pe_op op_mul pe_int (pv 5))))) pss_nil)
        (pss_one (ps_if (pt_cmpR op_ge (pv 5) (pe_op op_pow pe_int pe_int) (nomark _))
          (pss_one (ps_for PassesOwn.never rfl (pi_range1 (by rfl) B.range (pa_cons pe_int pa_nil)) (pg_name (i := 6) scDig.nd rfl (.inl rfl))
            (pss_one (ps_if (pt_cmpR op_gt (pv 5) pe_int (nomark _))
              (pss_cons (ps_expr (pe_bm PySem.F.plainAttrs_list PySem.F.slot_list_append PySem.F.type_list_append mt_append (pv 3) (pa_cons (pe_op op_mod (pe_callTy cr_int1 (by rfl) B.int PyProof.Rows.boot_int (pa_cons (pv 5) pa_nil)) pe_int) pa_nil)))
              (pss_one (ps_set (i := 5) scDig.nd rfl (Or.inl rfl) (pe_op op_fdiv (pv 5) pe_int))))
              pss_nil))))
          (pss_cons (ps_set (i := 7) scDig.nd rfl (Or.inl rfl) (pe_op op_mod (pe_callTy cr_int1 (by rfl) B.int PyProof.Rows.boot_int (pa_cons (pe_op op_add (pe_op op_add (pe_op op_mul (pv 5) pe_int) (pe_op op_mul (pv 4) pe_int)) pe_int) pa_nil)) pe_int))
          (pss_one (ps_for PassesOwn.never rfl (pi_range1 (by rfl) B.range (pa_cons pe_int pa_nil)) (pg_name (i := 6) scDig.nd rfl (.inl rfl))
            (pss_cons (ps_set (i := 7) scDig.nd rfl (Or.inl rfl) (pe_op op_mod (pe_callTy cr_int1 (by rfl) B.int PyProof.Rows.boot_int (pa_cons (pe_op op_add (pe_op op_add (pe_op op_mul (pv 7) pe_int) (pe_op op_mul pe_int (pv 6))) pe_int) pa_nil)) pe_int))
            (pss_one (ps_expr (pe_bm PySem.F.plainAttrs_list PySem.F.slot_list_append PySem.F.type_list_append mt_append (pv 3) (pa_cons (pe_op op_mod (pe_callTy cr_int1 (by rfl) B.int PyProof.Rows.boot_int (pa_cons (pe_op op_fdiv (pv 7) pe_int) pa_nil)) pe_int) pa_nil)))))))))))))
      (pss_one (ps_ret (pv 3)))), ?_⟩
    simp only [tVar, tC, tOp, tUn, tTest, tChain, tNil, tCons, tTup, tLst, tCall, tMake, tCB, tIf, tAndV, tOrV, tNotV, tIsN, tNotN, tB, tAnd, tOr, tNot, tNext, tSeq, tDrop, tRet, tRetN, tIfS, tNever, gName, gNil, gCons, gSub, tAsg, tAug, tAugS, ipI, tBM, tBM0, tSl, tNoPart, tPart, tDGet, tDIn, tDNotIn, tDGet1, sDPut, tMth, tDNewT, tDNewK, tYes, rI0, rI, rU, rAdd, rSub, rEq, rNe, L2.start, List.map_cons, List.map_nil, List.length_cons, List.length_nil, List.replicate, List.append_nil, List.nil_append, List.cons_append, List.getElem?_cons_zero, List.getElem?_cons_succ, List.set_cons_zero, List.set_cons_succ, Option.some.injEq, V.int.injEq, V.bl.injEq, V.ref.injEq, V.str.injEq, exists_eq_left', exists_eq_left, exists_and_left, true_and, and_true, Nat.reduceAdd, Nat.reduceSub, Nat.add_one_sub_one, Nat.sub_self, Bool.true_eq_false, Bool.false_eq_true, if_true, if_false, ite_true, ite_false, cxOf, Cx.nox, decide_eq_true_eq, reduceCtorEq, decide_false, decide_true, Bool.not_false, Bool.not_true, eq_self, upd_same, L2.upd_upd, List.cons.injEq, and_assoc]
    refine ⟨Nat.zero_le _, fun p np => ?_⟩
    refine for_rng2T (a := 0) (b := 62) (fun R h => ?_) (by omega) (by omega) (fun i => DgI H l p (60 * i)) ⟨none, none, none, none, [], rfl, Ext.new np, upd_same, Nat.le_refl _⟩ ?_ ?_
    · simp only [tVar, tC, tOp, tUn, tTest, tChain, tNil, tCons, tTup, tLst, tCall, tMake, tCB, tIf, tAndV, tOrV, tNotV, tIsN, tNotN, tB, tAnd, tOr, tNot, tNext, tSeq, tDrop, tRet, tRetN, tIfS, tNever, gName, gNil, gCons, gSub, tAsg, tAug, tAugS, ipI, tBM, tBM0, tSl, tNoPart, tPart, tDGet, tDIn, tDNotIn, tDGet1, sDPut, tMth, tDNewT, tDNewK, tYes, rI0, rI, rU, rAdd, rSub, rEq, rNe, L2.start, List.map_cons, List.map_nil, List.length_cons, List.length_nil, List.replicate, List.append_nil, List.nil_append, List.cons_append, List.getElem?_cons_zero, List.getElem?_cons_succ, List.set_cons_zero, List.set_cons_succ, Option.some.injEq, V.int.injEq, V.bl.injEq, V.ref.injEq, V.str.injEq, exists_eq_left', exists_eq_left, exists_and_left, true_and, and_true, Nat.reduceAdd, Nat.reduceSub, Nat.add_one_sub_one, Nat.sub_self, Bool.true_eq_false, Bool.false_eq_true, if_true, if_false, ite_true, ite_false, cxOf, Cx.nox, decide_eq_true_eq, reduceCtorEq, decide_false, decide_true, Bool.not_false, Bool.not_true, eq_self, upd_same, L2.upd_upd, List.cons.injEq, and_assoc]
      exact h
    · rintro i σ' H' hi ⟨v4, v5, v6, v7, ds, rfl, e1, hp1, hm⟩
      rw [Nat.zero_add]
      show tSeq _ _ _ _ _
      refine seq_C (DgJ H l p i (60 * i)) (fun N hN => ?_) ?_
      · simp only [tVar, tC, tOp, tUn, tTest, tChain, tNil, tCons, tTup, tLst, tCall, tMake, tCB, tIf, tAndV, tOrV, tNotV, tIsN, tNotN, tB, tAnd, tOr, tNot, tNext, tSeq, tDrop, tRet, tRetN, tIfS, tNever, gName, gNil, gCons, gSub, tAsg, tAug, tAugS, ipI, tBM, tBM0, tSl, tNoPart, tPart, tDGet, tDIn, tDNotIn, tDGet1, sDPut, tMth, tDNewT, tDNewK, tYes, rI0, rI, rU, rAdd, rSub, rEq, rNe, L2.start, List.map_cons, List.map_nil, List.length_cons, List.length_nil, List.replicate, List.append_nil, List.nil_append, List.cons_append, List.getElem?_cons_zero, List.getElem?_cons_succ, List.set_cons_zero, List.set_cons_succ, Option.some.injEq, V.int.injEq, V.bl.injEq, V.ref.injEq, V.str.injEq, exists_eq_left', exists_eq_left, exists_and_left, true_and, and_true, Nat.reduceAdd, Nat.reduceSub, Nat.add_one_sub_one, Nat.sub_self, Bool.true_eq_false, Bool.false_eq_true, if_true, if_false, ite_true, ite_false, cxOf, Cx.nox, decide_eq_true_eq, reduceCtorEq, decide_false, decide_true, Bool.not_false, Bool.not_true, eq_self, upd_same, L2.upd_upd, List.cons.injEq, and_assoc]
        exact ⟨l, ns, i, rfl, sql_ext hl e1, fun c => hN _ _ ⟨c, v6, v7, ds, rfl, e1, hp1, hm⟩⟩
      · rintro σ' H' ⟨c, v6, v7, ds, rfl, e1, hp1, hm⟩
        refine seq_C (DgJ H l p i (60 * i)) (fun N hN => ?_) ?_
        · simp only [tVar, tC, tOp, tUn, tTest, tChain, tNil, tCons, tTup, tLst, tCall, tMake, tCB, tIf, tAndV, tOrV, tNotV, tIsN, tNotN, tB, tAnd, tOr, tNot, tNext, tSeq, tDrop, tRet, tRetN, tIfS, tNever, gName, gNil, gCons, gSub, tAsg, tAug, tAugS, ipI, tBM, tBM0, tSl, tNoPart, tPart, tDGet, tDIn, tDNotIn, tDGet1, sDPut, tMth, tDNewT, tDNewK, tYes, rI0, rI, rU, rAdd, rSub, rEq, rNe, L2.start, List.map_cons, List.map_nil, List.length_cons, List.length_nil, List.replicate, List.append_nil, List.nil_append, List.cons_append, List.getElem?_cons_zero, List.getElem?_cons_succ, List.set_cons_zero, List.set_cons_succ, Option.some.injEq, V.int.injEq, V.bl.injEq, V.ref.injEq, V.str.injEq, exists_eq_left', exists_eq_left, exists_and_left, true_and, and_true, Nat.reduceAdd, Nat.reduceSub, Nat.add_one_sub_one, Nat.sub_self, Bool.true_eq_false, Bool.false_eq_true, if_true, if_false, ite_true, ite_false, cxOf, Cx.nox, decide_eq_true_eq, reduceCtorEq, decide_false, decide_true, Bool.not_false, Bool.not_true, eq_self, upd_same, L2.upd_upd, List.cons.injEq, and_assoc]
          by_cases hc : c < 0
          · rw [if_pos hc]
            exact ⟨.inl ⟨by decide, by decide⟩, hN _ _ ⟨_, v6, v7, ds, rfl, e1, hp1, hm⟩⟩
          · rw [if_neg hc]
            exact hN _ _ ⟨_, v6, v7, ds, rfl, e1, hp1, hm⟩
        · rintro σ' H' ⟨c, v6, v7, ds, rfl, e1, hp1, hm⟩
          simp only [tVar, tC, tOp, tUn, tTest, tChain, tNil, tCons, tTup, tLst, tCall, tMake, tCB, tIf, tAndV, tOrV, tNotV, tIsN, tNotN, tB, tAnd, tOr, tNot, tNext, tSeq, tDrop, tRet, tRetN, tIfS, tNever, gName, gNil, gCons, gSub, tAsg, tAug, tAugS, ipI, tBM, tBM0, tSl, tNoPart, tPart, tDGet, tDIn, tDNotIn, tDGet1, sDPut, tMth, tDNewT, tDNewK, tYes, rI0, rI, rU, rAdd, rSub, rEq, rNe, L2.start, List.map_cons, List.map_nil, List.length_cons, List.length_nil, List.replicate, List.append_nil, List.nil_append, List.cons_append, List.getElem?_cons_zero, List.getElem?_cons_succ, List.set_cons_zero, List.set_cons_succ, Option.some.injEq, V.int.injEq, V.bl.injEq, V.ref.injEq, V.str.injEq, exists_eq_left', exists_eq_left, exists_and_left, true_and, and_true, Nat.reduceAdd, Nat.reduceSub, Nat.add_one_sub_one, Nat.sub_self, Bool.true_eq_false, Bool.false_eq_true, if_true, if_false, ite_true, ite_false, cxOf, Cx.nox, decide_eq_true_eq, reduceCtorEq, decide_false, decide_true, Bool.not_false, Bool.not_true, eq_self, upd_same, L2.upd_upd, List.cons.injEq, and_assoc, rInt1]
          refine ⟨⟨by decide, by decide, by decide⟩, ?_⟩
          have key : ∀ {σ' H'}, DgJ H l p i (60 * i + 60) σ' H' → DgI H l p (60 * (i + 1)) σ' H' := fun {σ' H'} ⟨c, v6, v7, ds, a, b, cc, d⟩ => ⟨_, _, _, _, ds, a, b, cc, by omega⟩
          split
          · refine for_rngT (n := 60) (fun R h => ?_) (by omega) (fun j => DgJ H l p i (60 * i + j)) ⟨c, v6, v7, ds, rfl, e1, hp1, hm⟩ ?_ (fun σ' H' h => key h)
            · simp only [tVar, tC, tOp, tUn, tTest, tChain, tNil, tCons, tTup, tLst, tCall, tMake, tCB, tIf, tAndV, tOrV, tNotV, tIsN, tNotN, tB, tAnd, tOr, tNot, tNext, tSeq, tDrop, tRet, tRetN, tIfS, tNever, gName, gNil, gCons, gSub, tAsg, tAug, tAugS, ipI, tBM, tBM0, tSl, tNoPart, tPart, tDGet, tDIn, tDNotIn, tDGet1, sDPut, tMth, tDNewT, tDNewK, tYes, rI0, rI, rU, rAdd, rSub, rEq, rNe, L2.start, List.map_cons, List.map_nil, List.length_cons, List.length_nil, List.replicate, List.append_nil, List.nil_append, List.cons_append, List.getElem?_cons_zero, List.getElem?_cons_succ, List.set_cons_zero, List.set_cons_succ, Option.some.injEq, V.int.injEq, V.bl.injEq, V.ref.injEq, V.str.injEq, exists_eq_left', exists_eq_left, exists_and_left, true_and, and_true, Nat.reduceAdd, Nat.reduceSub, Nat.add_one_sub_one, Nat.sub_self, Bool.true_eq_false, Bool.false_eq_true, if_true, if_false, ite_true, ite_false, cxOf, Cx.nox, decide_eq_true_eq, reduceCtorEq, decide_false, decide_true, Bool.not_false, Bool.not_true, eq_self, upd_same, L2.upd_upd, List.cons.injEq, and_assoc]
              exact h
            · rintro j σ' H' hj ⟨c, v6, v7, ds, rfl, e1, hp1, hm⟩
              simp only [tVar, tC, tOp, tUn, tTest, tChain, tNil, tCons, tTup, tLst, tCall, tMake, tCB, tIf, tAndV, tOrV, tNotV, tIsN, tNotN, tB, tAnd, tOr, tNot, tNext, tSeq, tDrop, tRet, tRetN, tIfS, tNever, gName, gNil, gCons, gSub, tAsg, tAug, tAugS, ipI, tBM, tBM0, tSl, tNoPart, tPart, tDGet, tDIn, tDNotIn, tDGet1, sDPut, tMth, tDNewT, tDNewK, tYes, rI0, rI, rU, rAdd, rSub, rEq, rNe, L2.start, List.map_cons, List.map_nil, List.length_cons, List.length_nil, List.replicate, List.append_nil, List.nil_append, List.cons_append, List.getElem?_cons_zero, List.getElem?_cons_succ, List.set_cons_zero, List.set_cons_succ, Option.some.injEq, V.int.injEq, V.bl.injEq, V.ref.injEq, V.str.injEq, exists_eq_left', exists_eq_left, exists_and_left, true_and, and_true, Nat.reduceAdd, Nat.reduceSub, Nat.add_one_sub_one, Nat.sub_self, Bool.true_eq_false, Bool.false_eq_true, if_true, if_false, ite_true, ite_false, cxOf, Cx.nox, decide_eq_true_eq, reduceCtorEq, decide_false, decide_true, Bool.not_false, Bool.not_true, eq_self, upd_same, L2.upd_upd, List.cons.injEq, and_assoc, rInt1]
              by_cases hc : 0 < c
              · rw [if_pos hc]
                exact ⟨ty_list hp1, by decide, push_ints np e1 hp1 hm (by omega) fun H'' e2 hp2 hm2 => ⟨⟨by decide, by decide⟩, _, _, _, _, rfl, e2, hp2, hm2⟩⟩
              · rw [if_neg hc]
                exact ⟨_, _, _, _, rfl, e1, hp1, by omega⟩
          · refine ⟨.inr ⟨by decide, by decide⟩, .inr ⟨by decide, by decide⟩, by decide, ?_⟩
            refine for_rngT (n := 12) (fun R h => ?_) (by omega) (fun j => DgK H l p i (60 * i + j)) ⟨c, _, v6, ds, rfl, e1, hp1, hm⟩ ?_ (fun σ' H' ⟨c, d, v6, ds, a, b, cc, dd⟩ => ⟨_, _, _, _, ds, a, b, cc, by omega⟩)
            · simp only [tVar, tC, tOp, tUn, tTest, tChain, tNil, tCons, tTup, tLst, tCall, tMake, tCB, tIf, tAndV, tOrV, tNotV, tIsN, tNotN, tB, tAnd, tOr, tNot, tNext, tSeq, tDrop, tRet, tRetN, tIfS, tNever, gName, gNil, gCons, gSub, tAsg, tAug, tAugS, ipI, tBM, tBM0, tSl, tNoPart, tPart, tDGet, tDIn, tDNotIn, tDGet1, sDPut, tMth, tDNewT, tDNewK, tYes, rI0, rI, rU, rAdd, rSub, rEq, rNe, L2.start, List.map_cons, List.map_nil, List.length_cons, List.length_nil, List.replicate, List.append_nil, List.nil_append, List.cons_append, List.getElem?_cons_zero, List.getElem?_cons_succ, List.set_cons_zero, List.set_cons_succ, Option.some.injEq, V.int.injEq, V.bl.injEq, V.ref.injEq, V.str.injEq, exists_eq_left', exists_eq_left, exists_and_left, true_and, and_true, Nat.reduceAdd, Nat.reduceSub, Nat.add_one_sub_one, Nat.sub_self, Bool.true_eq_false, Bool.false_eq_true, if_true, if_false, ite_true, ite_false, cxOf, Cx.nox, decide_eq_true_eq, reduceCtorEq, decide_false, decide_true, Bool.not_false, Bool.not_true, eq_self, upd_same, L2.upd_upd, List.cons.injEq, and_assoc]
              exact h
            · rintro j σ' H' hj ⟨c, d, v6, ds, rfl, e1, hp1, hm⟩
              simp only [tVar, tC, tOp, tUn, tTest, tChain, tNil, tCons, tTup, tLst, tCall, tMake, tCB, tIf, tAndV, tOrV, tNotV, tIsN, tNotN, tB, tAnd, tOr, tNot, tNext, tSeq, tDrop, tRet, tRetN, tIfS, tNever, gName, gNil, gCons, gSub, tAsg, tAug, tAugS, ipI, tBM, tBM0, tSl, tNoPart, tPart, tDGet, tDIn, tDNotIn, tDGet1, sDPut, tMth, tDNewT, tDNewK, tYes, rI0, rI, rU, rAdd, rSub, rEq, rNe, L2.start, List.map_cons, List.map_nil, List.length_cons, List.length_nil, List.replicate, List.append_nil, List.nil_append, List.cons_append, List.getElem?_cons_zero, List.getElem?_cons_succ, List.set_cons_zero, List.set_cons_succ, Option.some.injEq, V.int.injEq, V.bl.injEq, V.ref.injEq, V.str.injEq, exists_eq_left', exists_eq_left, exists_and_left, true_and, and_true, Nat.reduceAdd, Nat.reduceSub, Nat.add_one_sub_one, Nat.sub_self, Bool.true_eq_false, Bool.false_eq_true, if_true, if_false, ite_true, ite_false, cxOf, Cx.nox, decide_eq_true_eq, reduceCtorEq, decide_false, decide_true, Bool.not_false, Bool.not_true, eq_self, upd_same, L2.upd_upd, List.cons.injEq, and_assoc, rInt1]
              refine ⟨.inr ⟨by decide, by decide⟩, .inl ⟨by decide, by decide⟩, by decide, ty_list hp1, ⟨by decide, by decide⟩, by decide, push_ints np e1 hp1 hm (by omega) fun H'' e2 hp2 hm2 => ⟨_, _, _, _, rfl, e2, hp2, hm2⟩⟩
    · rintro σ' H' ⟨v4, v5, v6, v7, ds, rfl, e1, hp1, hm⟩
      simp only [tVar, tC, tOp, tUn, tTest, tChain, tNil, tCons, tTup, tLst, tCall, tMake, tCB, tIf, tAndV, tOrV, tNotV, tIsN, tNotN, tB, tAnd, tOr, tNot, tNext, tSeq, tDrop, tRet, tRetN, tIfS, tNever, gName, gNil, gCons, gSub, tAsg, tAug, tAugS, ipI, tBM, tBM0, tSl, tNoPart, tPart, tDGet, tDIn, tDNotIn, tDGet1, sDPut, tMth, tDNewT, tDNewK, tYes, rI0, rI, rU, rAdd, rSub, rEq, rNe, L2.start, List.map_cons, List.map_nil, List.length_cons, List.length_nil, List.replicate, List.append_nil, List.nil_append, List.cons_append, List.getElem?_cons_zero, List.getElem?_cons_succ, List.set_cons_zero, List.set_cons_succ, Option.some.injEq, V.int.injEq, V.bl.injEq, V.ref.injEq, V.str.injEq, exists_eq_left', exists_eq_left, exists_and_left, true_and, and_true, Nat.reduceAdd, Nat.reduceSub, Nat.add_one_sub_one, Nat.sub_self, Bool.true_eq_false, Bool.false_eq_true, if_true, if_false, ite_true, ite_false, cxOf, Cx.nox, decide_eq_true_eq, reduceCtorEq, decide_false, decide_true, Bool.not_false, Bool.not_true, eq_self, upd_same, L2.upd_upd, List.cons.injEq, and_assoc]
      exact q H' p ds e1 hp1
end
end TW

set_option maxHeartbeats 8000000
/-! TwU: _law_draw, _law_same. -/
namespace TW
open PySem PySem.Spec PyProof.Rows L2
open TC hiding Step Env
section
variable {P : Program} {w : World} {K : PySem.W.Frag} {mg : Str → Option Value} {base : Heap}
abbrev sDraw : Stmt := tx 30
/-- the box: the digits, the place -/
def Box (H : Hp) (b dl : Addr) (ds : List Int) (at' : Nat) : Prop := H b = some (.lst [.ref dl, .int (at' : Nat)]) ∧ H dl = some (.lst (ds.map V.int)) ∧ b ≠ dl
def spDraw : Sp := fun vs H Q _ => ∃ (b dl : Addr) (ds : List Int) (at' m : Nat), vs = [.ref b, .int (m : Nat)] ∧ 0 < m ∧ Box H b dl ds at' ∧ ∀ (r : Nat), r < m → Box (upd H b (.lst [.ref dl, .int ((at' + 1 : Nat) : Int)])) b dl ds (at' + 1) → Q (.int (r : Nat)) (upd H b (.lst [.ref dl, .int ((at' + 1 : Nat) : Int)]))
theorem scDraw : FnScope ["_law_box", "_law_many", "_law_at"] ["_law_box", "_law_many"] (defScope sDraw) := ⟨rfl, rfl, rfl, by decide +kernel, rfl, by decide +kernel, by decide +kernel⟩
theorem ok_draw {f : Addr} {fd : FuncData} (F : Fun K "_law_draw" "_law_draw" sDraw f fd) (B : Bt mg) : FnOk P w K mg base CX0 1 f fd ["_law_box", "_law_many"] spDraw := by
  refine F.ok scDraw (fun vs H Q E h => ?_) (fun cdv A outer s H vs Q E hr h => ?_)
  · obtain ⟨b, dl, ds, at', m, rfl, _⟩ := h
    rfl
  · obtain ⟨b, dl, ds, at', m, rfl, hm, ⟨hb, hd, hne⟩, q⟩ := h
    refine ⟨_, pss_cons (ps_set (i := 2) scDraw.nd rfl (Or.inl rfl) (pe_ix ix_list (pv 0) pe_int (fun _ _ => rfl)))
      (pss_cons (ps_asg (pe_op op_add (pv 2) pe_int) (pg_sub (pv 0) pe_int set_list (fun _ => rfl)))
      (pss_cons (ps_if (pt_cmpR op_lt (pv 2) (pe_callB call_len (by rfl) B.len PySem.boot_len (pa_cons (pe_ix ix_list (pv 0) pe_int (fun _ _ => rfl)) pa_nil)) (nomark _))
        (pss_one (ps_ret (pe_op op_mod (pe_callTy cr_int1 (by rfl) B.int PyProof.Rows.boot_int (pa_cons (pe_ix ix_list (pe_ix ix_list (pv 0) pe_int (fun _ _ => rfl)) (pv 2) (fun _ _ => rfl)) pa_nil)) (pv 1)))) pss_nil)
      (pss_one (ps_ret pe_int)))), ?_⟩
    simp only [tVar, tC, tOp, tUn, tTest, tChain, tNil, tCons, tTup, tLst, tCall, tMake, tCB, tIf, tAndV, tOrV, tNotV, tIsN, tNotN, tB, tAnd, tOr, tNot, tNext, tSeq, tDrop, tRet, tRetN, tIfS, tNever, gName, gNil, gCons, gSub, tAsg, tAug, tAugS, ipI, tBM, tBM0, tSl, tNoPart, tPart, tDGet, tDIn, tDNotIn, tDGet1, sDPut, tMth, tDNewT, tDNewK, tYes, rI0, rI, rU, rAdd, rSub, rEq, rNe, L2.start, List.map_cons, List.map_nil, List.length_cons, List.length_nil, List.replicate, List.append_nil, List.nil_append, List.cons_append, List.getElem?_cons_zero, List.getElem?_cons_succ, List.set_cons_zero, List.set_cons_succ, Option.some.injEq, V.int.injEq, V.bl.injEq, V.ref.injEq, V.str.injEq, exists_eq_left', exists_eq_left, exists_and_left, true_and, and_true, Nat.reduceAdd, Nat.reduceSub, Nat.add_one_sub_one, Nat.sub_self, Bool.true_eq_false, Bool.false_eq_true, if_true, if_false, ite_true, ite_false, cxOf, Cx.nox, decide_eq_true_eq, reduceCtorEq, decide_false, decide_true, Bool.not_false, Bool.not_true, eq_self, upd_same, L2.upd_upd, List.cons.injEq, and_assoc, rInt1]
    refine ls_ix 1 hb rfl ?_
    have hbox : Box (upd H b (.lst [.ref dl, .int ((at' + 1 : Nat) : Int)])) b dl ds (at' + 1) := ⟨upd_same, by rw [upd_ne hne.symm]; exact hd, hne⟩
    have hat : ((at' : Nat) : Int) + 1 = ((at' + 1 : Nat) : Int) := by omega
    refine ⟨_, rfl, b, [.ref dl, .int (at' : Nat)], 1, 1, rfl, rfl, hb, (by decide : ixN 2 1 = some 1), ?_⟩
    have hset : ([V.ref dl, V.int (at' : Nat)] : List V).set 1 (.int ((at' : Nat) + 1)) = [.ref dl, .int ((at' + 1 : Nat) : Int)] := by rw [hat]; rfl
    rw [hset]
    have q := fun r hr => q r hr hbox
    obtain ⟨hb2, hd2, _⟩ := hbox
    generalize upd H b (.lst [.ref dl, .int ((at' + 1 : Nat) : Int)]) = H2 at *
    refine ls_ix 0 hb2 rfl (ls_len hd2 ⟨_, rfl, _, rfl, ?_⟩)
    by_cases h : ((at' : Nat) : Int) < (((ds.map V.int).length : Nat) : Int)
    · rw [if_pos h]
      have hk : at' < ds.length := by rw [List.length_map] at h; omega
      obtain ⟨i, hi⟩ := eq_at hk
      refine ls_ix 0 hb2 rfl (ls_ix at' hd2 (v := .int i) (by rw [List.getElem?_map, hi]; rfl) ⟨i, rfl, by omega, ?_⟩)
      have h1 : 0 ≤ i % (m : Int) := Int.emod_nonneg _ (by omega)
      have h2 : i % (m : Int) < m := Int.emod_lt_of_pos _ (by omega)
      obtain ⟨r, hr⟩ := Int.eq_ofNat_of_zero_le h1
      rw [hr]
      exact q r (by omega)
    · rw [if_neg h]
      exact q 0 hm
end
end TW

set_option maxHeartbeats 8000000
/-! TwV: _law_same. -/
namespace TW
open PySem PySem.Spec PyProof.Rows L2
open TC hiding Step Env
/-- alike data, at most n tuples deep -/
def Sm (K : PySem.W.Frag) (H : Hp) : Nat → V → V → Prop
  | 0, x, y => (∃ i, x = .int i ∧ y = .int i) ∨ ∃ s, x = .str s ∧ y = .str s
  | n + 1, x, y => ∃ a b xs ys, x = .ref a ∧ y = .ref b ∧ (H a = some (.tup xs) ∨ ∃ o, H a = some (.frz o (.tup xs))) ∧ (H b = some (.tup ys) ∨ ∃ o, H b = some (.frz o (.tup ys))) ∧ xs.length = ys.length ∧ ys.length ≤ 1000 ∧ ∀ (i : Nat) u v, xs[i]? = some u → ys[i]? = some v → Sm K H n u v
theorem Sm.kp {K : PySem.W.Frag} {H H' : Hp} (e : Kp H H') : ∀ {n : Nat} {x y : V}, Sm K H n x y → Sm K H' n x y
  | 0, _, _, h => h
  | n + 1, _, _, ⟨a, b, xs, ys, h1, h2, h3, h4, h5, h6, h7⟩ => ⟨a, b, xs, ys, h1, h2, h3.imp (fun z => e.1 _ _ z trivial) (fun ⟨o, z⟩ => ⟨o, e.1 _ _ z trivial⟩), h4.imp (fun z => e.1 _ _ z trivial) (fun ⟨o, z⟩ => ⟨o, e.1 _ _ z trivial⟩), h5, h6, fun i u v q1 q2 => (h7 i u v q1 q2).kp e⟩
theorem tup_ty {K : PySem.W.Frag} {H : Hp} {a : Addr} {xs : List V} (h : H a = some (.tup xs) ∨ ∃ o, H a = some (.frz o (.tup xs))) : TyX K H (.ref a) (.type "tuple") := by
  rcases h with h | ⟨o, h⟩
  · exact .base (.tup h)
  · exact .fTuple h
theorem tup_sq {K : PySem.W.Frag} {H : Hp} {a : Addr} {xs : List V} (h : H a = some (.tup xs) ∨ ∃ o, H a = some (.frz o (.tup xs))) : SqT K H a xs := by
  rcases h with h | ⟨o, h⟩
  · exact SqT.of h
  · exact .inl (.inr ⟨o, h⟩)
theorem sq_ix {K : PySem.W.Frag} {H : Hp} {a : Addr} {xs : List V} {j : Nat} {v : V} {Q : VK} (h : SqT K H a xs) (hj : xs[j]? = some v) (q : Q v H) : rIxT K (.ref a) (.int (j : Nat)) H Q := ⟨a, xs, _, v, rfl, rfl, h, atI_nat hj, q⟩
theorem isi_of {K : PySem.W.Frag} {H : Hp} {x : V} {a b : String} {r : Bool} {Q : VK} (ty : TyX K H x (.type a)) (e : kitB a b = some r) (q : Q (.bl r) H) : rIsi K [x, .ty b] H Q := ⟨x, .ty b, .type a, .type b, r, rfl, .ty b, ty, kit_ty e, q⟩
section
variable {P : Program} {w : World} {K : PySem.W.Frag} {mg : Str → Option Value} {base : Heap}
abbrev sSm : Stmt := tx 31
def spSm (K : PySem.W.Frag) (n : Nat) : Sp := fun vs H Q _ => ∃ x y, vs = [x, y] ∧ Sm K H n x y ∧ ∀ H', Ext H H' → Q (.bl true) H'
theorem scSm : FnScope ["_law_actual", "_law_expected", "_law_k"] ["_law_actual", "_law_expected"] (defScope sSm) := ⟨rfl, rfl, rfl, by decide +kernel, rfl, by decide +kernel, by decide +kernel⟩
theorem sm_step {f : Addr} {fd : FuncData} (F : Fun K "_law_same" "_law_same" sSm f fd) (B : Bt mg) {m n : Nat} {spp : Sp} (c1 : Cal P w K mg base m "_law_same" ["_law_actual", "_law_expected"] spp)
    (hsp : ∀ (H : Hp) (x y : V) (Q : VK) (E : XK), (∃ n', n = n' + 1 ∧ Sm K H n' x y) → (∀ H', Ext H H' → Q (.bl true) H') → spp [x, y] H Q E) : FnOk P w K mg base CX0 (m + 1) f fd ["_law_actual", "_law_expected"] (spSm K n) := by
  refine F.ok scSm (fun vs H Q E h => ?_) (fun cdv A outer s H vs Q E hr h => ?_)
  · obtain ⟨x, y, rfl, _⟩ := h
    rfl
  · obtain ⟨x, y, rfl, hs, q⟩ := h
    refine ⟨_, pss_cons (ps_if (pt_val (pe_callB call_isi (by rfl) B.isinstance PyProof.Rows.boot_isinstance (pa_cons (pv 1) (pa_cons (pe_bltn (v := .ty "tuple") (by rfl) B.tuple PyProof.Rows.boot_tuple rfl) pa_nil))))
        (pss_cons (ps_if (PW.pt (pw_or (pt_not (pt_val (pe_callB call_isi (by rfl) B.isinstance PyProof.Rows.boot_isinstance (pa_cons (pv 0) (pa_cons (pe_bltn (v := .ty "tuple") (by rfl) B.tuple PyProof.Rows.boot_tuple rfl) pa_nil))))) (pw_or1 (pt_cmpR op_ne (pe_callB call_len (by rfl) B.len PySem.boot_len (pa_cons (pv 0) pa_nil)) (pe_callB call_len (by rfl) B.len PySem.boot_len (pa_cons (pv 1) pa_nil)) (nomark _))))) (pss_one (ps_ret pe_bl)) pss_nil)
        (pss_cons (ps_for PassesOwn.never rfl (pi_range1 (by rfl) B.range (pa_cons (pe_callB call_len (by rfl) B.len PySem.boot_len (pa_cons (pv 1) pa_nil)) pa_nil)) (pg_name (i := 2) scSm.nd rfl (.inl rfl))
          (pss_one (ps_if (pt_not (pt_val (pe_cal c1 hr rfl (pa_cons (pe_ix ix_tup (pv 0) (pv 2) (fun _ _ => rfl)) (pa_cons (pe_ix ix_tup (pv 1) (pv 2) (fun _ _ => rfl)) pa_nil))))) (pss_one (ps_ret pe_bl)) pss_nil)))
        (pss_one (ps_ret pe_bl)))) pss_nil)
      (pss_cons (ps_if (pt_cmpR op_isN (pv 1) pe_non (nomark _)) (pss_one (ps_ret (pe_cmpR op_isN (pv 0) pe_non (nomark _)))) pss_nil)
      (pss_cons (ps_if (pt_val (pe_callB call_isi (by rfl) B.isinstance PyProof.Rows.boot_isinstance (pa_cons (pv 1) (pa_cons (pe_bltn (v := .ty "bool") (by rfl) B.bool PyProof.Rows.boot_bool rfl) pa_nil))))
        (pss_one (ps_ret (pe_and (pe_callB call_isi (by rfl) B.isinstance PyProof.Rows.boot_isinstance (pa_cons (pv 0) (pa_cons (pe_bltn (v := .ty "bool") (by rfl) B.bool PyProof.Rows.boot_bool rfl) pa_nil))) (pe_one (pe_cmpR op_eq (pv 0) (pv 1) (nomark _)))))) pss_nil)
      (pss_cons (ps_if (pt_val (pe_callB call_isi (by rfl) B.isinstance PyProof.Rows.boot_isinstance (pa_cons (pv 1) (pa_cons (pe_bltn (v := .ty "int") (by rfl) B.int PyProof.Rows.boot_int rfl) pa_nil))))
        (pss_one (ps_ret (pe_and (pe_callB call_isi (by rfl) B.isinstance PyProof.Rows.boot_isinstance (pa_cons (pv 0) (pa_cons (pe_bltn (v := .ty "int") (by rfl) B.int PyProof.Rows.boot_int rfl) pa_nil))) (pe_and (pe_not (pe_callB call_isi (by rfl) B.isinstance PyProof.Rows.boot_isinstance (pa_cons (pv 0) (pa_cons (pe_bltn (v := .ty "bool") (by rfl) B.bool PyProof.Rows.boot_bool rfl) pa_nil)))) (pe_one (pe_cmpR op_eq (pv 0) (pv 1) (nomark _))))))) pss_nil)
      (pss_one (ps_ret (pe_and (pe_callB call_isi (by rfl) B.isinstance PyProof.Rows.boot_isinstance (pa_cons (pv 0) (pa_cons (pe_bltn (v := .ty "str") (by rfl) B.str PyProof.Rows.boot_str rfl) pa_nil))) (pe_one (pe_cmpR op_eq (pv 0) (pv 1) (nomark _))))))))), ?_⟩
    simp only [tVar, tC, tOp, tUn, tTest, tChain, tNil, tCons, tTup, tLst, tCall, tMake, tCB, tIf, tAndV, tOrV, tNotV, tIsN, tNotN, tB, tAnd, tOr, tNot, tNext, tSeq, tDrop, tRet, tRetN, tIfS, tNever, gName, gNil, gCons, gSub, tAsg, tAug, tAugS, ipI, tBM, tBM0, tSl, tNoPart, tPart, tDGet, tDIn, tDNotIn, tDGet1, sDPut, tMth, tDNewT, tDNewK, tYes, rI0, rI, rU, rAdd, rSub, rEq, rNe, L2.start, List.map_cons, List.map_nil, List.length_cons, List.length_nil, List.replicate, List.append_nil, List.nil_append, List.cons_append, List.getElem?_cons_zero, List.getElem?_cons_succ, List.set_cons_zero, List.set_cons_succ, Option.some.injEq, V.int.injEq, V.bl.injEq, V.ref.injEq, V.str.injEq, exists_eq_left', exists_eq_left, exists_and_left, true_and, and_true, Nat.reduceAdd, Nat.reduceSub, Nat.add_one_sub_one, Nat.sub_self, Bool.true_eq_false, Bool.false_eq_true, if_true, if_false, ite_true, ite_false, cxOf, Cx.nox, decide_eq_true_eq, reduceCtorEq, decide_false, decide_true, Bool.not_false, Bool.not_true, eq_self, upd_same, L2.upd_upd, List.cons.injEq, and_assoc]
    have leaf : ∀ (T : String) (z : V), TyX K H z (.type T) → T ≠ "tuple" → kitB T "tuple" = some false → (∀ R : VK, R (.bl false) H → rIsi K [z, .ty "tuple"] H R) := fun T z ty _ hk R r => isi_of ty hk r
    cases n with
    | zero =>
      rcases hs with ⟨i, rfl, rfl⟩ | ⟨sx, rfl, rfl⟩
      · have ty : TyX K H (.int i) (.type "int") := .base (.int i)
        refine isi_of (r := false) ty (by decide +kernel) ⟨_, rfl, ?_⟩
        simp only [tVar, tC, tOp, tUn, tTest, tChain, tNil, tCons, tTup, tLst, tCall, tMake, tCB, tIf, tAndV, tOrV, tNotV, tIsN, tNotN, tB, tAnd, tOr, tNot, tNext, tSeq, tDrop, tRet, tRetN, tIfS, tNever, gName, gNil, gCons, gSub, tAsg, tAug, tAugS, ipI, tBM, tBM0, tSl, tNoPart, tPart, tDGet, tDIn, tDNotIn, tDGet1, sDPut, tMth, tDNewT, tDNewK, tYes, rI0, rI, rU, rAdd, rSub, rEq, rNe, L2.start, List.map_cons, List.map_nil, List.length_cons, List.length_nil, List.replicate, List.append_nil, List.nil_append, List.cons_append, List.getElem?_cons_zero, List.getElem?_cons_succ, List.set_cons_zero, List.set_cons_succ, Option.some.injEq, V.int.injEq, V.bl.injEq, V.ref.injEq, V.str.injEq, exists_eq_left', exists_eq_left, exists_and_left, true_and, and_true, Nat.reduceAdd, Nat.reduceSub, Nat.add_one_sub_one, Nat.sub_self, Bool.true_eq_false, Bool.false_eq_true, if_true, if_false, ite_true, ite_false, cxOf, Cx.nox, decide_eq_true_eq, reduceCtorEq, decide_false, decide_true, Bool.not_false, Bool.not_true, eq_self, upd_same, L2.upd_upd, List.cons.injEq, and_assoc]
        refine isi_of (r := false) ty (by decide +kernel) ⟨_, rfl, ?_⟩
        simp only [tVar, tC, tOp, tUn, tTest, tChain, tNil, tCons, tTup, tLst, tCall, tMake, tCB, tIf, tAndV, tOrV, tNotV, tIsN, tNotN, tB, tAnd, tOr, tNot, tNext, tSeq, tDrop, tRet, tRetN, tIfS, tNever, gName, gNil, gCons, gSub, tAsg, tAug, tAugS, ipI, tBM, tBM0, tSl, tNoPart, tPart, tDGet, tDIn, tDNotIn, tDGet1, sDPut, tMth, tDNewT, tDNewK, tYes, rI0, rI, rU, rAdd, rSub, rEq, rNe, L2.start, List.map_cons, List.map_nil, List.length_cons, List.length_nil, List.replicate, List.append_nil, List.nil_append, List.cons_append, List.getElem?_cons_zero, List.getElem?_cons_succ, List.set_cons_zero, List.set_cons_succ, Option.some.injEq, V.int.injEq, V.bl.injEq, V.ref.injEq, V.str.injEq, exists_eq_left', exists_eq_left, exists_and_left, true_and, and_true, Nat.reduceAdd, Nat.reduceSub, Nat.add_one_sub_one, Nat.sub_self, Bool.true_eq_false, Bool.false_eq_true, if_true, if_false, ite_true, ite_false, cxOf, Cx.nox, decide_eq_true_eq, reduceCtorEq, decide_false, decide_true, Bool.not_false, Bool.not_true, eq_self, upd_same, L2.upd_upd, List.cons.injEq, and_assoc]
        refine isi_of (r := true) ty (by decide +kernel) ⟨_, rfl, ?_⟩
        simp only [tVar, tC, tOp, tUn, tTest, tChain, tNil, tCons, tTup, tLst, tCall, tMake, tCB, tIf, tAndV, tOrV, tNotV, tIsN, tNotN, tB, tAnd, tOr, tNot, tNext, tSeq, tDrop, tRet, tRetN, tIfS, tNever, gName, gNil, gCons, gSub, tAsg, tAug, tAugS, ipI, tBM, tBM0, tSl, tNoPart, tPart, tDGet, tDIn, tDNotIn, tDGet1, sDPut, tMth, tDNewT, tDNewK, tYes, rI0, rI, rU, rAdd, rSub, rEq, rNe, L2.start, List.map_cons, List.map_nil, List.length_cons, List.length_nil, List.replicate, List.append_nil, List.nil_append, List.cons_append, List.getElem?_cons_zero, List.getElem?_cons_succ, List.set_cons_zero, List.set_cons_succ, Option.some.injEq, V.int.injEq, V.bl.injEq, V.ref.injEq, V.str.injEq, exists_eq_left', exists_eq_left, exists_and_left, true_and, and_true, Nat.reduceAdd, Nat.reduceSub, Nat.add_one_sub_one, Nat.sub_self, Bool.true_eq_false, Bool.false_eq_true, if_true, if_false, ite_true, ite_false, cxOf, Cx.nox, decide_eq_true_eq, reduceCtorEq, decide_false, decide_true, Bool.not_false, Bool.not_true, eq_self, upd_same, L2.upd_upd, List.cons.injEq, and_assoc]
        refine isi_of (r := true) ty (by decide +kernel) ⟨_, rfl, ?_⟩
        simp only [tVar, tC, tOp, tUn, tTest, tChain, tNil, tCons, tTup, tLst, tCall, tMake, tCB, tIf, tAndV, tOrV, tNotV, tIsN, tNotN, tB, tAnd, tOr, tNot, tNext, tSeq, tDrop, tRet, tRetN, tIfS, tNever, gName, gNil, gCons, gSub, tAsg, tAug, tAugS, ipI, tBM, tBM0, tSl, tNoPart, tPart, tDGet, tDIn, tDNotIn, tDGet1, sDPut, tMth, tDNewT, tDNewK, tYes, rI0, rI, rU, rAdd, rSub, rEq, rNe, L2.start, List.map_cons, List.map_nil, List.length_cons, List.length_nil, List.replicate, List.append_nil, List.nil_append, List.cons_append, List.getElem?_cons_zero, List.getElem?_cons_succ, List.set_cons_zero, List.set_cons_succ, Option.some.injEq, V.int.injEq, V.bl.injEq, V.ref.injEq, V.str.injEq, exists_eq_left', exists_eq_left, exists_and_left, true_and, and_true, Nat.reduceAdd, Nat.reduceSub, Nat.add_one_sub_one, Nat.sub_self, Bool.true_eq_false, Bool.false_eq_true, if_true, if_false, ite_true, ite_false, cxOf, Cx.nox, decide_eq_true_eq, reduceCtorEq, decide_false, decide_true, Bool.not_false, Bool.not_true, eq_self, upd_same, L2.upd_upd, List.cons.injEq, and_assoc]
        refine isi_of (r := false) ty (by decide +kernel) ⟨_, rfl, ?_⟩
        simp only [tVar, tC, tOp, tUn, tTest, tChain, tNil, tCons, tTup, tLst, tCall, tMake, tCB, tIf, tAndV, tOrV, tNotV, tIsN, tNotN, tB, tAnd, tOr, tNot, tNext, tSeq, tDrop, tRet, tRetN, tIfS, tNever, gName, gNil, gCons, gSub, tAsg, tAug, tAugS, ipI, tBM, tBM0, tSl, tNoPart, tPart, tDGet, tDIn, tDNotIn, tDGet1, sDPut, tMth, tDNewT, tDNewK, tYes, rI0, rI, rU, rAdd, rSub, rEq, rNe, L2.start, List.map_cons, List.map_nil, List.length_cons, List.length_nil, List.replicate, List.append_nil, List.nil_append, List.cons_append, List.getElem?_cons_zero, List.getElem?_cons_succ, List.set_cons_zero, List.set_cons_succ, Option.some.injEq, V.int.injEq, V.bl.injEq, V.ref.injEq, V.str.injEq, exists_eq_left', exists_eq_left, exists_and_left, true_and, and_true, Nat.reduceAdd, Nat.reduceSub, Nat.add_one_sub_one, Nat.sub_self, Bool.true_eq_false, Bool.false_eq_true, if_true, if_false, ite_true, ite_false, cxOf, Cx.nox, decide_eq_true_eq, reduceCtorEq, decide_false, decide_true, Bool.not_false, Bool.not_true, eq_self, upd_same, L2.upd_upd, List.cons.injEq, and_assoc]
        exact ⟨rfl, q H (Ext.refl H)⟩
      · have ty : TyX K H (.str sx) (.type "str") := .base (.str sx)
        refine isi_of (r := false) ty (by decide +kernel) ⟨_, rfl, ?_⟩
        simp only [tVar, tC, tOp, tUn, tTest, tChain, tNil, tCons, tTup, tLst, tCall, tMake, tCB, tIf, tAndV, tOrV, tNotV, tIsN, tNotN, tB, tAnd, tOr, tNot, tNext, tSeq, tDrop, tRet, tRetN, tIfS, tNever, gName, gNil, gCons, gSub, tAsg, tAug, tAugS, ipI, tBM, tBM0, tSl, tNoPart, tPart, tDGet, tDIn, tDNotIn, tDGet1, sDPut, tMth, tDNewT, tDNewK, tYes, rI0, rI, rU, rAdd, rSub, rEq, rNe, L2.start, List.map_cons, List.map_nil, List.length_cons, List.length_nil, List.replicate, List.append_nil, List.nil_append, List.cons_append, List.getElem?_cons_zero, List.getElem?_cons_succ, List.set_cons_zero, List.set_cons_succ, Option.some.injEq, V.int.injEq, V.bl.injEq, V.ref.injEq, V.str.injEq, exists_eq_left', exists_eq_left, exists_and_left, true_and, and_true, Nat.reduceAdd, Nat.reduceSub, Nat.add_one_sub_one, Nat.sub_self, Bool.true_eq_false, Bool.false_eq_true, if_true, if_false, ite_true, ite_false, cxOf, Cx.nox, decide_eq_true_eq, reduceCtorEq, decide_false, decide_true, Bool.not_false, Bool.not_true, eq_self, upd_same, L2.upd_upd, List.cons.injEq, and_assoc]
        refine isi_of (r := false) ty (by decide +kernel) ⟨_, rfl, ?_⟩
        simp only [tVar, tC, tOp, tUn, tTest, tChain, tNil, tCons, tTup, tLst, tCall, tMake, tCB, tIf, tAndV, tOrV, tNotV, tIsN, tNotN, tB, tAnd, tOr, tNot, tNext, tSeq, tDrop, tRet, tRetN, tIfS, tNever, gName, gNil, gCons, gSub, tAsg, tAug, tAugS, ipI, tBM, tBM0, tSl, tNoPart, tPart, tDGet, tDIn, tDNotIn, tDGet1, sDPut, tMth, tDNewT, tDNewK, tYes, rI0, rI, rU, rAdd, rSub, rEq, rNe, L2.start, List.map_cons, List.map_nil, List.length_cons, List.length_nil, List.replicate, List.append_nil, List.nil_append, List.cons_append, List.getElem?_cons_zero, List.getElem?_cons_succ, List.set_cons_zero, List.set_cons_succ, Option.some.injEq, V.int.injEq, V.bl.injEq, V.ref.injEq, V.str.injEq, exists_eq_left', exists_eq_left, exists_and_left, true_and, and_true, Nat.reduceAdd, Nat.reduceSub, Nat.add_one_sub_one, Nat.sub_self, Bool.true_eq_false, Bool.false_eq_true, if_true, if_false, ite_true, ite_false, cxOf, Cx.nox, decide_eq_true_eq, reduceCtorEq, decide_false, decide_true, Bool.not_false, Bool.not_true, eq_self, upd_same, L2.upd_upd, List.cons.injEq, and_assoc]
        refine isi_of (r := false) ty (by decide +kernel) ⟨_, rfl, ?_⟩
        simp only [tVar, tC, tOp, tUn, tTest, tChain, tNil, tCons, tTup, tLst, tCall, tMake, tCB, tIf, tAndV, tOrV, tNotV, tIsN, tNotN, tB, tAnd, tOr, tNot, tNext, tSeq, tDrop, tRet, tRetN, tIfS, tNever, gName, gNil, gCons, gSub, tAsg, tAug, tAugS, ipI, tBM, tBM0, tSl, tNoPart, tPart, tDGet, tDIn, tDNotIn, tDGet1, sDPut, tMth, tDNewT, tDNewK, tYes, rI0, rI, rU, rAdd, rSub, rEq, rNe, L2.start, List.map_cons, List.map_nil, List.length_cons, List.length_nil, List.replicate, List.append_nil, List.nil_append, List.cons_append, List.getElem?_cons_zero, List.getElem?_cons_succ, List.set_cons_zero, List.set_cons_succ, Option.some.injEq, V.int.injEq, V.bl.injEq, V.ref.injEq, V.str.injEq, exists_eq_left', exists_eq_left, exists_and_left, true_and, and_true, Nat.reduceAdd, Nat.reduceSub, Nat.add_one_sub_one, Nat.sub_self, Bool.true_eq_false, Bool.false_eq_true, if_true, if_false, ite_true, ite_false, cxOf, Cx.nox, decide_eq_true_eq, reduceCtorEq, decide_false, decide_true, Bool.not_false, Bool.not_true, eq_self, upd_same, L2.upd_upd, List.cons.injEq, and_assoc]
        refine isi_of (r := true) ty (by decide +kernel) ⟨_, rfl, ?_⟩
        simp only [tVar, tC, tOp, tUn, tTest, tChain, tNil, tCons, tTup, tLst, tCall, tMake, tCB, tIf, tAndV, tOrV, tNotV, tIsN, tNotN, tB, tAnd, tOr, tNot, tNext, tSeq, tDrop, tRet, tRetN, tIfS, tNever, gName, gNil, gCons, gSub, tAsg, tAug, tAugS, ipI, tBM, tBM0, tSl, tNoPart, tPart, tDGet, tDIn, tDNotIn, tDGet1, sDPut, tMth, tDNewT, tDNewK, tYes, rI0, rI, rU, rAdd, rSub, rEq, rNe, L2.start, List.map_cons, List.map_nil, List.length_cons, List.length_nil, List.replicate, List.append_nil, List.nil_append, List.cons_append, List.getElem?_cons_zero, List.getElem?_cons_succ, List.set_cons_zero, List.set_cons_succ, Option.some.injEq, V.int.injEq, V.bl.injEq, V.ref.injEq, V.str.injEq, exists_eq_left', exists_eq_left, exists_and_left, true_and, and_true, Nat.reduceAdd, Nat.reduceSub, Nat.add_one_sub_one, Nat.sub_self, Bool.true_eq_false, Bool.false_eq_true, if_true, if_false, ite_true, ite_false, cxOf, Cx.nox, decide_eq_true_eq, reduceCtorEq, decide_false, decide_true, Bool.not_false, Bool.not_true, eq_self, upd_same, L2.upd_upd, List.cons.injEq, and_assoc]
        exact ⟨rfl, q H (Ext.refl H)⟩
    | succ n =>
      obtain ⟨a, b, xs, ys, rfl, rfl, ha, hb, hl, hz, hall⟩ := hs
      refine isi_of (r := true) (tup_ty hb) (by decide +kernel) ⟨_, rfl, ?_⟩
      simp only [tVar, tC, tOp, tUn, tTest, tChain, tNil, tCons, tTup, tLst, tCall, tMake, tCB, tIf, tAndV, tOrV, tNotV, tIsN, tNotN, tB, tAnd, tOr, tNot, tNext, tSeq, tDrop, tRet, tRetN, tIfS, tNever, gName, gNil, gCons, gSub, tAsg, tAug, tAugS, ipI, tBM, tBM0, tSl, tNoPart, tPart, tDGet, tDIn, tDNotIn, tDGet1, sDPut, tMth, tDNewT, tDNewK, tYes, rI0, rI, rU, rAdd, rSub, rEq, rNe, L2.start, List.map_cons, List.map_nil, List.length_cons, List.length_nil, List.replicate, List.append_nil, List.nil_append, List.cons_append, List.getElem?_cons_zero, List.getElem?_cons_succ, List.set_cons_zero, List.set_cons_succ, Option.some.injEq, V.int.injEq, V.bl.injEq, V.ref.injEq, V.str.injEq, exists_eq_left', exists_eq_left, exists_and_left, true_and, and_true, Nat.reduceAdd, Nat.reduceSub, Nat.add_one_sub_one, Nat.sub_self, Bool.true_eq_false, Bool.false_eq_true, if_true, if_false, ite_true, ite_false, cxOf, Cx.nox, decide_eq_true_eq, reduceCtorEq, decide_false, decide_true, Bool.not_false, Bool.not_true, eq_self, upd_same, L2.upd_upd, List.cons.injEq, and_assoc]
      refine isi_of (r := true) (tup_ty ha) (by decide +kernel) ⟨_, rfl, ?_⟩
      simp only [tVar, tC, tOp, tUn, tTest, tChain, tNil, tCons, tTup, tLst, tCall, tMake, tCB, tIf, tAndV, tOrV, tNotV, tIsN, tNotN, tB, tAnd, tOr, tNot, tNext, tSeq, tDrop, tRet, tRetN, tIfS, tNever, gName, gNil, gCons, gSub, tAsg, tAug, tAugS, ipI, tBM, tBM0, tSl, tNoPart, tPart, tDGet, tDIn, tDNotIn, tDGet1, sDPut, tMth, tDNewT, tDNewK, tYes, rI0, rI, rU, rAdd, rSub, rEq, rNe, L2.start, List.map_cons, List.map_nil, List.length_cons, List.length_nil, List.replicate, List.append_nil, List.nil_append, List.cons_append, List.getElem?_cons_zero, List.getElem?_cons_succ, List.set_cons_zero, List.set_cons_succ, Option.some.injEq, V.int.injEq, V.bl.injEq, V.ref.injEq, V.str.injEq, exists_eq_left', exists_eq_left, exists_and_left, true_and, and_true, Nat.reduceAdd, Nat.reduceSub, Nat.add_one_sub_one, Nat.sub_self, Bool.true_eq_false, Bool.false_eq_true, if_true, if_false, ite_true, ite_false, cxOf, Cx.nox, decide_eq_true_eq, reduceCtorEq, decide_false, decide_true, Bool.not_false, Bool.not_true, eq_self, upd_same, L2.upd_upd, List.cons.injEq, and_assoc]
      have lenR : ∀ {H' : Hp} {a : Addr} {xs : List V} {R : VK}, (H' a = some (.tup xs) ∨ ∃ o, H' a = some (.frz o (.tup xs))) → R (.int (xs.length : Nat)) H' → rLen K [.ref a] H' R := fun {H' a xs R} h r => ⟨a, xs, rfl, .inr (tup_sq h), r⟩
      refine lenR ha (lenR hb ⟨rfl, ?_⟩)
      rw [hl]
      simp only [tVar, tC, tOp, tUn, tTest, tChain, tNil, tCons, tTup, tLst, tCall, tMake, tCB, tIf, tAndV, tOrV, tNotV, tIsN, tNotN, tB, tAnd, tOr, tNot, tNext, tSeq, tDrop, tRet, tRetN, tIfS, tNever, gName, gNil, gCons, gSub, tAsg, tAug, tAugS, ipI, tBM, tBM0, tSl, tNoPart, tPart, tDGet, tDIn, tDNotIn, tDGet1, sDPut, tMth, tDNewT, tDNewK, tYes, rI0, rI, rU, rAdd, rSub, rEq, rNe, L2.start, List.map_cons, List.map_nil, List.length_cons, List.length_nil, List.replicate, List.append_nil, List.nil_append, List.cons_append, List.getElem?_cons_zero, List.getElem?_cons_succ, List.set_cons_zero, List.set_cons_succ, Option.some.injEq, V.int.injEq, V.bl.injEq, V.ref.injEq, V.str.injEq, exists_eq_left', exists_eq_left, exists_and_left, true_and, and_true, Nat.reduceAdd, Nat.reduceSub, Nat.add_one_sub_one, Nat.sub_self, Bool.true_eq_false, Bool.false_eq_true, if_true, if_false, ite_true, ite_false, cxOf, Cx.nox, decide_eq_true_eq, reduceCtorEq, decide_false, decide_true, Bool.not_false, Bool.not_true, eq_self, upd_same, L2.upd_upd, List.cons.injEq, and_assoc]
      refine for_rngT (n := ys.length) (fun R h => ?_) hz (fun i σ' H' => ∃ v2, σ' = [some (.ref a), some (.ref b), v2] ∧ Ext H H') ⟨none, rfl, Ext.refl H⟩ ?_ ?_
      · simp only [tVar, tC, tOp, tUn, tTest, tChain, tNil, tCons, tTup, tLst, tCall, tMake, tCB, tIf, tAndV, tOrV, tNotV, tIsN, tNotN, tB, tAnd, tOr, tNot, tNext, tSeq, tDrop, tRet, tRetN, tIfS, tNever, gName, gNil, gCons, gSub, tAsg, tAug, tAugS, ipI, tBM, tBM0, tSl, tNoPart, tPart, tDGet, tDIn, tDNotIn, tDGet1, sDPut, tMth, tDNewT, tDNewK, tYes, rI0, rI, rU, rAdd, rSub, rEq, rNe, L2.start, List.map_cons, List.map_nil, List.length_cons, List.length_nil, List.replicate, List.append_nil, List.nil_append, List.cons_append, List.getElem?_cons_zero, List.getElem?_cons_succ, List.set_cons_zero, List.set_cons_succ, Option.some.injEq, V.int.injEq, V.bl.injEq, V.ref.injEq, V.str.injEq, exists_eq_left', exists_eq_left, exists_and_left, true_and, and_true, Nat.reduceAdd, Nat.reduceSub, Nat.add_one_sub_one, Nat.sub_self, Bool.true_eq_false, Bool.false_eq_true, if_true, if_false, ite_true, ite_false, cxOf, Cx.nox, decide_eq_true_eq, reduceCtorEq, decide_false, decide_true, Bool.not_false, Bool.not_true, eq_self, upd_same, L2.upd_upd, List.cons.injEq, and_assoc]
        exact lenR hb h
      · rintro i σ' H' hi ⟨v2, rfl, e⟩
        simp only [tVar, tC, tOp, tUn, tTest, tChain, tNil, tCons, tTup, tLst, tCall, tMake, tCB, tIf, tAndV, tOrV, tNotV, tIsN, tNotN, tB, tAnd, tOr, tNot, tNext, tSeq, tDrop, tRet, tRetN, tIfS, tNever, gName, gNil, gCons, gSub, tAsg, tAug, tAugS, ipI, tBM, tBM0, tSl, tNoPart, tPart, tDGet, tDIn, tDNotIn, tDGet1, sDPut, tMth, tDNewT, tDNewK, tYes, rI0, rI, rU, rAdd, rSub, rEq, rNe, L2.start, List.map_cons, List.map_nil, List.length_cons, List.length_nil, List.replicate, List.append_nil, List.nil_append, List.cons_append, List.getElem?_cons_zero, List.getElem?_cons_succ, List.set_cons_zero, List.set_cons_succ, Option.some.injEq, V.int.injEq, V.bl.injEq, V.ref.injEq, V.str.injEq, exists_eq_left', exists_eq_left, exists_and_left, true_and, and_true, Nat.reduceAdd, Nat.reduceSub, Nat.add_one_sub_one, Nat.sub_self, Bool.true_eq_false, Bool.false_eq_true, if_true, if_false, ite_true, ite_false, cxOf, Cx.nox, decide_eq_true_eq, reduceCtorEq, decide_false, decide_true, Bool.not_false, Bool.not_true, eq_self, upd_same, L2.upd_upd, List.cons.injEq, and_assoc]
        have ha' : H' a = some (.tup xs) ∨ ∃ o, H' a = some (.frz o (.tup xs)) := ha.imp (fun z => e.1 _ _ z (by simp)) fun ⟨o, z⟩ => ⟨o, e.1 _ _ z (by simp)⟩
        have hb' : H' b = some (.tup ys) ∨ ∃ o, H' b = some (.frz o (.tup ys)) := hb.imp (fun z => e.1 _ _ z (by simp)) fun ⟨o, z⟩ => ⟨o, e.1 _ _ z (by simp)⟩
        obtain ⟨u, hu⟩ := eq_at (show i < xs.length by omega)
        obtain ⟨v, hv⟩ := eq_at hi
        refine sq_ix (tup_sq ha') hu (sq_ix (tup_sq hb') hv ?_)
        exact hsp H' u v _ _ ⟨n, rfl, (hall i u v hu hv).kp e.kp⟩ fun H2 e2 => ⟨true, rfl, e.trans e2⟩
      · rintro σ' H' ⟨v2, rfl, e⟩
        simp only [tVar, tC, tOp, tUn, tTest, tChain, tNil, tCons, tTup, tLst, tCall, tMake, tCB, tIf, tAndV, tOrV, tNotV, tIsN, tNotN, tB, tAnd, tOr, tNot, tNext, tSeq, tDrop, tRet, tRetN, tIfS, tNever, gName, gNil, gCons, gSub, tAsg, tAug, tAugS, ipI, tBM, tBM0, tSl, tNoPart, tPart, tDGet, tDIn, tDNotIn, tDGet1, sDPut, tMth, tDNewT, tDNewK, tYes, rI0, rI, rU, rAdd, rSub, rEq, rNe, L2.start, List.map_cons, List.map_nil, List.length_cons, List.length_nil, List.replicate, List.append_nil, List.nil_append, List.cons_append, List.getElem?_cons_zero, List.getElem?_cons_succ, List.set_cons_zero, List.set_cons_succ, Option.some.injEq, V.int.injEq, V.bl.injEq, V.ref.injEq, V.str.injEq, exists_eq_left', exists_eq_left, exists_and_left, true_and, and_true, Nat.reduceAdd, Nat.reduceSub, Nat.add_one_sub_one, Nat.sub_self, Bool.true_eq_false, Bool.false_eq_true, if_true, if_false, ite_true, ite_false, cxOf, Cx.nox, decide_eq_true_eq, reduceCtorEq, decide_false, decide_true, Bool.not_false, Bool.not_true, eq_self, upd_same, L2.upd_upd, List.cons.injEq, and_assoc]
        exact q H' e
theorem ok_sm {f : Addr} {fd : FuncData} (F : Fun K "_law_same" "_law_same" sSm f fd) (hmg : mg "_law_same" = some (.ref f)) (kp : PySem.W.keepIn K (.ref f) = true) (bd : Binds K fd ["_law_actual", "_law_expected"] []) (B : Bt mg) :
    ∀ n : Nat, FnOk P w K mg base CX0 (n + 2) f fd ["_law_actual", "_law_expected"] (spSm K n)
  | 0 => sm_step F B (m := 1) (spp := fun _ _ _ _ => False) ⟨f, fd, hmg, kp, bd, F.ok scSm (fun vs H Q E h => h.elim) fun cdv A outer s H vs Q E hr h => h.elim⟩ fun H x y Q E ⟨n', h, _⟩ => by omega
  | n + 1 => sm_step F B ⟨f, fd, hmg, kp, bd, ok_sm F hmg kp bd B n⟩ fun H x y Q E ⟨n', h, g⟩ q => by
    cases h
    exact ⟨x, y, rfl, g, q⟩
end
end TW

set_option maxHeartbeats 8000000
/-! TwW: _law_open_threads, _law_behind, _law_possible. -/
namespace TW
open PySem PySem.Spec PyProof.Rows L2
open TC hiding Step Env
/-- the step of a thread, as the program holds it -/
theorem row_at {H : Hp} {x : V} {e0 : TC.Env} {Th : Thr} (hp : Prog H x e0 Th) {t : Nat} {l : List TC.Step} (h : Th[t]? = some l) : ∃ v tt rows r ss, Tu H x [.str "program", v, tt] ∧ Tu H tt rows ∧ rows[t]? = some r ∧ Tu H r ss ∧ A2 (fun s st => Tu H s (stepV st)) ss l ∧ rows.length = Th.length := by
  obtain ⟨v, tt, ps, rows, g1, g2, g3, g4, g5⟩ := hp
  obtain ⟨r, hr, ss, q1, q2⟩ := g5.at h
  exact ⟨v, tt, rows, r, ss, g1, g4, hr, q1, q2, g5.1⟩
theorem nxt_row {Th : Thr} {d : List Nat} {t c : Nat} {l : List TC.Step} (h : Th[t]? = some l) (hc : d[t]? = some c) : nxt Th d t = l[c]? := by
  unfold nxt stp
  rw [List.getD_eq_getElem?_getD, List.getD_eq_getElem?_getD, h, hc]; rfl
section
variable {P : Program} {w : World} {K : PySem.W.Frag} {mg : Str → Option Value} {base : Heap}
abbrev sOpen : Stmt := tx 33
def spOpen : Sp := fun vs H Q _ => ∃ x cv vv e0 e Th d, vs = [x, .ref cv, vv] ∧ PW H x e0 Th ∧ H cv = some (.lst (nI d)) ∧ EnvD H vv e ∧ dom e = dom e0 ∧ d.length = Th.length ∧
  ∀ H' p, Ext H H' → H p = none → H' p = some (.lst (nI (possL Th e d))) → Q (.ref p) H'
theorem scOpen : FnScope ["_law_program_here", "_law_counts", "_law_values", "_law_found", "_law_t", "_law_step"] ["_law_program_here", "_law_counts", "_law_values"] (defScope sOpen) := ⟨rfl, rfl, rfl, by decide +kernel, rfl, by decide +kernel, by decide +kernel⟩
theorem ok_open {f : Addr} {fd : FuncData} (F : Fun K "_law_open_threads" "_law_open_threads" sOpen f fd) (B : Bt mg) : FnOk P w K mg base CX0 1 f fd ["_law_program_here", "_law_counts", "_law_values"] spOpen := by
  refine F.ok scOpen (fun vs H Q E h => ?_) (fun cdv A outer s H vs Q E hr h => ?_)
  · obtain ⟨x, cv, vv, e0, e, Th, d, rfl, _⟩ := h
    rfl
  · obtain ⟨x, cv, vv, e0, e, Th, d, rfl, hp, hcv, hvv, hdom, hdl, q⟩ := h
    refine ⟨_, pss_cons (ps_set (i := 3) scOpen.nd rfl (Or.inl rfl) (pe_lst pa_nil))
      (pss_cons (ps_for PassesOwn.never rfl (pi_range1 (by rfl) B.range (pa_cons (pe_callB call_len (by rfl) B.len PySem.boot_len (pa_cons (pe_ix ix_tup (pv 0) pe_int (fun _ _ => rfl)) pa_nil)) pa_nil)) (pg_name (i := 4) scOpen.nd rfl (.inl rfl))
        (pss_one (ps_if (pt_cmpR op_lt (pe_ix ix_list (pv 1) (pv 4) (fun _ _ => rfl)) (pe_callB call_len (by rfl) B.len PySem.boot_len (pa_cons (pe_ix ix_tup (pe_ix ix_tup (pv 0) pe_int (fun _ _ => rfl)) (pv 4) (fun _ _ => rfl)) pa_nil)) (nomark _))
          (pss_cons (ps_set (i := 5) scOpen.nd rfl (Or.inl rfl) (pe_ix ix_tup (pe_ix ix_tup (pe_ix ix_tup (pv 0) pe_int (fun _ _ => rfl)) (pv 4) (fun _ _ => rfl)) (pe_ix ix_list (pv 1) (pv 4) (fun _ _ => rfl)) (fun _ _ => rfl)))
          (pss_one (ps_if (PW.pt (pw_or (pt_cmpR op_ne (pe_ix ix_tup (pv 5) pe_int (fun _ _ => rfl)) pe_str (nomark _)) (pw_or1 (pt_cmpR op_ge (pe_dgetR (hu_of hr) (pv 2) (pe_ix ix_tup (pv 5) pe_int (fun _ _ => rfl))) (pe_ix ix_tup (pv 5) pe_int (fun _ _ => rfl)) (nomark _)))))
            (pss_one (ps_expr (pe_bm PySem.F.plainAttrs_list PySem.F.slot_list_append PySem.F.type_list_append mt_append (pv 3) (pa_cons (pv 4) pa_nil)))) pss_nil))) pss_nil)))
      (pss_one (ps_ret (pv 3)))), ?_⟩
    simp only [tVar, tC, tOp, tUn, tTest, tChain, tNil, tCons, tTup, tLst, tCall, tMake, tCB, tIf, tAndV, tOrV, tNotV, tIsN, tNotN, tB, tAnd, tOr, tNot, tNext, tSeq, tDrop, tRet, tRetN, tIfS, tNever, gName, gNil, gCons, gSub, tAsg, tAug, tAugS, ipI, tBM, tBM0, tSl, tNoPart, tPart, tDGet, tDIn, tDNotIn, tDGet1, sDPut, tMth, tDNewT, tDNewK, tYes, rI0, rI, rU, rAdd, rSub, rEq, rNe, L2.start, List.map_cons, List.map_nil, List.length_cons, List.length_nil, List.replicate, List.append_nil, List.nil_append, List.cons_append, List.getElem?_cons_zero, List.getElem?_cons_succ, List.set_cons_zero, List.set_cons_succ, Option.some.injEq, V.int.injEq, V.bl.injEq, V.ref.injEq, V.str.injEq, exists_eq_left', exists_eq_left, exists_and_left, true_and, and_true, Nat.reduceAdd, Nat.reduceSub, Nat.add_one_sub_one, Nat.sub_self, Bool.true_eq_false, Bool.false_eq_true, if_true, if_false, ite_true, ite_false, cxOf, Cx.nox, decide_eq_true_eq, reduceCtorEq, decide_false, decide_true, Bool.not_false, Bool.not_true, eq_self, upd_same, L2.upd_upd, List.cons.injEq, and_assoc]
    refine ⟨Nat.zero_le _, fun p np => ?_⟩
    have n3 := hp.n3
    have e1 : Ext H (upd H p (.lst [])) := Ext.new np
    obtain ⟨v0, tt0, ps0, rows0, g1, g2, g3, g4, g5⟩ := (hp.ext e1).prog
    have hrl := g5.1
    refine for_rngT (n := Th.length) (fun R h => ?_) (by omega) (fun i σ' H' => ∃ v4 v5, σ' = [some x, some (.ref cv), some vv, some (.ref p), v4, v5] ∧ Ext H H' ∧ H' p = some (.lst (nI ((List.range i).filter (poss Th e d)))))
      ⟨none, none, rfl, e1, upd_same⟩ ?_ ?_
    · simp only [tVar, tC, tOp, tUn, tTest, tChain, tNil, tCons, tTup, tLst, tCall, tMake, tCB, tIf, tAndV, tOrV, tNotV, tIsN, tNotN, tB, tAnd, tOr, tNot, tNext, tSeq, tDrop, tRet, tRetN, tIfS, tNever, gName, gNil, gCons, gSub, tAsg, tAug, tAugS, ipI, tBM, tBM0, tSl, tNoPart, tPart, tDGet, tDIn, tDNotIn, tDGet1, sDPut, tMth, tDNewT, tDNewK, tYes, rI0, rI, rU, rAdd, rSub, rEq, rNe, L2.start, List.map_cons, List.map_nil, List.length_cons, List.length_nil, List.replicate, List.append_nil, List.nil_append, List.cons_append, List.getElem?_cons_zero, List.getElem?_cons_succ, List.set_cons_zero, List.set_cons_succ, Option.some.injEq, V.int.injEq, V.bl.injEq, V.ref.injEq, V.str.injEq, exists_eq_left', exists_eq_left, exists_and_left, true_and, and_true, Nat.reduceAdd, Nat.reduceSub, Nat.add_one_sub_one, Nat.sub_self, Bool.true_eq_false, Bool.false_eq_true, if_true, if_false, ite_true, ite_false, cxOf, Cx.nox, decide_eq_true_eq, reduceCtorEq, decide_false, decide_true, Bool.not_false, Bool.not_true, eq_self, upd_same, L2.upd_upd, List.cons.injEq, and_assoc]
      refine tu_ix 2 g1 rfl (tu_len g4 ?_)
      rw [hrl]
      exact h
    · rintro i σ' H' hi ⟨v4, v5, rfl, e2, hp2⟩
      simp only [tVar, tC, tOp, tUn, tTest, tChain, tNil, tCons, tTup, tLst, tCall, tMake, tCB, tIf, tAndV, tOrV, tNotV, tIsN, tNotN, tB, tAnd, tOr, tNot, tNext, tSeq, tDrop, tRet, tRetN, tIfS, tNever, gName, gNil, gCons, gSub, tAsg, tAug, tAugS, ipI, tBM, tBM0, tSl, tNoPart, tPart, tDGet, tDIn, tDNotIn, tDGet1, sDPut, tMth, tDNewT, tDNewK, tYes, rI0, rI, rU, rAdd, rSub, rEq, rNe, L2.start, List.map_cons, List.map_nil, List.length_cons, List.length_nil, List.replicate, List.append_nil, List.nil_append, List.cons_append, List.getElem?_cons_zero, List.getElem?_cons_succ, List.set_cons_zero, List.set_cons_succ, Option.some.injEq, V.int.injEq, V.bl.injEq, V.ref.injEq, V.str.injEq, exists_eq_left', exists_eq_left, exists_and_left, true_and, and_true, Nat.reduceAdd, Nat.reduceSub, Nat.add_one_sub_one, Nat.sub_self, Bool.true_eq_false, Bool.false_eq_true, if_true, if_false, ite_true, ite_false, cxOf, Cx.nox, decide_eq_true_eq, reduceCtorEq, decide_false, decide_true, Bool.not_false, Bool.not_true, eq_self, upd_same, L2.upd_upd, List.cons.injEq, and_assoc]
      obtain ⟨l, hl⟩ := eq_at hi
      obtain ⟨c, hc⟩ := eq_at (show i < d.length by omega)
      have hpe := hp.ext e2
      obtain ⟨v, tt, rows, r, ss, q1, q2, q3, q4, q5, q6⟩ := row_at hpe.prog hl
      have hcv2 : H' cv = some (.lst (nI d)) := e2.1 _ _ hcv (by simp)
      have hnx : nxt Th d i = l[c]? := nxt_row hl hc
      have hfz : ((List.range i).filter (poss Th e d)).length ≤ i := by
        have := List.length_filter_le (poss Th e d) (List.range i)
        rw [List.length_range] at this
        exact this
      have stay : poss Th e d i = false → Ext H H' ∧ H' p = some (.lst (nI ((List.range (i + 1)).filter (poss Th e d)))) := fun hf => by
        refine ⟨e2, ?_⟩
        rw [List.range_succ, List.filter_append]
        simp [hf, hp2]
      have yes : poss Th e d i = true → tyV K "list" (.ref p) H' ∧ rAppend (.ref p) [V.int (i : Nat)] H' fun x H1 => Ext H H1 ∧ H1 p = some (.lst (nI ((List.range (i + 1)).filter (poss Th e d)))) := fun ht => by
        refine ⟨ty_list hp2, ap_list hp2 (by rw [nI_length]; omega) ⟨e2.upd np, ?_⟩⟩
        rw [upd_same, List.range_succ, List.filter_append, nI_append]
        simp [ht, nI]
      refine ls_ix i hcv2 (nI_at hc) (tu_ix 2 q1 rfl (tu_ix i q2 q3 (tu_len q4 ⟨_, rfl, _, rfl, ?_⟩)))
      have hsl : ss.length = l.length := q5.1
      by_cases hlt : c < l.length
      · rw [if_pos (show ((c : Nat) : Int) < ((ss.length : Nat) : Int) by omega)]
        obtain ⟨st, hst⟩ := eq_at hlt
        obtain ⟨sv, hsv, hT⟩ := q5.at hst
        rw [hst] at hnx
        have hcn := hp.wf.names hnx
        have hv2 := hvv.ext e2
        refine tu_ix 2 q1 rfl (tu_ix i q2 q3 (ls_ix i hcv2 (nI_at hc) (tu_ix c q4 hsv ?_)))
        unfold poss at stay yes
        rw [hnx] at stay yes
        cases st with
        | wait x0 n0 =>
          refine tu_ix 0 hT rfl ⟨rfl, ?_⟩
          simp only [tVar, tC, tOp, tUn, tTest, tChain, tNil, tCons, tTup, tLst, tCall, tMake, tCB, tIf, tAndV, tOrV, tNotV, tIsN, tNotN, tB, tAnd, tOr, tNot, tNext, tSeq, tDrop, tRet, tRetN, tIfS, tNever, gName, gNil, gCons, gSub, tAsg, tAug, tAugS, ipI, tBM, tBM0, tSl, tNoPart, tPart, tDGet, tDIn, tDNotIn, tDGet1, sDPut, tMth, tDNewT, tDNewK, tYes, rI0, rI, rU, rAdd, rSub, rEq, rNe, L2.start, List.map_cons, List.map_nil, List.length_cons, List.length_nil, List.replicate, List.append_nil, List.nil_append, List.cons_append, List.getElem?_cons_zero, List.getElem?_cons_succ, List.set_cons_zero, List.set_cons_succ, Option.some.injEq, V.int.injEq, V.bl.injEq, V.ref.injEq, V.str.injEq, exists_eq_left', exists_eq_left, exists_and_left, true_and, and_true, Nat.reduceAdd, Nat.reduceSub, Nat.add_one_sub_one, Nat.sub_self, Bool.true_eq_false, Bool.false_eq_true, if_true, if_false, ite_true, ite_false, cxOf, Cx.nox, decide_eq_true_eq, reduceCtorEq, decide_false, decide_true, Bool.not_false, Bool.not_true, eq_self, upd_same, L2.upd_upd, List.cons.injEq, and_assoc]
          refine tu_ix 1 hT rfl (dg_env hv2 (by rw [hdom]; exact hcn x0 (by simp [tch])) (tu_ix 2 hT rfl ⟨_, rfl, _, rfl, ?_⟩))
          by_cases hge : n0 ≤ eget e x0
          · rw [if_pos hge]
            exact yes (decide_eq_true hge)
          · rw [if_neg hge]
            exact stay (decide_eq_false hge)
        | add x0 n0 =>
          refine tu_ix 0 hT rfl ⟨rfl, ?_⟩
          simp only [tVar, tC, tOp, tUn, tTest, tChain, tNil, tCons, tTup, tLst, tCall, tMake, tCB, tIf, tAndV, tOrV, tNotV, tIsN, tNotN, tB, tAnd, tOr, tNot, tNext, tSeq, tDrop, tRet, tRetN, tIfS, tNever, gName, gNil, gCons, gSub, tAsg, tAug, tAugS, ipI, tBM, tBM0, tSl, tNoPart, tPart, tDGet, tDIn, tDNotIn, tDGet1, sDPut, tMth, tDNewT, tDNewK, tYes, rI0, rI, rU, rAdd, rSub, rEq, rNe, L2.start, List.map_cons, List.map_nil, List.length_cons, List.length_nil, List.replicate, List.append_nil, List.nil_append, List.cons_append, List.getElem?_cons_zero, List.getElem?_cons_succ, List.set_cons_zero, List.set_cons_succ, Option.some.injEq, V.int.injEq, V.bl.injEq, V.ref.injEq, V.str.injEq, exists_eq_left', exists_eq_left, exists_and_left, true_and, and_true, Nat.reduceAdd, Nat.reduceSub, Nat.add_one_sub_one, Nat.sub_self, Bool.true_eq_false, Bool.false_eq_true, if_true, if_false, ite_true, ite_false, cxOf, Cx.nox, decide_eq_true_eq, reduceCtorEq, decide_false, decide_true, Bool.not_false, Bool.not_true, eq_self, upd_same, L2.upd_upd, List.cons.injEq, and_assoc, s_add_copy, s_add_wait, s_copy_add, s_copy_wait, s_wait_add, s_wait_copy, s_look_add, s_look_copy, s_look_wait]
          exact yes rfl
        | copy x0 n0 =>
          refine tu_ix 0 hT rfl ⟨rfl, ?_⟩
          simp only [tVar, tC, tOp, tUn, tTest, tChain, tNil, tCons, tTup, tLst, tCall, tMake, tCB, tIf, tAndV, tOrV, tNotV, tIsN, tNotN, tB, tAnd, tOr, tNot, tNext, tSeq, tDrop, tRet, tRetN, tIfS, tNever, gName, gNil, gCons, gSub, tAsg, tAug, tAugS, ipI, tBM, tBM0, tSl, tNoPart, tPart, tDGet, tDIn, tDNotIn, tDGet1, sDPut, tMth, tDNewT, tDNewK, tYes, rI0, rI, rU, rAdd, rSub, rEq, rNe, L2.start, List.map_cons, List.map_nil, List.length_cons, List.length_nil, List.replicate, List.append_nil, List.nil_append, List.cons_append, List.getElem?_cons_zero, List.getElem?_cons_succ, List.set_cons_zero, List.set_cons_succ, Option.some.injEq, V.int.injEq, V.bl.injEq, V.ref.injEq, V.str.injEq, exists_eq_left', exists_eq_left, exists_and_left, true_and, and_true, Nat.reduceAdd, Nat.reduceSub, Nat.add_one_sub_one, Nat.sub_self, Bool.true_eq_false, Bool.false_eq_true, if_true, if_false, ite_true, ite_false, cxOf, Cx.nox, decide_eq_true_eq, reduceCtorEq, decide_false, decide_true, Bool.not_false, Bool.not_true, eq_self, upd_same, L2.upd_upd, List.cons.injEq, and_assoc, s_add_copy, s_add_wait, s_copy_add, s_copy_wait, s_wait_add, s_wait_copy, s_look_add, s_look_copy, s_look_wait]
          exact yes rfl
        | look x0 =>
          refine tu_ix 0 hT rfl ⟨rfl, ?_⟩
          simp only [tVar, tC, tOp, tUn, tTest, tChain, tNil, tCons, tTup, tLst, tCall, tMake, tCB, tIf, tAndV, tOrV, tNotV, tIsN, tNotN, tB, tAnd, tOr, tNot, tNext, tSeq, tDrop, tRet, tRetN, tIfS, tNever, gName, gNil, gCons, gSub, tAsg, tAug, tAugS, ipI, tBM, tBM0, tSl, tNoPart, tPart, tDGet, tDIn, tDNotIn, tDGet1, sDPut, tMth, tDNewT, tDNewK, tYes, rI0, rI, rU, rAdd, rSub, rEq, rNe, L2.start, List.map_cons, List.map_nil, List.length_cons, List.length_nil, List.replicate, List.append_nil, List.nil_append, List.cons_append, List.getElem?_cons_zero, List.getElem?_cons_succ, List.set_cons_zero, List.set_cons_succ, Option.some.injEq, V.int.injEq, V.bl.injEq, V.ref.injEq, V.str.injEq, exists_eq_left', exists_eq_left, exists_and_left, true_and, and_true, Nat.reduceAdd, Nat.reduceSub, Nat.add_one_sub_one, Nat.sub_self, Bool.true_eq_false, Bool.false_eq_true, if_true, if_false, ite_true, ite_false, cxOf, Cx.nox, decide_eq_true_eq, reduceCtorEq, decide_false, decide_true, Bool.not_false, Bool.not_true, eq_self, upd_same, L2.upd_upd, List.cons.injEq, and_assoc, s_add_copy, s_add_wait, s_copy_add, s_copy_wait, s_wait_add, s_wait_copy, s_look_add, s_look_copy, s_look_wait]
          exact yes rfl
      · rw [if_neg (show ¬ ((c : Nat) : Int) < ((ss.length : Nat) : Int) by omega)]
        rw [List.getElem?_eq_none (by omega)] at hnx
        exact stay (by unfold poss; rw [hnx])
    · rintro σ' H' ⟨v4, v5, rfl, e2, hp2⟩
      simp only [tVar, tC, tOp, tUn, tTest, tChain, tNil, tCons, tTup, tLst, tCall, tMake, tCB, tIf, tAndV, tOrV, tNotV, tIsN, tNotN, tB, tAnd, tOr, tNot, tNext, tSeq, tDrop, tRet, tRetN, tIfS, tNever, gName, gNil, gCons, gSub, tAsg, tAug, tAugS, ipI, tBM, tBM0, tSl, tNoPart, tPart, tDGet, tDIn, tDNotIn, tDGet1, sDPut, tMth, tDNewT, tDNewK, tYes, rI0, rI, rU, rAdd, rSub, rEq, rNe, L2.start, List.map_cons, List.map_nil, List.length_cons, List.length_nil, List.replicate, List.append_nil, List.nil_append, List.cons_append, List.getElem?_cons_zero, List.getElem?_cons_succ, List.set_cons_zero, List.set_cons_succ, Option.some.injEq, V.int.injEq, V.bl.injEq, V.ref.injEq, V.str.injEq, exists_eq_left', exists_eq_left, exists_and_left, true_and, and_true, Nat.reduceAdd, Nat.reduceSub, Nat.add_one_sub_one, Nat.sub_self, Bool.true_eq_false, Bool.false_eq_true, if_true, if_false, ite_true, ite_false, cxOf, Cx.nox, decide_eq_true_eq, reduceCtorEq, decide_false, decide_true, Bool.not_false, Bool.not_true, eq_self, upd_same, L2.upd_upd, List.cons.injEq, and_assoc]
      refine q H' p e2 np ?_
      unfold possL
      rw [hdl]; exact hp2
end
end TW

set_option maxHeartbeats 8000000
/-! TwX: _law_behind, _law_possible. -/
namespace TW
open PySem PySem.Spec PyProof.Rows L2
open TC hiding Step Env
theorem notin_L {K : PySem.W.Frag} {H : Hp} {p : Addr} {B : List Nat} {t : Nat} {Q : VK} (h : H p = some (.lst (nI B))) (q : Q (.bl (!decide (t ∈ B))) H) : rIn K true (.int (t : Nat)) (.ref p) H Q := by
  refine ⟨p, _, rfl, .inl (SqL.of h), rfl, flat_nI B, ?_⟩
  rw [if_pos rfl, in_nI]; exact q
/-- dict(program[1]), new -/
def rDictF : List V → Hp → VK → Prop := fun vs H Q => ∃ x ps e0, vs = [x] ∧ Pt H x ps ∧ A2 (pairP H) ps e0 ∧ (dom e0).Nodup ∧ ∀ p, H p = none → Q (.ref p) (upd H p (.dK (envK e0)))
theorem cr_dictF {X : Cx} (hc : X.calm = true) : CallR X (.type "dict") rDictF := fun pins s σ H vs us Q I r h => by
  obtain ⟨x, ps, e0, rfl, ⟨a, o, rfl, ha, hd⟩, hA, nd, q⟩ := h
  obtain ⟨as, rfl, hp⟩ := pairs_ref (K := X.K) hA
  refine GX.call_dictT hc pins s σ H _ us Q I r ⟨a, o, as, envK e0, rfl, ha, hd, hp, fun p np => ?_⟩
  rw [env_merge nd]
  exact q _ np
section
variable {P : Program} {w : World} {K : PySem.W.Frag} {mg : Str → Option Value} {base : Heap}
abbrev COpen (P : Program) (w : World) (K : PySem.W.Frag) (mg : Str → Option Value) (base : Heap) : Prop := Cal P w K mg base 1 "_law_open_threads" ["_law_program_here", "_law_counts", "_law_values"] spOpen
abbrev sLBeh : Stmt := tx 34
abbrev nLBeh : List Str := ["_law_program_here", "_law_schedule", "_law_values", "_law_counts", "_law_k", "_law_t", "_law_step"]
def spLBeh : Sp := fun vs H Q _ => ∃ x y e0 Th ws, vs = [x, y] ∧ PW H x e0 Th ∧ Tn H y ws ∧ okw Th e0 (zeroL Th.length) ws = true ∧
  ∀ H' p va ca, Ext H H' → H' p = some (.lst [.non, .ref va, .ref ca]) → H' va = some (.dK (envK (play Th e0 (zeroL Th.length) ws).1)) → H' ca = some (.lst (nI (play Th e0 (zeroL Th.length) ws).2)) → Q (.ref p) H'
theorem scLBeh : FnScope nLBeh ["_law_program_here", "_law_schedule"] (defScope sLBeh) := ⟨rfl, rfl, rfl, by decide +kernel, rfl, by decide +kernel, by decide +kernel⟩
theorem ok_lbeh {f : Addr} {fd : FuncData} (F : Fun K "_law_behind" "_law_behind" sLBeh f fd) (B : Bt mg) (c1 : COpen P w K mg base) : FnOk P w K mg base CX0 2 f fd ["_law_program_here", "_law_schedule"] spLBeh := by
  refine F.ok scLBeh (fun vs H Q E h => ?_) (fun cdv A outer s H vs Q E hr h => ?_)
  · obtain ⟨x, y, e0, Th, ws, rfl, _⟩ := h
    rfl
  · obtain ⟨x, y, e0, Th, ws, rfl, hp, hw, hok, q⟩ := h
    refine ⟨_, pss_cons (ps_set (i := 2) scLBeh.nd rfl (Or.inl rfl) (pe_callTy (cr_dictF rfl) (by rfl) B.dict (by decide +kernel) (pa_cons (pe_ix ix_tup (pv 0) pe_int (fun _ _ => rfl)) pa_nil)))
      (pss_cons (ps_set (i := 3) scLBeh.nd rfl (Or.inl rfl) (pe_op op_rep (pe_lst (pa_cons pe_int pa_nil)) (pe_callB call_len (by rfl) B.len PySem.boot_len (pa_cons (pe_ix ix_tup (pv 0) pe_int (fun _ _ => rfl)) pa_nil))))
      (pss_cons (ps_for PassesOwn.never rfl (pi_range1 (by rfl) B.range (pa_cons (pe_callB call_len (by rfl) B.len PySem.boot_len (pa_cons (pv 1) pa_nil)) pa_nil)) (pg_name (i := 4) scLBeh.nd rfl (.inl rfl))
        (pss_cons (ps_set (i := 5) scLBeh.nd rfl (Or.inl rfl) (pe_ix ix_tup (pv 1) (pv 4) (fun _ _ => rfl)))
        (pss_cons (ps_if (pt_cmpR op_notIn_seq (pv 5) (pe_cal c1 hr rfl (pa_cons (pv 0) (pa_cons (pv 3) (pa_cons (pv 2) pa_nil)))) rfl)
          (pss_one (ps_ret (pe_lst (pa_cons (pv 4) (pa_cons pe_non (pa_cons pe_non pa_nil)))))) pss_nil)
        (pss_cons (ps_set (i := 6) scLBeh.nd rfl (Or.inl rfl) (pe_ix ix_tup (pe_ix ix_tup (pe_ix ix_tup (pv 0) pe_int (fun _ _ => rfl)) (pv 5) (fun _ _ => rfl)) (pe_ix ix_list (pv 3) (pv 5) (fun _ _ => rfl)) (fun _ _ => rfl)))
        (pss_cons (ps_if (pt_cmpR op_eq (pe_ix ix_tup (pv 6) pe_int (fun _ _ => rfl)) pe_str (nomark _))
          (pss_one (ps_dput (hu_of hr) (pv 2) (pe_ix ix_tup (pv 6) pe_int (fun _ _ => rfl)) (pe_op op_add (pe_dgetR (hu_of hr) (pv 2) (pe_ix ix_tup (pv 6) pe_int (fun _ _ => rfl))) (pe_ix ix_tup (pv 6) pe_int (fun _ _ => rfl))) rfl)) pss_nil)
        (pss_cons (ps_if (pt_cmpR op_eq (pe_ix ix_tup (pv 6) pe_int (fun _ _ => rfl)) pe_str (nomark _))
          (pss_one (ps_dput (hu_of hr) (pv 2) (pe_ix ix_tup (pv 6) pe_int (fun _ _ => rfl)) (pe_dgetR (hu_of hr) (pv 2) (pe_ix ix_tup (pv 6) pe_int (fun _ _ => rfl))) rfl)) pss_nil)
        (pss_one (ps_asg (pe_op op_add (pe_ix ix_list (pv 3) (pv 5) (fun _ _ => rfl)) pe_int) (pg_sub (pv 3) (pv 5) set_list (fun _ => rfl))))))))))
      (pss_one (ps_ret (pe_lst (pa_cons pe_non (pa_cons (pv 2) (pa_cons (pv 3) pa_nil)))))))), ?_⟩
    simp only [tVar, tC, tOp, tUn, tTest, tChain, tNil, tCons, tTup, tLst, tCall, tMake, tCB, tIf, tAndV, tOrV, tNotV, tIsN, tNotN, tB, tAnd, tOr, tNot, tNext, tSeq, tDrop, tRet, tRetN, tIfS, tNever, gName, gNil, gCons, gSub, tAsg, tAug, tAugS, ipI, tBM, tBM0, tSl, tNoPart, tPart, tDGet, tDIn, tDNotIn, tDGet1, sDPut, tMth, tDNewT, tDNewK, tYes, rI0, rI, rU, rAdd, rSub, rEq, rNe, L2.start, List.map_cons, List.map_nil, List.length_cons, List.length_nil, List.replicate, List.append_nil, List.nil_append, List.cons_append, List.getElem?_cons_zero, List.getElem?_cons_succ, List.set_cons_zero, List.set_cons_succ, Option.some.injEq, V.int.injEq, V.bl.injEq, V.ref.injEq, V.str.injEq, exists_eq_left', exists_eq_left, exists_and_left, true_and, and_true, Nat.reduceAdd, Nat.reduceSub, Nat.add_one_sub_one, Nat.sub_self, Bool.true_eq_false, Bool.false_eq_true, if_true, if_false, ite_true, ite_false, cxOf, Cx.nox, decide_eq_true_eq, reduceCtorEq, decide_false, decide_true, Bool.not_false, Bool.not_true, eq_self, upd_same, L2.upd_upd, List.cons.injEq, and_assoc]
    obtain ⟨v, tt, ps, rows, g1, g2, g3, g4, g5⟩ := hp.prog
    have hrl := g5.1
    have n3 := hp.n3
    have hwl := rem_play ws e0 (zeroL Th.length) (zeroL_length _) hok
    have hR0 : remL Th (zeroL Th.length) ≤ 6 := Nat.le_trans (remL_le hp.l2) (by omega)
    obtain ⟨ya, rfl, hya⟩ := id hw
    refine tu_ix 1 g1 rfl ⟨v, ps, e0, rfl, g2, g3, hp.wf.1, fun va nva => ⟨szN (by decide), fun q1 nq1 => ?_⟩⟩
    have e1 : Ext H (upd H va (.dK (envK e0))) := Ext.new nva
    have hva1 : upd H va (.dK (envK e0)) va = some (.dK (envK e0)) := upd_same
    generalize upd H va (.dK (envK e0)) = H1 at *
    have e2 : Ext H1 (upd H1 q1 (.lst [V.int 0])) := Ext.new nq1
    have hq2 : upd H1 q1 (.lst [V.int 0]) q1 = some (.lst [V.int 0]) := upd_same
    generalize upd H1 q1 (.lst [V.int 0]) = H2 at *
    have e02 := e1.trans e2
    refine tu_ix 2 (g1.ext e02) rfl (tu_len (g4.ext e02) ⟨q1, (rows.length : Int), [V.int 0], rfl, rfl, hq2, by omega, by omega, szN (by rw [Int.toNat_natCast]; show 1 * rows.length ≤ 1000; omega), fun ca nca => ?_⟩)
    rw [Int.toNat_natCast, hrl]
    have hz : (List.replicate Th.length [V.int 0]).flatten = nI (zeroL Th.length) := rep_zero Th.length
    rw [hz]
    have e3 : Ext H2 (upd H2 ca (.lst (nI (zeroL Th.length)))) := Ext.new nca
    have hca : upd H2 ca (.lst (nI (zeroL Th.length))) ca = some (.lst (nI (zeroL Th.length))) := upd_same
    generalize upd H2 ca (.lst (nI (zeroL Th.length))) = H3 at *
    have e03 := e02.trans e3
    have hva := (e2.trans e3).1 _ _ hva1 (by simp)
    have ncv : ca ≠ va := (ne_of hva hca (by simp)).symm
    have nca0 : H ca = none := e02.free nca
    have exB : Ext (del ca (del va H3)) H3 := Ext.del.trans Ext.del
    have e0b : Ext H (del ca (del va H3)) := (e03.todel nva).todel nca0
    obtain ⟨hbc, hbv⟩ : del ca (del va H3) ca = none ∧ del ca (del va H3) va = none := ⟨del_same, by rw [del_ne ncv.symm, del_same]⟩
    generalize del ca (del va H3) = Hb at *
    refine for_rngT (n := ws.length) (fun R h => ?_) (by omega) (fun i σ' H' => ∃ v4 v5 v6, σ' = [some x, some (.ref ya), some (.ref va), some (.ref ca), v4, v5, v6] ∧ Ext Hb H' ∧ H' va = some (.dK (envK (play Th e0 (zeroL Th.length) (ws.take i)).1)) ∧ H' ca = some (.lst (nI (play Th e0 (zeroL Th.length) (ws.take i)).2)))
      ⟨none, none, none, rfl, exB, by simpa [play] using hva, by simpa [play] using hca⟩ ?_ ?_
    · simp only [tVar, tC, tOp, tUn, tTest, tChain, tNil, tCons, tTup, tLst, tCall, tMake, tCB, tIf, tAndV, tOrV, tNotV, tIsN, tNotN, tB, tAnd, tOr, tNot, tNext, tSeq, tDrop, tRet, tRetN, tIfS, tNever, gName, gNil, gCons, gSub, tAsg, tAug, tAugS, ipI, tBM, tBM0, tSl, tNoPart, tPart, tDGet, tDIn, tDNotIn, tDGet1, sDPut, tMth, tDNewT, tDNewK, tYes, rI0, rI, rU, rAdd, rSub, rEq, rNe, L2.start, List.map_cons, List.map_nil, List.length_cons, List.length_nil, List.replicate, List.append_nil, List.nil_append, List.cons_append, List.getElem?_cons_zero, List.getElem?_cons_succ, List.set_cons_zero, List.set_cons_succ, Option.some.injEq, V.int.injEq, V.bl.injEq, V.ref.injEq, V.str.injEq, exists_eq_left', exists_eq_left, exists_and_left, true_and, and_true, Nat.reduceAdd, Nat.reduceSub, Nat.add_one_sub_one, Nat.sub_self, Bool.true_eq_false, Bool.false_eq_true, if_true, if_false, ite_true, ite_false, cxOf, Cx.nox, decide_eq_true_eq, reduceCtorEq, decide_false, decide_true, Bool.not_false, Bool.not_true, eq_self, upd_same, L2.upd_upd, List.cons.injEq, and_assoc]
      refine tu_len (hw.ext e03) ?_
      rw [nI_length]
      exact h
    · rintro i σ' H' hi ⟨v4, v5, v6, rfl, eb, hv, hc⟩
      obtain ⟨t, ht⟩ := eq_at hi
      have e0i := e0b.trans eb
      have hps := okw_at hok ht
      have htl := poss_lt hps
      have hpa := play_at (P := Th) (e := e0) (d := zeroL Th.length) ht
      have hdl : (play Th e0 (zeroL Th.length) (ws.take i)).2.length = Th.length := by rw [play_length, zeroL_length]
      have hdom : dom (play Th e0 (zeroL Th.length) (ws.take i)).1 = dom e0 := dom_play _ _ _
      rw [hpa]
      generalize play Th e0 (zeroL Th.length) (ws.take i) = pl at *
      simp only [tVar, tC, tOp, tUn, tTest, tChain, tNil, tCons, tTup, tLst, tCall, tMake, tCB, tIf, tAndV, tOrV, tNotV, tIsN, tNotN, tB, tAnd, tOr, tNot, tNext, tSeq, tDrop, tRet, tRetN, tIfS, tNever, gName, gNil, gCons, gSub, tAsg, tAug, tAugS, ipI, tBM, tBM0, tSl, tNoPart, tPart, tDGet, tDIn, tDNotIn, tDGet1, sDPut, tMth, tDNewT, tDNewK, tYes, rI0, rI, rU, rAdd, rSub, rEq, rNe, L2.start, List.map_cons, List.map_nil, List.length_cons, List.length_nil, List.replicate, List.append_nil, List.nil_append, List.cons_append, List.getElem?_cons_zero, List.getElem?_cons_succ, List.set_cons_zero, List.set_cons_succ, Option.some.injEq, V.int.injEq, V.bl.injEq, V.ref.injEq, V.str.injEq, exists_eq_left', exists_eq_left, exists_and_left, true_and, and_true, Nat.reduceAdd, Nat.reduceSub, Nat.add_one_sub_one, Nat.sub_self, Bool.true_eq_false, Bool.false_eq_true, if_true, if_false, ite_true, ite_false, cxOf, Cx.nox, decide_eq_true_eq, reduceCtorEq, decide_false, decide_true, Bool.not_false, Bool.not_true, eq_self, upd_same, L2.upd_upd, List.cons.injEq, and_assoc]
      refine tu_ix i (hw.ext e0i) (nI_at ht) ?_
      refine ⟨x, ca, .ref va, e0, pl.1, Th, pl.2, rfl, hp.ext e0i, hc, ⟨va, rfl, hv⟩, hdom, hdl, fun H4 p e4 np hp4 => ?_⟩
      have hmem : t ∈ possL Th pl.1 pl.2 := (mem_possL hdl).mpr hps
      refine notin_L hp4 ⟨_, rfl, ?_⟩
      rw [decide_eq_true hmem]
      simp only [tVar, tC, tOp, tUn, tTest, tChain, tNil, tCons, tTup, tLst, tCall, tMake, tCB, tIf, tAndV, tOrV, tNotV, tIsN, tNotN, tB, tAnd, tOr, tNot, tNext, tSeq, tDrop, tRet, tRetN, tIfS, tNever, gName, gNil, gCons, gSub, tAsg, tAug, tAugS, ipI, tBM, tBM0, tSl, tNoPart, tPart, tDGet, tDIn, tDNotIn, tDGet1, sDPut, tMth, tDNewT, tDNewK, tYes, rI0, rI, rU, rAdd, rSub, rEq, rNe, L2.start, List.map_cons, List.map_nil, List.length_cons, List.length_nil, List.replicate, List.append_nil, List.nil_append, List.cons_append, List.getElem?_cons_zero, List.getElem?_cons_succ, List.set_cons_zero, List.set_cons_succ, Option.some.injEq, V.int.injEq, V.bl.injEq, V.ref.injEq, V.str.injEq, exists_eq_left', exists_eq_left, exists_and_left, true_and, and_true, Nat.reduceAdd, Nat.reduceSub, Nat.add_one_sub_one, Nat.sub_self, Bool.true_eq_false, Bool.false_eq_true, if_true, if_false, ite_true, ite_false, cxOf, Cx.nox, decide_eq_true_eq, reduceCtorEq, decide_false, decide_true, Bool.not_false, Bool.not_true, eq_self, upd_same, L2.upd_upd, List.cons.injEq, and_assoc]
      obtain ⟨v', tt', rows', r, ss, k1, k2, k3, k4, k5, k6⟩ := row_at ((hp.ext e0i).ext e4).prog (List.getElem?_eq_getElem htl)
      obtain ⟨c, hcc⟩ := eq_at (show t < pl.2.length by omega)
      have hnx : nxt Th pl.2 t = (Th[t])[c]? := nxt_row (List.getElem?_eq_getElem htl) hcc
      have hnx2 := nx_of hps
      rw [hnx] at hnx2
      have hcn := hp.wf.names (nx_of hps)
      obtain ⟨sv, hsv, hT⟩ := k5.at hnx2
      have hv4 := e4.1 _ _ hv (by simp)
      have hc4 := e4.1 _ _ hc (by simp)
      have eb4 := eb.trans e4
      have fin : ∀ (H5 : Hp), Ext Hb H5 → H5 va = some (HO.dK (envK (app pl.1 (nx Th pl.2 t)))) → H5 ca = some (.lst (nI pl.2)) → rIxL K (V.ref ca) (V.int (t : Nat)) H5 fun x H1 => ∃ i, x = V.int i ∧ rSetL (V.ref ca) (V.int (t : Nat)) (V.int (i + 1)) H1 fun H3 => Ext Hb H3 ∧ H3 va = some (HO.dK (envK (app pl.1 (nx Th pl.2 t)))) ∧ H3 ca = some (HO.lst (nI (inc pl.2 t))) := fun H5 e5 h1 h2 => by
        refine ls_ix t h2 (nI_at hcc) ⟨_, rfl, ca, nI pl.2, _, t, rfl, rfl, h2, ?_, e5.upd hbc, ?_, ?_⟩
        · unfold ixN
          rw [nI_length, if_pos (by omega), if_pos (by omega)]; rfl
        · rw [upd_ne ncv.symm]; exact h1
        · rw [upd_same]
          congr 2
          unfold inc nI
          rw [List.map_set]
          congr 1
          rw [List.getD_eq_getElem?_getD, hcc]; rfl
      refine tu_ix 2 k1 rfl (tu_ix t k2 k3 (ls_ix t hc4 (nI_at hcc) (tu_ix c k4 hsv ?_)))
      have hl' : (envK pl.1).length < sizeLine := Nat.lt_of_le_of_lt (by rw [envK_length, dom_len hdom]; exact hp.wf.2.1) (small1000 (n := 3) (by omega))
      have hve : EnvD H4 (.ref va) pl.1 := ⟨va, rfl, hv4⟩
      have put : ∀ (x0 : Nat) (n : Int), x0 ∈ dom e0 → DPut H4 va (.str (nm x0)) (.int n) (upd H4 va (.dK (envK (eset pl.1 x0 n)))) := fun x0 n h => by
        have := DPut.k (H := H4) (a := va) (k := Sum.inr (nm x0)) (v := V.int n) hv4 hl'
        rw [envK_put (by rw [hdom]; exact h)] at this
        exact this
      have kpP : ∀ (o : HO), Kp (del va H4) (upd H4 va o) := fun o => ((Ext.del (p := va) (H := H4)).upd (o := o) del_same).kp
      generalize nx Th pl.2 t = st at *
      cases st with
      | wait x0 n0 =>
        refine tu_ix 0 hT rfl ⟨rfl, ?_⟩
        simp only [tVar, tC, tOp, tUn, tTest, tChain, tNil, tCons, tTup, tLst, tCall, tMake, tCB, tIf, tAndV, tOrV, tNotV, tIsN, tNotN, tB, tAnd, tOr, tNot, tNext, tSeq, tDrop, tRet, tRetN, tIfS, tNever, gName, gNil, gCons, gSub, tAsg, tAug, tAugS, ipI, tBM, tBM0, tSl, tNoPart, tPart, tDGet, tDIn, tDNotIn, tDGet1, sDPut, tMth, tDNewT, tDNewK, tYes, rI0, rI, rU, rAdd, rSub, rEq, rNe, L2.start, List.map_cons, List.map_nil, List.length_cons, List.length_nil, List.replicate, List.append_nil, List.nil_append, List.cons_append, List.getElem?_cons_zero, List.getElem?_cons_succ, List.set_cons_zero, List.set_cons_succ, Option.some.injEq, V.int.injEq, V.bl.injEq, V.ref.injEq, V.str.injEq, exists_eq_left', exists_eq_left, exists_and_left, true_and, and_true, Nat.reduceAdd, Nat.reduceSub, Nat.add_one_sub_one, Nat.sub_self, Bool.true_eq_false, Bool.false_eq_true, if_true, if_false, ite_true, ite_false, cxOf, Cx.nox, decide_eq_true_eq, reduceCtorEq, decide_false, decide_true, Bool.not_false, Bool.not_true, eq_self, upd_same, L2.upd_upd, List.cons.injEq, and_assoc, s_add_copy, s_add_wait, s_copy_add, s_copy_wait, s_wait_add, s_wait_copy, s_look_add, s_look_copy, s_look_wait]
        refine tu_ix 0 hT rfl ⟨rfl, ?_⟩
        simp only [tVar, tC, tOp, tUn, tTest, tChain, tNil, tCons, tTup, tLst, tCall, tMake, tCB, tIf, tAndV, tOrV, tNotV, tIsN, tNotN, tB, tAnd, tOr, tNot, tNext, tSeq, tDrop, tRet, tRetN, tIfS, tNever, gName, gNil, gCons, gSub, tAsg, tAug, tAugS, ipI, tBM, tBM0, tSl, tNoPart, tPart, tDGet, tDIn, tDNotIn, tDGet1, sDPut, tMth, tDNewT, tDNewK, tYes, rI0, rI, rU, rAdd, rSub, rEq, rNe, L2.start, List.map_cons, List.map_nil, List.length_cons, List.length_nil, List.replicate, List.append_nil, List.nil_append, List.cons_append, List.getElem?_cons_zero, List.getElem?_cons_succ, List.set_cons_zero, List.set_cons_succ, Option.some.injEq, V.int.injEq, V.bl.injEq, V.ref.injEq, V.str.injEq, exists_eq_left', exists_eq_left, exists_and_left, true_and, and_true, Nat.reduceAdd, Nat.reduceSub, Nat.add_one_sub_one, Nat.sub_self, Bool.true_eq_false, Bool.false_eq_true, if_true, if_false, ite_true, ite_false, cxOf, Cx.nox, decide_eq_true_eq, reduceCtorEq, decide_false, decide_true, Bool.not_false, Bool.not_true, eq_self, upd_same, L2.upd_upd, List.cons.injEq, and_assoc, s_add_copy, s_add_wait, s_copy_add, s_copy_wait, s_wait_add, s_wait_copy, s_look_add, s_look_copy, s_look_wait]
        exact fin H4 eb4 hv4 hc4
      | look x0 =>
        refine tu_ix 0 hT rfl ⟨rfl, ?_⟩
        simp only [tVar, tC, tOp, tUn, tTest, tChain, tNil, tCons, tTup, tLst, tCall, tMake, tCB, tIf, tAndV, tOrV, tNotV, tIsN, tNotN, tB, tAnd, tOr, tNot, tNext, tSeq, tDrop, tRet, tRetN, tIfS, tNever, gName, gNil, gCons, gSub, tAsg, tAug, tAugS, ipI, tBM, tBM0, tSl, tNoPart, tPart, tDGet, tDIn, tDNotIn, tDGet1, sDPut, tMth, tDNewT, tDNewK, tYes, rI0, rI, rU, rAdd, rSub, rEq, rNe, L2.start, List.map_cons, List.map_nil, List.length_cons, List.length_nil, List.replicate, List.append_nil, List.nil_append, List.cons_append, List.getElem?_cons_zero, List.getElem?_cons_succ, List.set_cons_zero, List.set_cons_succ, Option.some.injEq, V.int.injEq, V.bl.injEq, V.ref.injEq, V.str.injEq, exists_eq_left', exists_eq_left, exists_and_left, true_and, and_true, Nat.reduceAdd, Nat.reduceSub, Nat.add_one_sub_one, Nat.sub_self, Bool.true_eq_false, Bool.false_eq_true, if_true, if_false, ite_true, ite_false, cxOf, Cx.nox, decide_eq_true_eq, reduceCtorEq, decide_false, decide_true, Bool.not_false, Bool.not_true, eq_self, upd_same, L2.upd_upd, List.cons.injEq, and_assoc, s_add_copy, s_add_wait, s_copy_add, s_copy_wait, s_wait_add, s_wait_copy, s_look_add, s_look_copy, s_look_wait]
        refine tu_ix 0 hT rfl ⟨rfl, ?_⟩
        simp only [tVar, tC, tOp, tUn, tTest, tChain, tNil, tCons, tTup, tLst, tCall, tMake, tCB, tIf, tAndV, tOrV, tNotV, tIsN, tNotN, tB, tAnd, tOr, tNot, tNext, tSeq, tDrop, tRet, tRetN, tIfS, tNever, gName, gNil, gCons, gSub, tAsg, tAug, tAugS, ipI, tBM, tBM0, tSl, tNoPart, tPart, tDGet, tDIn, tDNotIn, tDGet1, sDPut, tMth, tDNewT, tDNewK, tYes, rI0, rI, rU, rAdd, rSub, rEq, rNe, L2.start, List.map_cons, List.map_nil, List.length_cons, List.length_nil, List.replicate, List.append_nil, List.nil_append, List.cons_append, List.getElem?_cons_zero, List.getElem?_cons_succ, List.set_cons_zero, List.set_cons_succ, Option.some.injEq, V.int.injEq, V.bl.injEq, V.ref.injEq, V.str.injEq, exists_eq_left', exists_eq_left, exists_and_left, true_and, and_true, Nat.reduceAdd, Nat.reduceSub, Nat.add_one_sub_one, Nat.sub_self, Bool.true_eq_false, Bool.false_eq_true, if_true, if_false, ite_true, ite_false, cxOf, Cx.nox, decide_eq_true_eq, reduceCtorEq, decide_false, decide_true, Bool.not_false, Bool.not_true, eq_self, upd_same, L2.upd_upd, List.cons.injEq, and_assoc, s_add_copy, s_add_wait, s_copy_add, s_copy_wait, s_wait_add, s_wait_copy, s_look_add, s_look_copy, s_look_wait]
        exact fin H4 eb4 hv4 hc4
      | add x0 n0 =>
        have hx0 : x0 ∈ dom e0 := hcn x0 (by simp [tch])
        refine tu_ix 0 hT rfl ⟨rfl, ?_⟩
        simp only [tVar, tC, tOp, tUn, tTest, tChain, tNil, tCons, tTup, tLst, tCall, tMake, tCB, tIf, tAndV, tOrV, tNotV, tIsN, tNotN, tB, tAnd, tOr, tNot, tNext, tSeq, tDrop, tRet, tRetN, tIfS, tNever, gName, gNil, gCons, gSub, tAsg, tAug, tAugS, ipI, tBM, tBM0, tSl, tNoPart, tPart, tDGet, tDIn, tDNotIn, tDGet1, sDPut, tMth, tDNewT, tDNewK, tYes, rI0, rI, rU, rAdd, rSub, rEq, rNe, L2.start, List.map_cons, List.map_nil, List.length_cons, List.length_nil, List.replicate, List.append_nil, List.nil_append, List.cons_append, List.getElem?_cons_zero, List.getElem?_cons_succ, List.set_cons_zero, List.set_cons_succ, Option.some.injEq, V.int.injEq, V.bl.injEq, V.ref.injEq, V.str.injEq, exists_eq_left', exists_eq_left, exists_and_left, true_and, and_true, Nat.reduceAdd, Nat.reduceSub, Nat.add_one_sub_one, Nat.sub_self, Bool.true_eq_false, Bool.false_eq_true, if_true, if_false, ite_true, ite_false, cxOf, Cx.nox, decide_eq_true_eq, reduceCtorEq, decide_false, decide_true, Bool.not_false, Bool.not_true, eq_self, upd_same, L2.upd_upd, List.cons.injEq, and_assoc, s_add_copy, s_add_wait, s_copy_add, s_copy_wait, s_wait_add, s_wait_copy, s_look_add, s_look_copy, s_look_wait]
        refine tu_ix 1 hT rfl (dg_env hve (by rw [hdom]; exact hx0) (tu_ix 2 hT rfl ⟨_, rfl, _, rfl, tu_ix 1 hT rfl ⟨_, put x0 _ hx0, ?_⟩⟩))
        obtain ⟨sa, rfl, hsa⟩ := id hT
        have hsv2 : sa ≠ va := ne_of hsa hv4 (by simp)
        refine tu_ix 0 ⟨sa, rfl, by rw [upd_ne hsv2]; exact hsa⟩ rfl ⟨rfl, ?_⟩
        simp only [tVar, tC, tOp, tUn, tTest, tChain, tNil, tCons, tTup, tLst, tCall, tMake, tCB, tIf, tAndV, tOrV, tNotV, tIsN, tNotN, tB, tAnd, tOr, tNot, tNext, tSeq, tDrop, tRet, tRetN, tIfS, tNever, gName, gNil, gCons, gSub, tAsg, tAug, tAugS, ipI, tBM, tBM0, tSl, tNoPart, tPart, tDGet, tDIn, tDNotIn, tDGet1, sDPut, tMth, tDNewT, tDNewK, tYes, rI0, rI, rU, rAdd, rSub, rEq, rNe, L2.start, List.map_cons, List.map_nil, List.length_cons, List.length_nil, List.replicate, List.append_nil, List.nil_append, List.cons_append, List.getElem?_cons_zero, List.getElem?_cons_succ, List.set_cons_zero, List.set_cons_succ, Option.some.injEq, V.int.injEq, V.bl.injEq, V.ref.injEq, V.str.injEq, exists_eq_left', exists_eq_left, exists_and_left, true_and, and_true, Nat.reduceAdd, Nat.reduceSub, Nat.add_one_sub_one, Nat.sub_self, Bool.true_eq_false, Bool.false_eq_true, if_true, if_false, ite_true, ite_false, cxOf, Cx.nox, decide_eq_true_eq, reduceCtorEq, decide_false, decide_true, Bool.not_false, Bool.not_true, eq_self, upd_same, L2.upd_upd, List.cons.injEq, and_assoc, s_add_copy, s_add_wait, s_copy_add, s_copy_wait, s_wait_add, s_wait_copy, s_look_add, s_look_copy, s_look_wait]
        exact fin _ (eb4.upd hbv) upd_same (by rw [upd_ne ncv]; exact hc4)
      | copy x0 y0 =>
        have hx0 : x0 ∈ dom e0 := hcn x0 (by simp [tch])
        have hy0 : y0 ∈ dom e0 := hcn y0 (by simp [tch])
        refine tu_ix 0 hT rfl ⟨rfl, ?_⟩
        simp only [tVar, tC, tOp, tUn, tTest, tChain, tNil, tCons, tTup, tLst, tCall, tMake, tCB, tIf, tAndV, tOrV, tNotV, tIsN, tNotN, tB, tAnd, tOr, tNot, tNext, tSeq, tDrop, tRet, tRetN, tIfS, tNever, gName, gNil, gCons, gSub, tAsg, tAug, tAugS, ipI, tBM, tBM0, tSl, tNoPart, tPart, tDGet, tDIn, tDNotIn, tDGet1, sDPut, tMth, tDNewT, tDNewK, tYes, rI0, rI, rU, rAdd, rSub, rEq, rNe, L2.start, List.map_cons, List.map_nil, List.length_cons, List.length_nil, List.replicate, List.append_nil, List.nil_append, List.cons_append, List.getElem?_cons_zero, List.getElem?_cons_succ, List.set_cons_zero, List.set_cons_succ, Option.some.injEq, V.int.injEq, V.bl.injEq, V.ref.injEq, V.str.injEq, exists_eq_left', exists_eq_left, exists_and_left, true_and, and_true, Nat.reduceAdd, Nat.reduceSub, Nat.add_one_sub_one, Nat.sub_self, Bool.true_eq_false, Bool.false_eq_true, if_true, if_false, ite_true, ite_false, cxOf, Cx.nox, decide_eq_true_eq, reduceCtorEq, decide_false, decide_true, Bool.not_false, Bool.not_true, eq_self, upd_same, L2.upd_upd, List.cons.injEq, and_assoc, s_add_copy, s_add_wait, s_copy_add, s_copy_wait, s_wait_add, s_wait_copy, s_look_add, s_look_copy, s_look_wait]
        refine tu_ix 0 hT rfl ⟨rfl, ?_⟩
        simp only [tVar, tC, tOp, tUn, tTest, tChain, tNil, tCons, tTup, tLst, tCall, tMake, tCB, tIf, tAndV, tOrV, tNotV, tIsN, tNotN, tB, tAnd, tOr, tNot, tNext, tSeq, tDrop, tRet, tRetN, tIfS, tNever, gName, gNil, gCons, gSub, tAsg, tAug, tAugS, ipI, tBM, tBM0, tSl, tNoPart, tPart, tDGet, tDIn, tDNotIn, tDGet1, sDPut, tMth, tDNewT, tDNewK, tYes, rI0, rI, rU, rAdd, rSub, rEq, rNe, L2.start, List.map_cons, List.map_nil, List.length_cons, List.length_nil, List.replicate, List.append_nil, List.nil_append, List.cons_append, List.getElem?_cons_zero, List.getElem?_cons_succ, List.set_cons_zero, List.set_cons_succ, Option.some.injEq, V.int.injEq, V.bl.injEq, V.ref.injEq, V.str.injEq, exists_eq_left', exists_eq_left, exists_and_left, true_and, and_true, Nat.reduceAdd, Nat.reduceSub, Nat.add_one_sub_one, Nat.sub_self, Bool.true_eq_false, Bool.false_eq_true, if_true, if_false, ite_true, ite_false, cxOf, Cx.nox, decide_eq_true_eq, reduceCtorEq, decide_false, decide_true, Bool.not_false, Bool.not_true, eq_self, upd_same, L2.upd_upd, List.cons.injEq, and_assoc, s_add_copy, s_add_wait, s_copy_add, s_copy_wait, s_wait_add, s_wait_copy, s_look_add, s_look_copy, s_look_wait]
        refine tu_ix 2 hT rfl (dg_env hve (by rw [hdom]; exact hy0) (tu_ix 1 hT rfl ⟨_, put x0 _ hx0, ?_⟩))
        exact fin _ (eb4.upd hbv) upd_same (by rw [upd_ne ncv]; exact hc4)
    · rintro σ' H' ⟨v4, v5, v6, rfl, eb, hv, hc⟩
      rw [List.take_length] at hv hc
      simp only [tVar, tC, tOp, tUn, tTest, tChain, tNil, tCons, tTup, tLst, tCall, tMake, tCB, tIf, tAndV, tOrV, tNotV, tIsN, tNotN, tB, tAnd, tOr, tNot, tNext, tSeq, tDrop, tRet, tRetN, tIfS, tNever, gName, gNil, gCons, gSub, tAsg, tAug, tAugS, ipI, tBM, tBM0, tSl, tNoPart, tPart, tDGet, tDIn, tDNotIn, tDGet1, sDPut, tMth, tDNewT, tDNewK, tYes, rI0, rI, rU, rAdd, rSub, rEq, rNe, L2.start, List.map_cons, List.map_nil, List.length_cons, List.length_nil, List.replicate, List.append_nil, List.nil_append, List.cons_append, List.getElem?_cons_zero, List.getElem?_cons_succ, List.set_cons_zero, List.set_cons_succ, Option.some.injEq, V.int.injEq, V.bl.injEq, V.ref.injEq, V.str.injEq, exists_eq_left', exists_eq_left, exists_and_left, true_and, and_true, Nat.reduceAdd, Nat.reduceSub, Nat.add_one_sub_one, Nat.sub_self, Bool.true_eq_false, Bool.false_eq_true, if_true, if_false, ite_true, ite_false, cxOf, Cx.nox, decide_eq_true_eq, reduceCtorEq, decide_false, decide_true, Bool.not_false, Bool.not_true, eq_self, upd_same, L2.upd_upd, List.cons.injEq, and_assoc]
      refine ⟨szN (by decide), fun p np => ?_⟩
      have e1 : Ext H' (upd H' p (.lst [V.non, V.ref va, V.ref ca])) := Ext.new np
      exact q _ p va ca ((e0b.trans eb).trans e1) upd_same (e1.1 _ _ hv (by simp)) (e1.1 _ _ hc (by simp))
end
end TW

set_option maxHeartbeats 8000000
/-! TwY: _law_possible, _law_whole. -/
namespace TW
open PySem PySem.Spec PyProof.Rows L2
open TC hiding Step Env
theorem longerM_len {Th : Thr} {e0 : TC.Env} {d0 : List Nat} (hl : d0.length = Th.length) (h3 : Th.length ≤ 3) : ∀ rows : List (List Nat), (longerM Th e0 d0 rows).length ≤ 3 * rows.length
  | [] => Nat.le_refl _
  | r :: rows => by
    have ih := longerM_len hl h3 (e0 := e0) rows
    have h1 : (possL Th (play Th e0 d0 r).1 (play Th e0 d0 r).2).length ≤ 3 := possL_len (by rw [play_length]; exact hl) h3
    unfold longerM at ih ⊢
    rw [List.flatMap_cons, List.length_append, List.length_map, List.length_cons]
    omega
theorem longerM_snoc {Th : Thr} {e0 : TC.Env} {d0 : List Nat} (rows : List (List Nat)) (r : List Nat) : longerM Th e0 d0 (rows ++ [r]) = longerM Th e0 d0 rows ++ (possL Th (play Th e0 d0 r).1 (play Th e0 d0 r).2).map fun t => r ++ [t] := by
  unfold longerM
  rw [List.flatMap_append]; simp
theorem endsM_snoc {Th : Thr} {e0 : TC.Env} {d0 : List Nat} (rows : List (List Nat)) (r : List Nat) : endsM Th e0 d0 (rows ++ [r]) = endsM Th e0 d0 rows ++ if possL Th (play Th e0 d0 r).1 (play Th e0 d0 r).2 = [] then [r] else [] := by
  unfold endsM
  rw [List.filter_append]
  by_cases q : possL Th (play Th e0 d0 r).1 (play Th e0 d0 r).2 = []
  · simp [q]
  · simp [q]
theorem endsM_len {Th : Thr} {e0 : TC.Env} {d0 : List Nat} (rows : List (List Nat)) : (endsM Th e0 d0 rows).length ≤ rows.length := List.length_filter_le _ _
theorem wholeM_nil {Th : Thr} {e0 : TC.Env} {d0 : List Nat} (f : Nat) (acc : List (List Nat)) : wholeM Th e0 d0 f [] acc = acc := by
  cases f <;> simp [wholeM]
theorem whole_nil {Th : Thr} {e0 : TC.Env} {n : Nat} (hn : Th.length = n) (h : [] ∈ wholeL Th e0 n) : wholeL Th e0 n = [[]] := by
  have hs := ((mem_whole hn).mp h).stuck
  have hs : possL Th (play Th e0 (zeroL n) []).1 (play Th e0 (zeroL n) []).2 = [] := hs
  unfold wholeL wholeM
  have h1 : longerM Th e0 (zeroL n) [[]] = [] := by
    have := longerM_snoc (Th := Th) (e0 := e0) (d0 := zeroL n) [] []
    rw [hs] at this
    simpa [longerM] using this
  have h2 : endsM Th e0 (zeroL n) [[]] = [[]] := by
    have := endsM_snoc (Th := Th) (e0 := e0) (d0 := zeroL n) [] []
    rw [if_pos hs] at this
    simpa [endsM] using this
  rw [if_neg (by simp), h1, h2, wholeM_nil]; rfl
theorem A2.app {α β : Type} {R : α → β → Prop} {xs ys : List α} {l m : List β} (h : A2 R xs l) (g : A2 R ys m) : A2 R (xs ++ ys) (l ++ m) := by
  refine ⟨by rw [List.length_append, List.length_append, h.1, g.1], fun i x hx => ?_⟩
  by_cases q : i < xs.length
  · rw [List.getElem?_append_left q] at hx
    obtain ⟨b, h1, h2⟩ := h.2 i x hx
    exact ⟨b, by rw [List.getElem?_append_left (by rw [← h.1]; exact q)]; exact h1, h2⟩
  · rw [List.getElem?_append_right (by omega)] at hx
    obtain ⟨b, h1, h2⟩ := g.2 _ x hx
    exact ⟨b, by rw [List.getElem?_append_right (by rw [← h.1]; omega), ← h.1]; exact h1, h2⟩
section
variable {P : Program} {w : World} {K : PySem.W.Frag} {mg : Str → Option Value} {base : Heap}
abbrev CBeh (P : Program) (w : World) (K : PySem.W.Frag) (mg : Str → Option Value) (base : Heap) : Prop := Cal P w K mg base 2 "_law_behind" ["_law_program_here", "_law_schedule"] spLBeh
abbrev sLPoss : Stmt := tx 35
def spLPoss : Sp := fun vs H Q _ => ∃ x y e0 Th ws, vs = [x, y] ∧ PW H x e0 Th ∧ Tn H y ws ∧ okw Th e0 (zeroL Th.length) ws = true ∧
  ∀ H' p, Ext H H' → H p = none → H' p = some (.lst (nI (possL Th (play Th e0 (zeroL Th.length) ws).1 (play Th e0 (zeroL Th.length) ws).2))) → Q (.ref p) H'
theorem scLPoss : FnScope ["_law_program_here", "_law_schedule", "_law_found"] ["_law_program_here", "_law_schedule"] (defScope sLPoss) := ⟨rfl, rfl, rfl, by decide +kernel, rfl, by decide +kernel, by decide +kernel⟩
theorem ok_lposs {f : Addr} {fd : FuncData} (F : Fun K "_law_possible" "_law_possible" sLPoss f fd) (B : Bt mg) (c1 : CBeh P w K mg base) (c2 : COpen P w K mg base) : FnOk P w K mg base CX0 3 f fd ["_law_program_here", "_law_schedule"] spLPoss := by
  refine F.ok scLPoss (fun vs H Q E h => ?_) (fun cdv A outer s H vs Q E hr h => ?_)
  · obtain ⟨x, y, e0, Th, ws, rfl, _⟩ := h
    rfl
  · obtain ⟨x, y, e0, Th, ws, rfl, hp, hw, hok, q⟩ := h
    refine ⟨_, pss_cons (ps_set (i := 2) scLPoss.nd rfl (Or.inl rfl) (pe_cal c1 hr rfl (pa_cons (pv 0) (pa_cons (pv 1) pa_nil))))
      (pss_one (ps_ret (pe_cal c2 (hr.mono (by decide)) rfl (pa_cons (pv 0) (pa_cons (pe_ix ix_list (pv 2) pe_int (fun _ _ => rfl)) (pa_cons (pe_ix ix_list (pv 2) pe_int (fun _ _ => rfl)) pa_nil)))))), ?_⟩
    simp only [tVar, tC, tOp, tUn, tTest, tChain, tNil, tCons, tTup, tLst, tCall, tMake, tCB, tIf, tAndV, tOrV, tNotV, tIsN, tNotN, tB, tAnd, tOr, tNot, tNext, tSeq, tDrop, tRet, tRetN, tIfS, tNever, gName, gNil, gCons, gSub, tAsg, tAug, tAugS, ipI, tBM, tBM0, tSl, tNoPart, tPart, tDGet, tDIn, tDNotIn, tDGet1, sDPut, tMth, tDNewT, tDNewK, tYes, rI0, rI, rU, rAdd, rSub, rEq, rNe, L2.start, List.map_cons, List.map_nil, List.length_cons, List.length_nil, List.replicate, List.append_nil, List.nil_append, List.cons_append, List.getElem?_cons_zero, List.getElem?_cons_succ, List.set_cons_zero, List.set_cons_succ, Option.some.injEq, V.int.injEq, V.bl.injEq, V.ref.injEq, V.str.injEq, exists_eq_left', exists_eq_left, exists_and_left, true_and, and_true, Nat.reduceAdd, Nat.reduceSub, Nat.add_one_sub_one, Nat.sub_self, Bool.true_eq_false, Bool.false_eq_true, if_true, if_false, ite_true, ite_false, cxOf, Cx.nox, decide_eq_true_eq, reduceCtorEq, decide_false, decide_true, Bool.not_false, Bool.not_true, eq_self, upd_same, L2.upd_upd, List.cons.injEq, and_assoc]
    refine ⟨x, y, e0, Th, ws, rfl, hp, hw, hok, fun H1 p va ca e1 hp1 hva hca => ?_⟩
    refine ls_ix 2 hp1 rfl (ls_ix 1 hp1 rfl ?_)
    exact ⟨x, ca, .ref va, e0, _, Th, _, rfl, hp.ext e1, hca, ⟨va, rfl, hva⟩, dom_play _ _ _, by rw [play_length, zeroL_length], fun H2 p2 e2 np2 hp2 => q H2 p2 (e1.trans e2) (e1.free np2) hp2⟩
abbrev CLPoss (P : Program) (w : World) (K : PySem.W.Frag) (mg : Str → Option Value) (base : Heap) : Prop := Cal P w K mg base 3 "_law_possible" ["_law_program_here", "_law_schedule"] spLPoss
abbrev sWhole : Stmt := tx 36
abbrev nWhole : List Str := ["_law_program_here", "_law_rows", "_law_whole_here", "_law_longer", "_law_row", "_law_more", "_law_t"]
def spWhole : Sp := fun vs H Q _ => ∃ x e0 Th, vs = [x] ∧ PW H x e0 Th ∧ ∀ H' p its ls, Ext H H' → H' p = some (.lst its) → A2 (Tn H') its ls → ls.Perm (wholeL Th e0 Th.length) → Q (.ref p) H'
theorem scWhole : FnScope nWhole ["_law_program_here"] (defScope sWhole) := ⟨rfl, rfl, rfl, by decide +kernel, rfl, by decide +kernel, by decide +kernel⟩
def WhI (Hb : Hp) (x : V) (wp : Addr) (e0 : TC.Env) (Th : Thr) (m : Nat) (σ' : L2.St) (H' : Hp) : Prop :=
  ∃ v3 v4 v5 rp its rows wits acc f k, σ' = [some x, some (.ref rp), some (.ref wp), v3, v4, v5, none] ∧ Ext Hb H' ∧ H' rp = some (.lst its) ∧ A2 (Tn H') its rows ∧ H' wp = some (.lst wits) ∧ A2 (Tn H') wits acc ∧ rp ≠ wp ∧
    Rows Th e0 (zeroL Th.length) rows m ∧ m ≤ f ∧ wholeM Th e0 (zeroL Th.length) f rows acc = wholeL Th e0 Th.length ∧ k + m ≤ 7 ∧ rows.length ≤ 3 ^ k ∧ acc.length ≤ 729 * k
theorem ok_whole {f : Addr} {fd : FuncData} (F : Fun K "_law_whole" "_law_whole" sWhole f fd) (B : Bt mg) (c1 : CLPoss P w K mg base) : FnOk P w K mg base CX0 4 f fd ["_law_program_here"] spWhole := by
  refine F.ok scWhole (fun vs H Q E h => ?_) (fun cdv A outer s H vs Q E hr h => ?_)
  · obtain ⟨x, e0, Th, rfl, _⟩ := h
    rfl
  · obtain ⟨x, e0, Th, rfl, hp, q⟩ := h
    refine ⟨_, pss_cons (ps_set (i := 1) scWhole.nd rfl (Or.inl rfl) (pe_lst (pa_cons (pe_tup pa_nil) pa_nil)))
      (pss_cons (ps_set (i := 2) scWhole.nd rfl (Or.inl rfl) (pe_lst pa_nil))
      (pss_cons (ps_while PassesOwn.never (pt_cmpR op_gt (pe_callB call_len (by rfl) B.len PySem.boot_len (pa_cons (pv 1) pa_nil)) pe_int (nomark _))
        (pss_cons (ps_set (i := 3) scWhole.nd rfl (Or.inl rfl) (pe_lst pa_nil))
        (pss_cons (ps_for PassesOwn.never rfl (pi_list (pv 1)) (pg_name (i := 4) scWhole.nd rfl (.inr rfl))
          (pss_cons (ps_set (i := 5) scWhole.nd rfl (Or.inl rfl) (pe_cal c1 hr rfl (pa_cons (pv 0) (pa_cons (pv 4) pa_nil))))
          (pss_cons (ps_if (pt_cmpR op_eq (pe_callB call_len (by rfl) B.len PySem.boot_len (pa_cons (pv 5) pa_nil)) pe_int (nomark _)) (pss_one (ps_expr (pe_bm PySem.F.plainAttrs_list PySem.F.slot_list_append PySem.F.type_list_append mt_append (pv 2) (pa_cons (pv 4) pa_nil)))) pss_nil)
          (pss_one (ps_set (i := 3) scWhole.nd rfl (Or.inl rfl) (pe_op op_cat (pv 3) (pe_lc (own := [("_law_t", 6)]) (g := gName 6) (tt := tYes) (te := tOp rCatS (tVar 4) (tTup (tCons (tVar 6) tNil))) rfl scWhole.nd (pi_list (pv 5)) (blkOk_by (N := nWhole) (sc := defScope sWhole) (by decide +kernel))
            (fun _ _ _ _ _ => pg_name (i := 6) scWhole.nd rfl (.inl rfl)) (fun _ _ _ _ _ => pts_nil) (fun _ _ _ _ _ => pe_op op_catS (pv 4) (pe_tup (pa_cons (pv 6) pa_nil))))))))))
        (pss_one (ps_set (i := 1) scWhole.nd rfl (Or.inl rfl) (pv 3))))))
      (pss_one (ps_ret (pe_callB GX.cr_sortTI (by rfl) B.sorted (by decide +kernel) (pa_cons (pv 2) pa_nil)))))), ?_⟩
    simp only [tVar, tC, tOp, tUn, tTest, tChain, tNil, tCons, tTup, tLst, tCall, tMake, tCB, tIf, tAndV, tOrV, tNotV, tIsN, tNotN, tB, tAnd, tOr, tNot, tNext, tSeq, tDrop, tRet, tRetN, tIfS, tNever, gName, gNil, gCons, gSub, tAsg, tAug, tAugS, ipI, tBM, tBM0, tSl, tNoPart, tPart, tDGet, tDIn, tDNotIn, tDGet1, sDPut, tMth, tDNewT, tDNewK, tYes, rI0, rI, rU, rAdd, rSub, rEq, rNe, L2.start, List.map_cons, List.map_nil, List.length_cons, List.length_nil, List.replicate, List.append_nil, List.nil_append, List.cons_append, List.getElem?_cons_zero, List.getElem?_cons_succ, List.set_cons_zero, List.set_cons_succ, Option.some.injEq, V.int.injEq, V.bl.injEq, V.ref.injEq, V.str.injEq, exists_eq_left', exists_eq_left, exists_and_left, true_and, and_true, Nat.reduceAdd, Nat.reduceSub, Nat.add_one_sub_one, Nat.sub_self, Bool.true_eq_false, Bool.false_eq_true, if_true, if_false, ite_true, ite_false, cxOf, Cx.nox, decide_eq_true_eq, reduceCtorEq, decide_false, decide_true, Bool.not_false, Bool.not_true, eq_self, upd_same, L2.upd_upd, List.cons.injEq, and_assoc]
    have n3 := hp.n3
    have hR0 : remL Th (zeroL Th.length) ≤ 6 := Nat.le_trans (remL_le hp.l2) (by omega)
    have zl : (zeroL Th.length).length = Th.length := zeroL_length _
    refine ⟨Nat.zero_le _, fun a0 na0 => ⟨szN (by decide), fun rp0 nrp => ⟨Nat.zero_le _, fun wp nwp => ?_⟩⟩⟩
    have e1 : Ext H (upd H a0 (.tup [])) := Ext.new na0
    have ha0 : Tn (upd H a0 (.tup [])) (.ref a0) [] := ⟨a0, rfl, upd_same⟩
    generalize upd H a0 (.tup []) = H1 at *
    have e2 : Ext H1 (upd H1 rp0 (.lst [V.ref a0])) := Ext.new nrp
    have hrp0 : upd H1 rp0 (.lst [V.ref a0]) rp0 = some (.lst [V.ref a0]) := upd_same
    generalize upd H1 rp0 (.lst [V.ref a0]) = H2 at *
    have e12 := e1.trans e2
    have e3 : Ext H2 (upd H2 wp (.lst [])) := Ext.new nwp
    have hA0 : A2 (Tn (upd H2 wp (.lst []))) [V.ref a0] [[]] := ⟨rfl, fun i x hx => by
      match i, hx with
      | 0, hx => cases hx; exact ⟨[], rfl, Tu.ext ha0 (e2.trans e3)⟩⟩
    have R0 : Rows Th e0 (zeroL Th.length) [[]] (remL Th (zeroL Th.length) + 1) := by
      refine ⟨fun r hr => ?_, fun r hr => ?_⟩
      · have : r = [] := by simpa using hr
        subst this; rfl
      · have : r = [] := by simpa using hr
        subst this; rfl
    refine while_m (WhI H2 x wp e0 Th) (remL Th (zeroL Th.length) + 1) ⟨none, none, none, rp0, [V.ref a0], [[]], [], [], remL Th (zeroL Th.length) + 1, 0, rfl, e3, e3.1 _ _ hrp0 (by simp), hA0, upd_same, A2.nil, ne_of_none hrp0 nwp, R0, Nat.le_refl _, rfl, by omega, by simp, by simp⟩ ?_
    rintro m σ' H' ⟨v3, v4, v5, rp, its, rows, wits, acc, f, k, rfl, eb, hrp, hR, hwp, hW, hne, rr, hmf, hwl, hkm, hrl, hal⟩
    simp only [tVar, tC, tOp, tUn, tTest, tChain, tNil, tCons, tTup, tLst, tCall, tMake, tCB, tIf, tAndV, tOrV, tNotV, tIsN, tNotN, tB, tAnd, tOr, tNot, tNext, tSeq, tDrop, tRet, tRetN, tIfS, tNever, gName, gNil, gCons, gSub, tAsg, tAug, tAugS, ipI, tBM, tBM0, tSl, tNoPart, tPart, tDGet, tDIn, tDNotIn, tDGet1, sDPut, tMth, tDNewT, tDNewK, tYes, rI0, rI, rU, rAdd, rSub, rEq, rNe, L2.start, List.map_cons, List.map_nil, List.length_cons, List.length_nil, List.replicate, List.append_nil, List.nil_append, List.cons_append, List.getElem?_cons_zero, List.getElem?_cons_succ, List.set_cons_zero, List.set_cons_succ, Option.some.injEq, V.int.injEq, V.bl.injEq, V.ref.injEq, V.str.injEq, exists_eq_left', exists_eq_left, exists_and_left, true_and, and_true, Nat.reduceAdd, Nat.reduceSub, Nat.add_one_sub_one, Nat.sub_self, Bool.true_eq_false, Bool.false_eq_true, if_true, if_false, ite_true, ite_false, cxOf, Cx.nox, decide_eq_true_eq, reduceCtorEq, decide_false, decide_true, Bool.not_false, Bool.not_true, eq_self, upd_same, L2.upd_upd, List.cons.injEq, and_assoc]
    refine ls_len hrp ⟨_, rfl, ?_⟩
    have hpow : 3 ^ k ≤ 729 ∨ 6 < k := by
      rcases Nat.lt_or_ge 6 k with h | h
      · exact .inr h
      · exact .inl (Nat.le_trans (Nat.pow_le_pow_right (by decide) h) (by decide))
    by_cases hz : rows = []
    · subst hz
      have hi0 : its = [] := hR.nil_right
      subst hi0
      rw [if_neg (show ¬ ((0 : Int) < ((([] : List V).length : Nat) : Int)) by simp)]
      rw [wholeM_nil] at hwl
      subst hwl
      have hal2 : wits.length ≤ 5103 := by rw [hW.1]; omega
      refine ⟨wits, SqL.of hwp, Nat.le_of_lt (Nat.lt_of_le_of_lt (m := 5103) hal2 (by rw [sizeLine_eq]; omega)), fun y hy => ?_, fun zs p hperm np => ?_⟩
      · obtain ⟨i, hi, e⟩ := List.mem_iff_getElem.mp hy
        obtain ⟨b, hb, hT⟩ := hW.2 i y (by rw [List.getElem?_eq_getElem hi, e])
        refine ⟨_, hT.tupV, fun h2 z => ?_⟩
        have hbn : b = [] := by simpa using z
        subst hbn
        have := whole_nil rfl (List.mem_of_getElem? hb)
        rw [hW.1, this] at h2
        simp at h2
      · obtain ⟨ls, h1, h2⟩ := A2.perm hperm hW
        have e5 : Ext H' (upd H' p (.lst zs)) := Ext.new np
        exact q _ p zs ls ((e12.trans eb).trans e5) upd_same (h1.imp fun _ _ zz => Tu.ext zz e5) h2
    · obtain ⟨r0, hr0⟩ := List.exists_mem_of_ne_nil _ hz
      obtain ⟨m, rfl⟩ : ∃ m', m = m' + 1 := ⟨remL Th (play Th e0 (zeroL Th.length) r0).2, (rr.rem r0 hr0).symm⟩
      have hlen : 0 < rows.length := List.length_pos_iff.mpr hz
      rw [hR.1]
      rw [if_pos (show (0 : Int) < ((rows.length : Nat) : Int) by omega)]
      refine ⟨WhI H2 x wp e0 Th m, fun σ2 H2 p => ⟨m, Nat.lt_succ_self _, p⟩, Nat.zero_le _, fun lp0 nlp => ?_⟩
      have hwn : del wp H' wp = none := del_same
      have kpw : Kp H' (del wp H') := Kp.del hwp (fun z => z) (fun ps z => by cases z)
      have hRw : A2 (Tn (del wp H')) its rows := hR.imp fun _ _ z => Tu.kp z kpw
      have hrpw : del wp H' rp = some (.lst its) := by rw [del_ne hne]; exact hrp
      have e2w : Ext H2 (del wp H') := eb.todel nwp
      have hpw : PW (del wp H') x e0 Th := hp.ext (e12.trans e2w)
      have hlw : lp0 ≠ wp := (ne_of_none hwp nlp).symm
      have hwpL : upd H' lp0 (.lst []) wp = some (.lst wits) := by rw [upd_ne hlw.symm]; exact hwp
      have hWL : A2 (Tn (upd H' lp0 (.lst []))) wits acc := hW.imp fun _ _ z => Tu.ext z (Ext.new nlp)
      have hlpL : upd H' lp0 (.lst []) lp0 = some (.lst []) := upd_same
      have exL : Ext (del wp H') (upd H' lp0 (.lst [])) := Ext.del.trans (Ext.new nlp)
      generalize upd H' lp0 (.lst []) = HL at *
      generalize del wp H' = Hw at *
      refine for_lstT (a := rp) (xs := its) (fun R h => ?_) (exL.1 _ _ hrpw (by simp)) (fun j σ' H'' => ∃ v4 v5 lp lits wits', σ' = [some x, some (.ref rp), some (.ref wp), some (.ref lp), v4, v5, none] ∧ Ext Hw H'' ∧ H'' lp = some (.lst lits) ∧ A2 (Tn H'') lits (longerM Th e0 (zeroL Th.length) (rows.take j)) ∧ H'' wp = some (.lst wits') ∧ A2 (Tn H'') wits' (acc ++ endsM Th e0 (zeroL Th.length) (rows.take j)) ∧ lp ≠ wp)
        ⟨v4, v5, lp0, [], wits, rfl, exL, hlpL, A2.nil, hwpL, by simpa [endsM] using hWL, hlw⟩ (fun j σ' H'' ⟨_, _, _, _, _, _, e, _⟩ => e.1 _ _ hrpw (by simp)) ?_ ?_
      · simp only [tVar, tC, tOp, tUn, tTest, tChain, tNil, tCons, tTup, tLst, tCall, tMake, tCB, tIf, tAndV, tOrV, tNotV, tIsN, tNotN, tB, tAnd, tOr, tNot, tNext, tSeq, tDrop, tRet, tRetN, tIfS, tNever, gName, gNil, gCons, gSub, tAsg, tAug, tAugS, ipI, tBM, tBM0, tSl, tNoPart, tPart, tDGet, tDIn, tDNotIn, tDGet1, sDPut, tMth, tDNewT, tDNewK, tYes, rI0, rI, rU, rAdd, rSub, rEq, rNe, L2.start, List.map_cons, List.map_nil, List.length_cons, List.length_nil, List.replicate, List.append_nil, List.nil_append, List.cons_append, List.getElem?_cons_zero, List.getElem?_cons_succ, List.set_cons_zero, List.set_cons_succ, Option.some.injEq, V.int.injEq, V.bl.injEq, V.ref.injEq, V.str.injEq, exists_eq_left', exists_eq_left, exists_and_left, true_and, and_true, Nat.reduceAdd, Nat.reduceSub, Nat.add_one_sub_one, Nat.sub_self, Bool.true_eq_false, Bool.false_eq_true, if_true, if_false, ite_true, ite_false, cxOf, Cx.nox, decide_eq_true_eq, reduceCtorEq, decide_false, decide_true, Bool.not_false, Bool.not_true, eq_self, upd_same, L2.upd_upd, List.cons.injEq, and_assoc]
        exact h
      · rintro j xx σ' H3 hj ⟨v4, v5, lp, lits, wits', rfl, e3, hlp, hL, hwp3, hW3, hlpw⟩
        simp only [tVar, tC, tOp, tUn, tTest, tChain, tNil, tCons, tTup, tLst, tCall, tMake, tCB, tIf, tAndV, tOrV, tNotV, tIsN, tNotN, tB, tAnd, tOr, tNot, tNext, tSeq, tDrop, tRet, tRetN, tIfS, tNever, gName, gNil, gCons, gSub, tAsg, tAug, tAugS, ipI, tBM, tBM0, tSl, tNoPart, tPart, tDGet, tDIn, tDNotIn, tDGet1, sDPut, tMth, tDNewT, tDNewK, tYes, rI0, rI, rU, rAdd, rSub, rEq, rNe, L2.start, List.map_cons, List.map_nil, List.length_cons, List.length_nil, List.replicate, List.append_nil, List.nil_append, List.cons_append, List.getElem?_cons_zero, List.getElem?_cons_succ, List.set_cons_zero, List.set_cons_succ, Option.some.injEq, V.int.injEq, V.bl.injEq, V.ref.injEq, V.str.injEq, exists_eq_left', exists_eq_left, exists_and_left, true_and, and_true, Nat.reduceAdd, Nat.reduceSub, Nat.add_one_sub_one, Nat.sub_self, Bool.true_eq_false, Bool.false_eq_true, if_true, if_false, ite_true, ite_false, cxOf, Cx.nox, decide_eq_true_eq, reduceCtorEq, decide_false, decide_true, Bool.not_false, Bool.not_true, eq_self, upd_same, L2.upd_upd, List.cons.injEq, and_assoc]
        obtain ⟨row, hrow, hTr⟩ := hRw.2 j xx hj
        have hmem := List.mem_of_getElem? hrow
        have htk : rows.take (j + 1) = rows.take j ++ [row] := take_g hrow
        have hk6 : 3 ^ k ≤ 729 := by
          rcases hpow with h | h
          · exact h
          · omega
        have hlt : (longerM Th e0 (zeroL Th.length) (rows.take j)).length ≤ 2187 := by
          have h1 := longerM_len zl n3 (e0 := e0) (rows.take j)
          rw [List.length_take] at h1
          omega
        have hwt : (acc ++ endsM Th e0 (zeroL Th.length) (rows.take j)).length ≤ 6000 := by
          have h1 := endsM_len (Th := Th) (e0 := e0) (d0 := zeroL Th.length) (rows.take j)
          rw [List.length_take] at h1
          rw [List.length_append]
          omega
        have hrw := rem_play row e0 (zeroL Th.length) zl (rr.ok row hmem)
        refine ⟨x, xx, e0, Th, row, rfl, hpw.ext e3, Tu.ext hTr e3, rr.ok row hmem, fun H4 mp e4 nmp hmp => ?_⟩
        have hml : (possL Th (play Th e0 (zeroL Th.length) row).1 (play Th e0 (zeroL Th.length) row).2).length ≤ 3 := possL_len (by rw [play_length]; exact zl) n3
        have hmw : mp ≠ wp := (ne_of_none hwp3 nmp).symm
        have hml2 : mp ≠ lp := (ne_of_none hlp nmp).symm
        have hls := longerM_snoc (Th := Th) (e0 := e0) (d0 := zeroL Th.length) (rows.take j) row
        have hes := endsM_snoc (Th := Th) (e0 := e0) (d0 := zeroL Th.length) (rows.take j) row
        rw [← htk] at hls hes
        rw [hls]
        generalize possL Th (play Th e0 (zeroL Th.length) row).1 (play Th e0 (zeroL Th.length) row).2 = more at *
        have fin : ∀ (H5 : Hp) (ws5 : List V), Ext Hw H5 → H5 lp = some (.lst lits) → A2 (Tn H5) lits (longerM Th e0 (zeroL Th.length) (rows.take j)) → H5 mp = some (.lst (nI more)) → H5 wp = some (.lst ws5) → A2 (Tn H5) ws5 (acc ++ endsM Th e0 (zeroL Th.length) (rows.take (j + 1))) →
            tLc (iList K (tVar 5)) (gName 6) tYes (tOp rCatS (tVar 4) (tTup (tCons (tVar 6) tNil))) [6] [some x, some (V.ref rp), some (V.ref wp), some (V.ref lp), some xx, some (V.ref mp), none] H5 fun y H2 => rCat (V.ref lp) y H2 fun x_1 H1 =>
              ∃ v4 v5 lp, x_1 = V.ref lp ∧ some xx = v4 ∧ some (V.ref mp) = v5 ∧ Ext Hw H1 ∧ ∃ x, H1 lp = some (HO.lst x) ∧ A2 (Tn H1) x (longerM Th e0 (zeroL Th.length) (rows.take j) ++ more.map fun t => row ++ [t]) ∧ ∃ x, H1 wp = some (HO.lst x) ∧ A2 (Tn H1) x (acc ++ endsM Th e0 (zeroL Th.length) (rows.take (j + 1))) ∧ lp ≠ wp := fun H5 ws5 e5 hlp5 hL5 hmp5 hwp5 hW5 => by
          refine lc_lC (K := K) (fun b bs H6 => H6 = H5 ∧ b = mp ∧ bs = nI more) (fun R h => ?_) ?_
          · unfold iList
            simp only [tVar, tC, tOp, tUn, tTest, tChain, tNil, tCons, tTup, tLst, tCall, tMake, tCB, tIf, tAndV, tOrV, tNotV, tIsN, tNotN, tB, tAnd, tOr, tNot, tNext, tSeq, tDrop, tRet, tRetN, tIfS, tNever, gName, gNil, gCons, gSub, tAsg, tAug, tAugS, ipI, tBM, tBM0, tSl, tNoPart, tPart, tDGet, tDIn, tDNotIn, tDGet1, sDPut, tMth, tDNewT, tDNewK, tYes, rI0, rI, rU, rAdd, rSub, rEq, rNe, L2.start, List.map_cons, List.map_nil, List.length_cons, List.length_nil, List.replicate, List.append_nil, List.nil_append, List.cons_append, List.getElem?_cons_zero, List.getElem?_cons_succ, List.set_cons_zero, List.set_cons_succ, Option.some.injEq, V.int.injEq, V.bl.injEq, V.ref.injEq, V.str.injEq, exists_eq_left', exists_eq_left, exists_and_left, true_and, and_true, Nat.reduceAdd, Nat.reduceSub, Nat.add_one_sub_one, Nat.sub_self, Bool.true_eq_false, Bool.false_eq_true, if_true, if_false, ite_true, ite_false, cxOf, Cx.nox, decide_eq_true_eq, reduceCtorEq, decide_false, decide_true, Bool.not_false, Bool.not_true, eq_self, upd_same, L2.upd_upd, List.cons.injEq, and_assoc]
            exact ⟨⟨_, SqL.of hmp5⟩, h mp (nI more) H5 ⟨rfl, rfl, rfl⟩ hmp5⟩
          · rintro b bs H6 ⟨rfl, rfl, rfl⟩ hb D nD
            refine ⟨fun i Hi => Ext H6 Hi ∧ ∃ its', Hi D = some (.lst its') ∧ A2 (Tn Hi) its' ((more.take i).map fun t => row ++ [t]), ⟨Ext.new nD, [], upd_same, A2.nil⟩, fun i Hi ⟨ei, _⟩ => ei.1 _ _ hb (by simp), ?_, ?_⟩
            · rintro i v Hi hi ⟨ei, its', hD, hA⟩
              obtain ⟨t, ht, rfl⟩ := nI_inv hi
              have hti : more.take (i + 1) = more.take i ++ [t] := take_g ht
              simp only [tVar, tC, tOp, tUn, tTest, tChain, tNil, tCons, tTup, tLst, tCall, tMake, tCB, tIf, tAndV, tOrV, tNotV, tIsN, tNotN, tB, tAnd, tOr, tNot, tNext, tSeq, tDrop, tRet, tRetN, tIfS, tNever, gName, gNil, gCons, gSub, tAsg, tAug, tAugS, ipI, tBM, tBM0, tSl, tNoPart, tPart, tDGet, tDIn, tDNotIn, tDGet1, sDPut, tMth, tDNewT, tDNewK, tYes, rI0, rI, rU, rAdd, rSub, rEq, rNe, L2.start, List.map_cons, List.map_nil, List.length_cons, List.length_nil, List.replicate, List.append_nil, List.nil_append, List.cons_append, List.getElem?_cons_zero, List.getElem?_cons_succ, List.set_cons_zero, List.set_cons_succ, Option.some.injEq, V.int.injEq, V.bl.injEq, V.ref.injEq, V.str.injEq, exists_eq_left', exists_eq_left, exists_and_left, true_and, and_true, Nat.reduceAdd, Nat.reduceSub, Nat.add_one_sub_one, Nat.sub_self, Bool.true_eq_false, Bool.false_eq_true, if_true, if_false, ite_true, ite_false, cxOf, Cx.nox, decide_eq_true_eq, reduceCtorEq, decide_false, decide_true, Bool.not_false, Bool.not_true, eq_self, upd_same, L2.upd_upd, List.cons.injEq, and_assoc, wipe]
              refine ⟨szN (by decide), fun p np => ?_⟩
              have ep : Ext Hi (upd Hi p (.tup [V.int (t : Nat)])) := Ext.new np
              have hpT : Tn (upd Hi p (.tup [V.int (t : Nat)])) (.ref p) [t] := ⟨p, rfl, upd_same⟩
              generalize upd Hi p (.tup [V.int (t : Nat)]) = Hj at *
              refine ⟨nI row, nI [t], Tu.ext hTr ((e5.trans ei).trans ep), hpT, szN (by rw [nI_length]; show row.length + 1 ≤ 1000; omega), fun z Hk ek hz => ?_⟩
              have hz : Tn Hk z (row ++ [t]) := by
                unfold Tn; rw [nI_append]; exact hz
              have hDk := (ep.trans ek).1 _ _ hD (by simp)
              have hil : its'.length ≤ 3 := by
                rw [hA.1, List.length_map, List.length_take]; omega
              have kk := Kp.lst (o := .lst (its' ++ [z])) hDk
              refine ⟨its', hDk, small1000 (by omega), ((ei.trans ep).trans ek).upd nD, its' ++ [z], rfl, ?_⟩
              rw [hti, List.map_append]
              exact A2.snoc (hA.imp fun _ _ zz => Tu.kp (Tu.ext zz (ep.trans ek)) kk) (Tu.kp hz kk)
            · rintro Hi ⟨ei, its', hD, hA⟩
              rw [nI_length, List.take_length] at hA
              have hlpi := ei.1 _ _ hlp5 (by simp)
              have hil : its'.length ≤ 3 := by
                rw [hA.1, List.length_map]; omega
              refine ⟨lp, D, lits, its', rfl, rfl, hlpi, hD, Nat.le_of_lt (Nat.lt_of_le_of_lt (m := 3000) (by rw [hL5.1]; omega) (by rw [sizeLine_eq]; omega)), fun p np => ?_⟩
              have ep : Ext Hi (upd Hi p (.lst (lits ++ its'))) := Ext.new np
              have hwpi := (ei.trans ep).1 _ _ hwp5 (by simp)
              exact ⟨some xx, some (V.ref b), p, rfl, rfl, rfl, (e5.trans ei).trans ep, lits ++ its', upd_same, (hL5.imp fun _ _ zz => Tu.ext zz (ei.trans ep)).app (hA.imp fun _ _ zz => Tu.ext zz ep), ws5, hwpi, hW5.imp fun _ _ zz => Tu.ext zz (ei.trans ep), (ne_of_none (ei.1 _ _ hwp5 (by simp)) np).symm⟩
        have hlp4 := e4.1 _ _ hlp (by simp)
        have hwp4 := e4.1 _ _ hwp3 (by simp)
        have hL4 := hL.imp fun _ _ zz => Tu.ext zz e4
        have hW4 := hW3.imp fun _ _ zz => Tu.ext zz e4
        refine ls_len hmp ⟨rfl, ?_⟩
        rw [nI_length]
        by_cases hm0 : more = []
        · subst hm0
          rw [if_pos rfl] at hes
          rw [if_pos (by simp)]
          refine ⟨ty_list hwp4, ap_listL hwp4 (by rw [hW4.1]; omega) ?_⟩
          have kk := Kp.lst (o := .lst (wits' ++ [xx])) hwp4
          refine fin (upd H4 wp (.lst (wits' ++ [xx]))) (wits' ++ [xx]) ((e3.trans e4).upd hwn) (by rw [upd_ne hlpw]; exact hlp4) (hL4.imp fun _ _ zz => Tu.kp zz kk) (by rw [upd_ne hmw]; exact hmp) upd_same ?_
          rw [hes, ← List.append_assoc]
          exact A2.snoc (hW4.imp fun _ _ zz => Tu.kp zz kk) (Tu.kp (Tu.ext hTr (e3.trans e4)) kk)
        · rw [if_neg hm0, List.append_nil] at hes
          rw [if_neg (by
            have := List.length_pos_iff.mpr hm0
            simp only [V.int.injEq]; omega)]
          exact fin H4 wits' (e3.trans e4) hlp4 hL4 hmp hwp4 (by rw [hes]; exact hW4)
      · rintro σ' H3 ⟨v4, v5, lp, lits, wits', rfl, e3, hlp, hL, hwp3, hW3, hlpw⟩
        simp only [tVar, tC, tOp, tUn, tTest, tChain, tNil, tCons, tTup, tLst, tCall, tMake, tCB, tIf, tAndV, tOrV, tNotV, tIsN, tNotN, tB, tAnd, tOr, tNot, tNext, tSeq, tDrop, tRet, tRetN, tIfS, tNever, gName, gNil, gCons, gSub, tAsg, tAug, tAugS, ipI, tBM, tBM0, tSl, tNoPart, tPart, tDGet, tDIn, tDNotIn, tDGet1, sDPut, tMth, tDNewT, tDNewK, tYes, rI0, rI, rU, rAdd, rSub, rEq, rNe, L2.start, List.map_cons, List.map_nil, List.length_cons, List.length_nil, List.replicate, List.append_nil, List.nil_append, List.cons_append, List.getElem?_cons_zero, List.getElem?_cons_succ, List.set_cons_zero, List.set_cons_succ, Option.some.injEq, V.int.injEq, V.bl.injEq, V.ref.injEq, V.str.injEq, exists_eq_left', exists_eq_left, exists_and_left, true_and, and_true, Nat.reduceAdd, Nat.reduceSub, Nat.add_one_sub_one, Nat.sub_self, Bool.true_eq_false, Bool.false_eq_true, if_true, if_false, ite_true, ite_false, cxOf, Cx.nox, decide_eq_true_eq, reduceCtorEq, decide_false, decide_true, Bool.not_false, Bool.not_true, eq_self, upd_same, L2.upd_upd, List.cons.injEq, and_assoc]
        rw [hR.1, List.take_length] at hL hW3
        obtain ⟨f, rfl⟩ : ∃ f', f = f' + 1 := ⟨f - 1, by omega⟩
        unfold wholeM at hwl
        rw [if_neg hz] at hwl
        have hk6 : 3 ^ k ≤ 729 := by
          rcases hpow with h | h
          · exact h
          · omega
        have h1 := longerM_len zl n3 (e0 := e0) rows
        have h2 := endsM_len (Th := Th) (e0 := e0) (d0 := zeroL Th.length) rows
        exact ⟨_, v4, v5, lp, lits, _, wits', _, f, k + 1, rfl, e2w.trans e3, hlp, hL, hwp3, hW3, hlpw, rr.next zl, by omega, hwl, by omega, by rw [Nat.pow_succ]; omega, by rw [List.length_append]; omega⟩
end
end TW

set_option maxHeartbeats 8000000
/-! TwZ: _law_by_thread; lists of lists of tuples compared. -/
namespace TW
open PySem PySem.Spec PyProof.Rows L2
open TC hiding Step Env
theorem eqv_all {α : Type} (f : α → PyData) (h : ∀ a, PyData.eqv (f a) (f a) = true) : ∀ l : List α, PyData.eqvAll (l.map f) (l.map f) = true
  | [] => by simp [PyData.eqvAll]
  | a :: l => by simp only [List.map_cons, PyData.eqvAll, h a, eqv_all f h l, Bool.and_self]
theorem lay_all {α : Type} (f : α → PyData) (h : ∀ a, PyData.canLay0 (f a) = true) : ∀ l : List α, PyData.canLayAll0 (l.map f) = true
  | [] => by simp [PyData.canLayAll0]
  | a :: l => by simp only [List.map_cons, PyData.canLayAll0, h a, lay_all f h l, Bool.and_self]
theorem dep_all {α : Type} (f : α → PyData) (n : Nat) (h : ∀ a, (f a).depth ≤ n) : ∀ l : List α, PyData.depthAll (l.map f) ≤ n
  | [] => by simp [PyData.depthAll]
  | a :: l => by
    have h1 := h a
    have h2 := dep_all f n h l
    simp only [List.map_cons, PyData.depthAll]
    omega
theorem dN_lay (ns : List Nat) : PyData.canLay0 (dN ns) = true := by
  simp only [dN, PyData.canLay0]; exact layN ns
theorem dN_dep (ns : List Nat) : (dN ns).depth ≤ 2 := by
  have := depN ns
  simp only [dN, PyData.depth]; omega
def dM (rs : List (List Nat)) : PyData := .list (rs.map dN)
def dB (ls : List (List (List Nat))) : PyData := .list (ls.map dM)
theorem eqv_dM (rs : List (List Nat)) : PyData.eqv (dM rs) (dM rs) = true := by
  unfold dM
  rw [PyData.eqv]
  exact eqv_all dN (fun a => by rw [eqv_dN]; simp) rs
theorem eqv_dB (ls : List (List (List Nat))) : PyData.eqv (dB ls) (dB ls) = true := by
  unfold dB
  rw [PyData.eqv]
  exact eqv_all dM eqv_dM ls
theorem shapB (ls : List (List (List Nat))) : SeqAt.shaped (dB ls) = true := by
  show (PyData.canLay0 (dB ls) && decide ((dB ls).depth ≤ 64)) = true
  have h1 : ∀ rs, PyData.canLay0 (dM rs) = true := fun rs => by
    simp only [dM, PyData.canLay0]; exact lay_all dN dN_lay rs
  have h2 : ∀ rs, (dM rs).depth ≤ 3 := fun rs => by
    have := dep_all dN 2 dN_dep rs
    simp only [dM, PyData.depth]; omega
  rw [Bool.and_eq_true]
  refine ⟨by simp only [dB, PyData.canLay0]; exact lay_all dM h1 ls, decide_eq_true ?_⟩
  have := dep_all dM 3 h2 ls
  simp only [dB, PyData.depth]; omega
theorem dp_all {α : Type} {K : PySem.W.Frag} {H : Hp} {R : V → α → Prop} (f : α → PyData) (h : ∀ x a, R x a → Dp K H x (f a)) : ∀ {xs : List V} {l : List α}, A2 R xs l → DpAll K H xs (l.map f)
  | [], [], _ => .nil
  | [], a :: l, q => by have := q.1; simp at this
  | x :: xs, [], q => by have := q.1; simp at this
  | x :: xs, a :: l, q => .cons (h _ _ q.cons.1) (dp_all f h q.cons.2)
/-- a list of tuples of numbers -/
def LN (H : Hp) (v : V) (l : List (List Nat)) : Prop := ∃ a ys, v = .ref a ∧ H a = some (.lst ys) ∧ A2 (Tn H) ys l
/-- a list of such lists -/
def LL (H : Hp) (v : V) (ls : List (List (List Nat))) : Prop := ∃ a its, v = .ref a ∧ H a = some (.lst its) ∧ A2 (LN H) its ls
theorem LN.ext {H H' : Hp} {v : V} {l : List (List Nat)} (h : LN H v l) (e : Ext H H') : LN H' v l := by
  obtain ⟨a, ys, rfl, h1, h2⟩ := h
  exact ⟨a, ys, rfl, e.1 _ _ h1 (by simp), h2.imp fun _ _ z => Tu.ext z e⟩
theorem LL.ext {H H' : Hp} {v : V} {ls : List (List (List Nat))} (h : LL H v ls) (e : Ext H H') : LL H' v ls := by
  obtain ⟨a, ys, rfl, h1, h2⟩ := h
  exact ⟨a, ys, rfl, e.1 _ _ h1 (by simp), h2.imp fun _ _ z => z.ext e⟩
theorem LN.dp {K : PySem.W.Frag} {H : Hp} {v : V} {l : List (List Nat)} (h : LN H v l) : Dp K H v (dM l) := by
  obtain ⟨a, ys, rfl, h1, h2⟩ := h
  exact .lst (SqL.of h1) (dp_all dN (fun _ _ z => Tn.dp z) h2)
theorem LL.dp {K : PySem.W.Frag} {H : Hp} {v : V} {l : List (List (List Nat))} (h : LL H v l) : Dp K H v (dB l) := by
  obtain ⟨a, ys, rfl, h1, h2⟩ := h
  exact .lst (SqL.of h1) (dp_all dM (fun _ _ z => z.dp) h2)
/-- two of them that are alike -/
theorem ne_LL {K : PySem.W.Frag} {H : Hp} {x y : V} {ls : List (List (List Nat))} {Q : VK} (hx : LL H x ls) (hy : LL H y ls) (q : Q (.bl false) H) : rNeD K x y H Q := ⟨dB ls, dB ls, hx.dp, hy.dp, shapB _, shapB _, by rw [eqv_dB]; exact q⟩
section
variable {P : Program} {w : World} {K : PySem.W.Frag} {mg : Str → Option Value} {base : Heap}
abbrev sByT : Stmt := tx 37
abbrev nByT : List Str := ["_law_schedule", "_law_rows", "_law_found", "_law_t", "_law_k"]
def spByT : Sp := fun vs H Q _ => ∃ y z ws rs, vs = [y, z] ∧ Tn H y ws ∧ TT2 H z rs ∧ rs.length = ws.length ∧ ws.length ≤ 900 ∧ ∀ H' v, Ext H H' → LL H' v ((List.range 3).map (byT ws rs)) → Q v H'
theorem scByT : FnScope nByT ["_law_schedule", "_law_rows"] (defScope sByT) := ⟨rfl, rfl, rfl, by decide +kernel, rfl, by decide +kernel, by decide +kernel⟩
theorem ok_byt {f : Addr} {fd : FuncData} (F : Fun K "_law_by_thread" "_law_by_thread" sByT f fd) (B : Bt mg) : FnOk P w K mg base CX0 1 f fd ["_law_schedule", "_law_rows"] spByT := by
  refine F.ok scByT (fun vs H Q E h => ?_) (fun cdv A outer s H vs Q E hr h => ?_)
  · obtain ⟨y, z, ws, rs, rfl, _⟩ := h
    rfl
  · obtain ⟨y, z, ws, rs, rfl, hw, hz, hl, h9, q⟩ := h
    refine ⟨_, pss_cons (ps_set (i := 2) scByT.nd rfl (Or.inl rfl) (pe_lst pa_nil))
      (pss_cons (ps_for PassesOwn.never rfl (pi_range1 (by rfl) B.range (pa_cons pe_int pa_nil)) (pg_name (i := 3) scByT.nd rfl (.inr rfl))
        (pss_one (ps_expr (pe_bm PySem.F.plainAttrs_list PySem.F.slot_list_append PySem.F.type_list_append mt_append (pv 2) (pa_cons (pe_lc (own := [("_law_k", 4)]) (g := gName 4) (tt := tTest (tOp rEq (tOp (rIxT K) (tVar 0) (tVar 4)) (tVar 3))) (te := tOp (rIxT K) (tVar 1) (tVar 4)) rfl scByT.nd
          (pi_range1 (by rfl) B.range (pa_cons (pe_callB call_len (by rfl) B.len PySem.boot_len (pa_cons (pv 1) pa_nil)) pa_nil)) (blkOk_by (N := nByT) (sc := defScope sByT) (by decide +kernel))
          (fun _ _ _ _ _ => pg_name (i := 4) scByT.nd rfl (.inl rfl)) (fun _ _ _ _ _ => pts_one (pt_cmpR op_eq (pe_ix ix_tup (pv 0) (pv 4) (fun _ _ => rfl)) (pv 3) (nomark _))) (fun _ _ _ _ _ => pe_ix ix_tup (pv 1) (pv 4) (fun _ _ => rfl))) pa_nil)))))
      (pss_one (ps_ret (pv 2)))), ?_⟩
    simp only [tVar, tC, tOp, tUn, tTest, tChain, tNil, tCons, tTup, tLst, tCall, tMake, tCB, tIf, tAndV, tOrV, tNotV, tIsN, tNotN, tB, tAnd, tOr, tNot, tNext, tSeq, tDrop, tRet, tRetN, tIfS, tNever, gName, gNil, gCons, gSub, tAsg, tAug, tAugS, ipI, tBM, tBM0, tSl, tNoPart, tPart, tDGet, tDIn, tDNotIn, tDGet1, sDPut, tMth, tDNewT, tDNewK, tYes, rI0, rI, rU, rAdd, rSub, rEq, rNe, L2.start, List.map_cons, List.map_nil, List.length_cons, List.length_nil, List.replicate, List.append_nil, List.nil_append, List.cons_append, List.getElem?_cons_zero, List.getElem?_cons_succ, List.set_cons_zero, List.set_cons_succ, Option.some.injEq, V.int.injEq, V.bl.injEq, V.ref.injEq, V.str.injEq, exists_eq_left', exists_eq_left, exists_and_left, true_and, and_true, Nat.reduceAdd, Nat.reduceSub, Nat.add_one_sub_one, Nat.sub_self, Bool.true_eq_false, Bool.false_eq_true, if_true, if_false, ite_true, ite_false, cxOf, Cx.nox, decide_eq_true_eq, reduceCtorEq, decide_false, decide_true, Bool.not_false, Bool.not_true, eq_self, upd_same, L2.upd_upd, List.cons.injEq, and_assoc]
    refine ⟨Nat.zero_le _, fun p np => ?_⟩
    obtain ⟨rits, hzt, hzA⟩ := id hz
    have hrl : rits.length = ws.length := by rw [hzA.1, hl]
    refine for_rngT (n := 3) (fun R h => ?_) (by omega) (fun i σ' H' => ∃ v3, σ' = [some y, some z, some (.ref p), v3, none] ∧ Ext H H' ∧ ∃ its, H' p = some (.lst its) ∧ A2 (fun v l => v ≠ .ref p ∧ LN H' v l) its ((List.range i).map (byT ws rs)))
      ⟨none, rfl, Ext.new np, [], upd_same, A2.nil⟩ ?_ ?_
    · simp only [tVar, tC, tOp, tUn, tTest, tChain, tNil, tCons, tTup, tLst, tCall, tMake, tCB, tIf, tAndV, tOrV, tNotV, tIsN, tNotN, tB, tAnd, tOr, tNot, tNext, tSeq, tDrop, tRet, tRetN, tIfS, tNever, gName, gNil, gCons, gSub, tAsg, tAug, tAugS, ipI, tBM, tBM0, tSl, tNoPart, tPart, tDGet, tDIn, tDNotIn, tDGet1, sDPut, tMth, tDNewT, tDNewK, tYes, rI0, rI, rU, rAdd, rSub, rEq, rNe, L2.start, List.map_cons, List.map_nil, List.length_cons, List.length_nil, List.replicate, List.append_nil, List.nil_append, List.cons_append, List.getElem?_cons_zero, List.getElem?_cons_succ, List.set_cons_zero, List.set_cons_succ, Option.some.injEq, V.int.injEq, V.bl.injEq, V.ref.injEq, V.str.injEq, exists_eq_left', exists_eq_left, exists_and_left, true_and, and_true, Nat.reduceAdd, Nat.reduceSub, Nat.add_one_sub_one, Nat.sub_self, Bool.true_eq_false, Bool.false_eq_true, if_true, if_false, ite_true, ite_false, cxOf, Cx.nox, decide_eq_true_eq, reduceCtorEq, decide_false, decide_true, Bool.not_false, Bool.not_true, eq_self, upd_same, L2.upd_upd, List.cons.injEq, and_assoc]
      exact h
    · rintro i σ' H' hi ⟨v3, rfl, eb, its, hpH, hA⟩
      simp only [tVar, tC, tOp, tUn, tTest, tChain, tNil, tCons, tTup, tLst, tCall, tMake, tCB, tIf, tAndV, tOrV, tNotV, tIsN, tNotN, tB, tAnd, tOr, tNot, tNext, tSeq, tDrop, tRet, tRetN, tIfS, tNever, gName, gNil, gCons, gSub, tAsg, tAug, tAugS, ipI, tBM, tBM0, tSl, tNoPart, tPart, tDGet, tDIn, tDNotIn, tDGet1, sDPut, tMth, tDNewT, tDNewK, tYes, rI0, rI, rU, rAdd, rSub, rEq, rNe, L2.start, List.map_cons, List.map_nil, List.length_cons, List.length_nil, List.replicate, List.append_nil, List.nil_append, List.cons_append, List.getElem?_cons_zero, List.getElem?_cons_succ, List.set_cons_zero, List.set_cons_succ, Option.some.injEq, V.int.injEq, V.bl.injEq, V.ref.injEq, V.str.injEq, exists_eq_left', exists_eq_left, exists_and_left, true_and, and_true, Nat.reduceAdd, Nat.reduceSub, Nat.add_one_sub_one, Nat.sub_self, Bool.true_eq_false, Bool.false_eq_true, if_true, if_false, ite_true, ite_false, cxOf, Cx.nox, decide_eq_true_eq, reduceCtorEq, decide_false, decide_true, Bool.not_false, Bool.not_true, eq_self, upd_same, L2.upd_upd, List.cons.injEq, and_assoc]
      have hil : its.length ≤ 3 := by rw [hA.1, List.length_map, List.length_range]; omega
      refine ⟨ty_list hpH, lc_w (J := Itr 0 ws.length) (n := ws.length) (H1 := H') (fun R h => ?_) walk_range fun D nD => ⟨fun j Hj => Ext H' Hj ∧ ∃ ys, Hj D = some (.lst ys) ∧ A2 (Tn Hj) ys (((List.range j).filter fun k => decide (ws.getD k 0 = i)).map fun k => rs.getD k []),
        ⟨Ext.new nD, [], upd_same, A2.nil⟩, fun _ _ _ => trivial, ?_, ?_⟩⟩
      · unfold iRng1
        simp only [tVar, tC, tOp, tUn, tTest, tChain, tNil, tCons, tTup, tLst, tCall, tMake, tCB, tIf, tAndV, tOrV, tNotV, tIsN, tNotN, tB, tAnd, tOr, tNot, tNext, tSeq, tDrop, tRet, tRetN, tIfS, tNever, gName, gNil, gCons, gSub, tAsg, tAug, tAugS, ipI, tBM, tBM0, tSl, tNoPart, tPart, tDGet, tDIn, tDNotIn, tDGet1, sDPut, tMth, tDNewT, tDNewK, tYes, rI0, rI, rU, rAdd, rSub, rEq, rNe, L2.start, List.map_cons, List.map_nil, List.length_cons, List.length_nil, List.replicate, List.append_nil, List.nil_append, List.cons_append, List.getElem?_cons_zero, List.getElem?_cons_succ, List.set_cons_zero, List.set_cons_succ, Option.some.injEq, V.int.injEq, V.bl.injEq, V.ref.injEq, V.str.injEq, exists_eq_left', exists_eq_left, exists_and_left, true_and, and_true, Nat.reduceAdd, Nat.reduceSub, Nat.add_one_sub_one, Nat.sub_self, Bool.true_eq_false, Bool.false_eq_true, if_true, if_false, ite_true, ite_false, cxOf, Cx.nox, decide_eq_true_eq, reduceCtorEq, decide_false, decide_true, Bool.not_false, Bool.not_true, eq_self, upd_same, L2.upd_upd, List.cons.injEq, and_assoc]
        refine tu_len (hzt.ext eb) ?_
        rw [hrl]
        exact ⟨_, rfl, by omega, by omega, by rw [Int.toNat_natCast]; exact h⟩
      · rintro j xx Hj _ hj ⟨ej, ys, hD, hY⟩ ⟨rfl, rfl⟩
        simp only [tVar, tC, tOp, tUn, tTest, tChain, tNil, tCons, tTup, tLst, tCall, tMake, tCB, tIf, tAndV, tOrV, tNotV, tIsN, tNotN, tB, tAnd, tOr, tNot, tNext, tSeq, tDrop, tRet, tRetN, tIfS, tNever, gName, gNil, gCons, gSub, tAsg, tAug, tAugS, ipI, tBM, tBM0, tSl, tNoPart, tPart, tDGet, tDIn, tDNotIn, tDGet1, sDPut, tMth, tDNewT, tDNewK, tYes, rI0, rI, rU, rAdd, rSub, rEq, rNe, L2.start, List.map_cons, List.map_nil, List.length_cons, List.length_nil, List.replicate, List.append_nil, List.nil_append, List.cons_append, List.getElem?_cons_zero, List.getElem?_cons_succ, List.set_cons_zero, List.set_cons_succ, Option.some.injEq, V.int.injEq, V.bl.injEq, V.ref.injEq, V.str.injEq, exists_eq_left', exists_eq_left, exists_and_left, true_and, and_true, Nat.reduceAdd, Nat.reduceSub, Nat.add_one_sub_one, Nat.sub_self, Bool.true_eq_false, Bool.false_eq_true, if_true, if_false, ite_true, ite_false, cxOf, Cx.nox, decide_eq_true_eq, reduceCtorEq, decide_false, decide_true, Bool.not_false, Bool.not_true, eq_self, upd_same, L2.upd_upd, List.cons.injEq, and_assoc, wipe, Int.zero_add]
        obtain ⟨t, ht⟩ := eq_at hj
        obtain ⟨r, hr⟩ := eq_at (show j < rs.length by omega)
        obtain ⟨rv, hrv, hT⟩ := hzA.at hr
        have e2 := eb.trans ej
        have hgt : ws.getD j 0 = t := by rw [List.getD_eq_getElem?_getD, ht]; rfl
        have hgr : rs.getD j [] = r := by rw [List.getD_eq_getElem?_getD, hr]; rfl
        refine tu_ix j (hw.ext e2) (nI_at ht) ⟨rfl, ?_⟩
        refine ifd (fun h => ?_) (fun h => ?_)
        · have h : t = i := by
            have h := h
            simp only [V.int.injEq] at h
            omega
          refine tu_ix j (hzt.ext e2) hrv ⟨_, hD, small1000 ?_, ej.upd nD, _, rfl, ?_⟩
          · rw [hY.1, List.length_map]
            have := List.length_filter_le (fun k => decide (ws.getD k 0 = i)) (List.range j)
            rw [List.length_range] at this
            omega
          · have kk := Kp.lst (o := .lst (ys ++ [rv])) hD
            have : ((List.range (j + 1)).filter fun k => decide (ws.getD k 0 = i)).map (fun k => rs.getD k []) = ((List.range j).filter fun k => decide (ws.getD k 0 = i)).map (fun k => rs.getD k []) ++ [r] := by
              rw [List.range_succ, List.filter_append, List.map_append, List.filter_cons, if_pos (by simp only [hgt, h, decide_true])]
              simp only [List.filter_nil, List.map_cons, List.map_nil, hgr]
            rw [this]
            exact A2.snoc (hY.imp fun _ _ zz => Tu.kp zz kk) (Tu.kp (Tu.ext hT e2) kk)
        · have h : ¬ t = i := fun z => h (by rw [z])
          refine ⟨ej, ys, hD, ?_⟩
          have : ((List.range (j + 1)).filter fun k => decide (ws.getD k 0 = i)).map (fun k => rs.getD k []) = ((List.range j).filter fun k => decide (ws.getD k 0 = i)).map (fun k => rs.getD k []) := by
            rw [List.range_succ, List.filter_append, List.map_append, List.filter_cons, if_neg (by simp only [hgt, h, decide_false]; exact Bool.false_ne_true)]
            simp only [List.filter_nil, List.map_nil, List.append_nil]
          rw [this]; exact hY
      · rintro Hm ⟨em, ys, hD, hY⟩
        have hpm := em.1 _ _ hpH (by simp)
        have hDp : V.ref D ≠ V.ref p := fun z => by cases z; rw [hpH] at nD; cases nD
        refine ap_list hpm (by omega) ⟨(eb.trans em).upd np, its ++ [V.ref D], upd_same, ?_⟩
        rw [List.range_succ, List.map_append]
        have kk := Kp.lst (o := .lst (its ++ [V.ref D])) hpm
        have st : ∀ {v : V} {l : List (List Nat)}, v ≠ .ref p → LN Hm v l → LN (upd Hm p (.lst (its ++ [V.ref D]))) v l := fun {v l} hv ⟨a, ys, e, h1, h2⟩ => by
          subst e
          exact ⟨a, ys, rfl, by rw [upd_ne (fun z => hv (by rw [z]))]; exact h1, h2.imp fun _ _ zz => Tu.kp zz kk⟩
        refine A2.snoc (hA.imp fun _ _ h => ⟨h.1, st h.1 (h.2.ext em)⟩) ⟨hDp, st hDp ⟨D, ys, rfl, hD, ?_⟩⟩
        unfold byT
        rw [hl]; exact hY
    · rintro σ' H' ⟨v3, rfl, eb, its, hpH, hA⟩
      simp only [tVar, tC, tOp, tUn, tTest, tChain, tNil, tCons, tTup, tLst, tCall, tMake, tCB, tIf, tAndV, tOrV, tNotV, tIsN, tNotN, tB, tAnd, tOr, tNot, tNext, tSeq, tDrop, tRet, tRetN, tIfS, tNever, gName, gNil, gCons, gSub, tAsg, tAug, tAugS, ipI, tBM, tBM0, tSl, tNoPart, tPart, tDGet, tDIn, tDNotIn, tDGet1, sDPut, tMth, tDNewT, tDNewK, tYes, rI0, rI, rU, rAdd, rSub, rEq, rNe, L2.start, List.map_cons, List.map_nil, List.length_cons, List.length_nil, List.replicate, List.append_nil, List.nil_append, List.cons_append, List.getElem?_cons_zero, List.getElem?_cons_succ, List.set_cons_zero, List.set_cons_succ, Option.some.injEq, V.int.injEq, V.bl.injEq, V.ref.injEq, V.str.injEq, exists_eq_left', exists_eq_left, exists_and_left, true_and, and_true, Nat.reduceAdd, Nat.reduceSub, Nat.add_one_sub_one, Nat.sub_self, Bool.true_eq_false, Bool.false_eq_true, if_true, if_false, ite_true, ite_false, cxOf, Cx.nox, decide_eq_true_eq, reduceCtorEq, decide_false, decide_true, Bool.not_false, Bool.not_true, eq_self, upd_same, L2.upd_upd, List.cons.injEq, and_assoc]
      exact q H' _ eb ⟨p, its, rfl, hpH, hA.imp fun _ _ h => h.2⟩
end
end TW

set_option maxHeartbeats 8000000
/-! TyA: _law_program. -/
namespace TW
open PySem PySem.Spec PyProof.Rows L2
open TC hiding Step Env
theorem Box.ext {H H' : Hp} {b dl : Addr} {ds : List Int} {n : Nat} (h : Box H b dl ds n) (e : Ext H H') : Box H' b dl ds n := ⟨e.1 _ _ h.1 (by simp), e.1 _ _ h.2.1 (by simp), h.2.2⟩
/-- a heap with the box in it, behind a base without it -/
def BX (Hb : Hp) (b dl : Addr) (ds : List Int) (H : Hp) : Prop := Ext Hb H ∧ ∃ n, Box H b dl ds n
theorem BX.ext {Hb H H' : Hp} {b dl : Addr} {ds : List Int} (h : BX Hb b dl ds H) (e : Ext H H') : BX Hb b dl ds H' := by
  obtain ⟨h1, n, h2⟩ := h
  exact ⟨h1.trans e, n, h2.ext e⟩
theorem BX.upd {Hb H : Hp} {b dl D : Addr} {ds : List Int} {o : HO} (h : BX Hb b dl ds H) (n : Hb D = none) (d : D ≠ b ∧ D ≠ dl) : BX Hb b dl ds (L2.upd H D o) := by
  obtain ⟨h1, k, h2, h3, h4⟩ := h
  exact ⟨h1.upd n, k, by rw [upd_ne d.1.symm]; exact h2, by rw [upd_ne d.2.symm]; exact h3, h4⟩
theorem BX.ne {Hb H : Hp} {b dl D : Addr} {ds : List Int} (h : BX Hb b dl ds H) (n : H D = none) : D ≠ b ∧ D ≠ dl := by
  obtain ⟨h1, k, h2, h3, h4⟩ := h
  exact ⟨(ne_of_none h2 n).symm, (ne_of_none h3 n).symm⟩
theorem for_rngTC {ta : TA} {g : TG} {tb : TS} {D : Ends} {σ : L2.St} {H : Hp} (C : Nat → Hp → Prop) (hta : ∀ R : List V → Hp → Prop, (∀ n H1, C n H1 → R [V.int (n : Nat)] H1) → ta σ H R)
    (h : ∀ n H1, C n H1 → n ≤ 1000 ∧ ∃ Pv : Nat → L2.St → Hp → Prop, Pv 0 σ H1 ∧
      (∀ (i : Nat) (σ' : L2.St) (H' : Hp), i < n → Pv i σ' H' → g (.int (i : Nat)) σ' H' fun σ2 H2 => tb { D with nx := Pv (i + 1), ct := Pv (i + 1), bk := D.nx } σ2 H2) ∧
      ∀ σ' H', Pv n σ' H' → D.nx σ' H') : tFor (iRng1 ta) g tb D σ H := by
  unfold tFor iRng1
  refine hta _ fun n H1 hC => ?_
  obtain ⟨hn, Pv, h0, hs, hd⟩ := h n H1 hC
  refine ⟨n, rfl, by omega, by omega, ?_⟩
  rw [Int.toNat_natCast]
  refine for_it walk_range Pv h0 (fun i σ' H' _ p => trivial) (fun i x σ' H' H'' hi p y => ?_) hd
  obtain ⟨e1, e2⟩ := y
  subst e1 e2
  simp only [Int.zero_add]
  exact hs i σ' _ hi p
/-- _law_draw -/
theorem draw_B {Hb H : Hp} {b dl : Addr} {ds : List Int} {m : Int} {Q : VK} {E : XK} (k : Nat) (hm : m = (k : Int)) (hb : Hb b = none) (h : BX Hb b dl ds H) (h0 : 0 < k) (q : ∀ (r : Nat) H', r < k → BX Hb b dl ds H' → Kp H H' → (∀ a, a ≠ b → H' a = H a) → Q (.int (r : Nat)) H') : spDraw [.ref b, .int m] H Q E := by
  obtain ⟨h1, n, h2⟩ := h
  subst hm
  refine ⟨b, dl, ds, n, k, rfl, h0, h2, fun r hr hB => q r _ hr ⟨h1.upd hb, _, hB⟩ (Kp.set h2.1 (fun z => z) (fun ps z => by cases z)) fun a ha => upd_ne ha⟩
/-- the names -/
structure Nms (z : Str) (cs : List Nat) : Prop where
  cps : z.cps.toList = cs
  nd : cs.Nodup
  n1 : 1 ≤ cs.length
  n3 : cs.length ≤ 3
theorem nms_of {r : Nat} (h : r < 3) : ∃ z cs, ([V.str "x", V.str "xy", V.str "xyz"] : List V)[r]? = some (.str z) ∧ Nms z cs := by
  match r, h with
  | 0, _ => exact ⟨_, [120], rfl, by decide +kernel, by decide, by decide, by decide⟩
  | 1, _ => exact ⟨_, [120, 121], rfl, by decide +kernel, by decide, by decide, by decide⟩
  | 2, _ => exact ⟨_, [120, 121, 122], rfl, by decide +kernel, by decide, by decide, by decide⟩
/-- threads whose steps name but these -/
def ThOk (cs : List Nat) (l : List TC.Step) : Prop := l.length ≤ 2 ∧ ∀ s ∈ l, ∀ c ∈ tch s, c ∈ cs
section
variable {P : Program} {w : World} {K : PySem.W.Frag} {mg : Str → Option Value} {base : Heap}
abbrev CDraw (P : Program) (w : World) (K : PySem.W.Frag) (mg : Str → Option Value) (base : Heap) : Prop := Cal P w K mg base 1 "_law_draw" ["_law_box", "_law_many"] spDraw
abbrev sProg : Stmt := tx 32
abbrev nProg : List Str := ["_law_box", "_law_threads", "_law_most", "_law_names", "_law_values", "_law_rows", "_law_t", "_law_steps", "_law_k", "_law_name", "_law_other", "_law_kind"]
def spProg : Sp := fun vs H Q _ => ∃ (b dl : Addr) (ds : List Int) (Hb : Hp), vs = [.ref b, .int 3, .int 2] ∧ Hb b = none ∧ BX Hb b dl ds H ∧ ∀ H' x e0 Th, BX Hb b dl ds H' → Kp H H' → PW H' x e0 Th → e0 ≠ [] → Q x H'
theorem scProg : FnScope nProg ["_law_box", "_law_threads", "_law_most"] (defScope sProg) := ⟨rfl, rfl, rfl, by decide +kernel, rfl, by decide +kernel, by decide +kernel⟩
theorem ok_prog {f : Addr} {fd : FuncData} (F : Fun K "_law_program" "_law_program" sProg f fd) (B : Bt mg) (c1 : CDraw P w K mg base) : FnOk P w K mg base CX0 2 f fd ["_law_box", "_law_threads", "_law_most"] spProg := by
  refine F.ok scProg (fun vs H Q E h => ?_) (fun cdv A outer s H vs Q E hr h => ?_)
  · obtain ⟨b, dl, ds, Hb, rfl, _⟩ := h
    rfl
  · obtain ⟨b, dl, ds, Hb, rfl, hbb, hB, q⟩ := h
    refine ⟨_, pss_cons (ps_set (i := 3) scProg.nd rfl (Or.inl rfl) (pe_ix ix_list (pe_lst (pa_cons pe_str (pa_cons pe_str (pa_cons pe_str pa_nil)))) (pe_cal c1 hr rfl (pa_cons (pv 0) (pa_cons pe_int pa_nil))) (fun _ _ => rfl)))
      (pss_cons (ps_set (i := 4) scProg.nd rfl (Or.inl rfl) (pe_callTy cr_tupF (by rfl) B.tuple (by decide +kernel) (pa_cons (pe_lc (own := [("_law_name", 9)]) (g := gName 9) (tt := tYes) (te := tTup (tCons (tVar 9) (tCons (tOp rSub (tCall spDraw [] E0 (tCons (tVar 0) (tCons (tC (.int 3)) tNil))) (tC (.int 1))) tNil))) rfl scProg.nd (pi_str (pv 3)) (blkOk_by (N := nProg) (sc := defScope sProg) (by decide +kernel))
          (fun _ _ _ _ _ => pg_name (i := 9) scProg.nd rfl (.inl rfl)) (fun _ _ _ _ _ => pts_nil) (fun _ _ _ _ _ => pe_tup (pa_cons (pv 9) (pa_cons (pe_op op_sub (pe_cal c1 hr rfl (pa_cons (pv 0) (pa_cons pe_int pa_nil))) pe_int) pa_nil)))) pa_nil)))
      (pss_cons (ps_set (i := 5) scProg.nd rfl (Or.inl rfl) (pe_lst pa_nil))
      (pss_cons (ps_for PassesOwn.never rfl (pi_range1 (by rfl) B.range (pa_cons (pe_op op_add pe_int (pe_cal c1 hr rfl (pa_cons (pv 0) (pa_cons (pv 1) pa_nil)))) pa_nil)) (pg_name (i := 6) scProg.nd rfl (.inl rfl))
        (pss_cons (ps_set (i := 7) scProg.nd rfl (Or.inl rfl) (pe_lst pa_nil))
        (pss_cons (ps_for PassesOwn.never rfl (pi_range1 (by rfl) B.range (pa_cons (pe_cal c1 hr rfl (pa_cons (pv 0) (pa_cons (pe_op op_add (pv 2) pe_int) pa_nil))) pa_nil)) (pg_name (i := 8) scProg.nd rfl (.inl rfl))
          (pss_cons (ps_set (i := 9) scProg.nd rfl (Or.inl rfl) (pe_ix ix_str (pv 3) (pe_cal c1 hr rfl (pa_cons (pv 0) (pa_cons (pe_callB call_len_str (by rfl) B.len PySem.boot_len (pa_cons (pv 3) pa_nil)) pa_nil))) (fun _ _ => rfl)))
          (pss_cons (ps_set (i := 10) scProg.nd rfl (Or.inl rfl) (pe_ix ix_str (pv 3) (pe_cal c1 hr rfl (pa_cons (pv 0) (pa_cons (pe_callB call_len_str (by rfl) B.len PySem.boot_len (pa_cons (pv 3) pa_nil)) pa_nil))) (fun _ _ => rfl)))
          (pss_cons (ps_set (i := 11) scProg.nd rfl (Or.inl rfl) (pe_cal c1 hr rfl (pa_cons (pv 0) (pa_cons pe_int pa_nil))))
          (pss_one (ps_if (pt_cmpR op_lt (pv 11) pe_int (nomark _))
            (pss_one (ps_expr (pe_bm PySem.F.plainAttrs_list PySem.F.slot_list_append PySem.F.type_list_append mt_append (pv 7) (pa_cons (pe_tup (pa_cons pe_str (pa_cons (pv 9) (pa_cons (pe_op op_sub (pe_cal c1 hr rfl (pa_cons (pv 0) (pa_cons pe_int pa_nil))) pe_int) pa_nil)))) pa_nil))))
            (pss_one (ps_if (pt_cmpR op_lt (pv 11) pe_int (nomark _))
              (pss_one (ps_expr (pe_bm PySem.F.plainAttrs_list PySem.F.slot_list_append PySem.F.type_list_append mt_append (pv 7) (pa_cons (pe_tup (pa_cons pe_str (pa_cons (pv 9) (pa_cons (pv 10) pa_nil)))) pa_nil))))
              (pss_one (ps_if (pt_cmpR op_lt (pv 11) pe_int (nomark _))
                (pss_one (ps_expr (pe_bm PySem.F.plainAttrs_list PySem.F.slot_list_append PySem.F.type_list_append mt_append (pv 7) (pa_cons (pe_tup (pa_cons pe_str (pa_cons (pv 9) (pa_cons (pe_op op_sub (pe_cal c1 hr rfl (pa_cons (pv 0) (pa_cons pe_int pa_nil))) pe_int) pa_nil)))) pa_nil))))
                (pss_one (ps_expr (pe_bm PySem.F.plainAttrs_list PySem.F.slot_list_append PySem.F.type_list_append mt_append (pv 7) (pa_cons (pe_tup (pa_cons pe_str (pa_cons (pv 9) pa_nil))) pa_nil))))))))))))))
        (pss_one (ps_expr (pe_bm PySem.F.plainAttrs_list PySem.F.slot_list_append PySem.F.type_list_append mt_append (pv 5) (pa_cons (pe_callTy cr_tupL (by rfl) B.tuple (by decide +kernel) (pa_cons (pv 7) pa_nil)) pa_nil)))))))
      (pss_one (ps_ret (pe_tup (pa_cons pe_str (pa_cons (pv 4) (pa_cons (pe_callTy cr_tupL (by rfl) B.tuple (by decide +kernel) (pa_cons (pv 5) pa_nil)) pa_nil))))))))), ?_⟩
    simp only [tVar, tC, tOp, tUn, tTest, tChain, tNil, tCons, tTup, tLst, tCall, tMake, tCB, tIf, tAndV, tOrV, tNotV, tIsN, tNotN, tB, tAnd, tOr, tNot, tNext, tSeq, tDrop, tRet, tRetN, tIfS, tNever, gName, gNil, gCons, gSub, tAsg, tAug, tAugS, ipI, tBM, tBM0, tSl, tNoPart, tPart, tDGet, tDIn, tDNotIn, tDGet1, sDPut, tMth, tDNewT, tDNewK, tYes, rI0, rI, rU, rAdd, rSub, rEq, rNe, L2.start, List.map_cons, List.map_nil, List.length_cons, List.length_nil, List.replicate, List.append_nil, List.nil_append, List.cons_append, List.getElem?_cons_zero, List.getElem?_cons_succ, List.set_cons_zero, List.set_cons_succ, Option.some.injEq, V.int.injEq, V.bl.injEq, V.ref.injEq, V.str.injEq, exists_eq_left', exists_eq_left, exists_and_left, true_and, and_true, Nat.reduceAdd, Nat.reduceSub, Nat.add_one_sub_one, Nat.sub_self, Bool.true_eq_false, Bool.false_eq_true, if_true, if_false, ite_true, ite_false, cxOf, Cx.nox, decide_eq_true_eq, reduceCtorEq, decide_false, decide_true, Bool.not_false, Bool.not_true, eq_self, upd_same, L2.upd_upd, List.cons.injEq, and_assoc]
    obtain ⟨hx0, n0, hbox⟩ := id hB
    refine ⟨szN (by decide), fun nl nnl => ?_⟩
    have hnb := hB.ne nnl
    have e1 : Ext H (upd H nl (.lst [V.str "x", V.str "xy", V.str "xyz"])) := Ext.new nnl
    have hnl : upd H nl (.lst [V.str "x", V.str "xy", V.str "xyz"]) nl = some (.lst [V.str "x", V.str "xy", V.str "xyz"]) := upd_same
    have hB1 := hB.ext e1
    generalize upd H nl (.lst [V.str "x", V.str "xy", V.str "xyz"]) = H1 at *
    refine draw_B 3 rfl hbb hB1 (by decide) fun r H2 hr3 hB2 k2 o2 => ?_
    have k02 : Kp H H2 := e1.kp.trans k2
    have hnl2 : H2 nl = some (.lst [V.str "x", V.str "xy", V.str "xyz"]) := by rw [o2 nl hnb.1]; exact hnl
    obtain ⟨z, cs, hz, hN⟩ := nms_of hr3
    refine ls_ix r hnl2 hz ?_
    have hzl : z.cps.size = cs.length := by rw [← hN.cps, Array.length_toList]
    have hat : ∀ {j c : Nat}, z.cps[j]? = some c → cs[j]? = some c := fun {j c} h => by rw [← hN.cps, Array.getElem?_toList]; exact h
    refine lc_w (J := Its z) (n := z.cps.size) (H1 := H2) (fun R h => ?_) walk_str fun D nD => ⟨fun j Hj => BX Hb b dl ds Hj ∧ Kp H2 Hj ∧ ∃ its e, Hj D = some (.lst its) ∧ A2 (pairP Hj) its e ∧ dom e = cs.take j,
      ⟨hB2.ext (Ext.new nD), (Ext.new nD).kp, [], [], upd_same, A2.nil, rfl⟩, fun _ _ _ => trivial, ?_, ?_⟩
    · unfold iStr
      simp only [tVar, tC, tOp, tUn, tTest, tChain, tNil, tCons, tTup, tLst, tCall, tMake, tCB, tIf, tAndV, tOrV, tNotV, tIsN, tNotN, tB, tAnd, tOr, tNot, tNext, tSeq, tDrop, tRet, tRetN, tIfS, tNever, gName, gNil, gCons, gSub, tAsg, tAug, tAugS, ipI, tBM, tBM0, tSl, tNoPart, tPart, tDGet, tDIn, tDNotIn, tDGet1, sDPut, tMth, tDNewT, tDNewK, tYes, rI0, rI, rU, rAdd, rSub, rEq, rNe, L2.start, List.map_cons, List.map_nil, List.length_cons, List.length_nil, List.replicate, List.append_nil, List.nil_append, List.cons_append, List.getElem?_cons_zero, List.getElem?_cons_succ, List.set_cons_zero, List.set_cons_succ, Option.some.injEq, V.int.injEq, V.bl.injEq, V.ref.injEq, V.str.injEq, exists_eq_left', exists_eq_left, exists_and_left, true_and, and_true, Nat.reduceAdd, Nat.reduceSub, Nat.add_one_sub_one, Nat.sub_self, Bool.true_eq_false, Bool.false_eq_true, if_true, if_false, ite_true, ite_false, cxOf, Cx.nox, decide_eq_true_eq, reduceCtorEq, decide_false, decide_true, Bool.not_false, Bool.not_true, eq_self, upd_same, L2.upd_upd, List.cons.injEq, and_assoc]
      exact h
    · rintro j xx Hj _ hj ⟨hBj, kj, its, e, hD, hA, hdom⟩ ⟨rfl, c, hc, rfl⟩
      simp only [tVar, tC, tOp, tUn, tTest, tChain, tNil, tCons, tTup, tLst, tCall, tMake, tCB, tIf, tAndV, tOrV, tNotV, tIsN, tNotN, tB, tAnd, tOr, tNot, tNext, tSeq, tDrop, tRet, tRetN, tIfS, tNever, gName, gNil, gCons, gSub, tAsg, tAug, tAugS, ipI, tBM, tBM0, tSl, tNoPart, tPart, tDGet, tDIn, tDNotIn, tDGet1, sDPut, tMth, tDNewT, tDNewK, tYes, rI0, rI, rU, rAdd, rSub, rEq, rNe, L2.start, List.map_cons, List.map_nil, List.length_cons, List.length_nil, List.replicate, List.append_nil, List.nil_append, List.cons_append, List.getElem?_cons_zero, List.getElem?_cons_succ, List.set_cons_zero, List.set_cons_succ, Option.some.injEq, V.int.injEq, V.bl.injEq, V.ref.injEq, V.str.injEq, exists_eq_left', exists_eq_left, exists_and_left, true_and, and_true, Nat.reduceAdd, Nat.reduceSub, Nat.add_one_sub_one, Nat.sub_self, Bool.true_eq_false, Bool.false_eq_true, if_true, if_false, ite_true, ite_false, cxOf, Cx.nox, decide_eq_true_eq, reduceCtorEq, decide_false, decide_true, Bool.not_false, Bool.not_true, eq_self, upd_same, L2.upd_upd, List.cons.injEq, and_assoc, wipe]
      refine draw_B 3 rfl hbb hBj (by decide) fun r' Hk hr' hBk kk ok => ?_
      have hcs := hat hc
      have hbD := hB2.ne nD
      refine ⟨_, rfl, szN (by decide), fun p np => ?_⟩
      have ep : Ext Hk (upd Hk p (.tup [V.str ⟨#[c]⟩, V.int ((r' : Nat) - 1)])) := Ext.new np
      have hT : pairP (upd Hk p (.tup [V.str ⟨#[c]⟩, V.int ((r' : Nat) - 1)])) (.ref p) (c, ((r' : Nat) : Int) - 1) := ⟨p, rfl, upd_same⟩
      have hDk : upd Hk p (.tup [V.str ⟨#[c]⟩, V.int ((r' : Nat) - 1)]) D = some (.lst its) := ep.1 _ _ (by rw [ok D hbD.1]; exact hD) (by simp)
      generalize upd Hk p (.tup [V.str ⟨#[c]⟩, V.int ((r' : Nat) - 1)]) = Hj2 at *
      have kj2 := kk.trans ep.kp
      have kq := Kp.lst (o := .lst (its ++ [V.ref p])) hDk
      have hil : its.length ≤ 3 := by
        have h1 := congrArg List.length hdom
        rw [List.length_take] at h1
        have h2 : (dom e).length = e.length := by simp [dom]
        have h3 := hN.n3
        rw [hA.1]; omega
      refine ⟨its, hDk, small1000 (by omega), (hBk.ext ep).upd (hB2.1.free nD) hbD, (kj.trans kj2).trans kq, its ++ [V.ref p], rfl, e ++ [(c, ((r' : Nat) : Int) - 1)], A2.snoc (hA.imp fun _ _ zz => Tu.kp zz (kj2.trans kq)) (Tu.kp hT kq), ?_⟩
      rw [take_g hcs, ← hdom]
      simp [dom]
    · rintro Hm ⟨hBm, km, its, e0, hD, hA, hdom⟩
      have hbD : D ≠ b ∧ D ≠ dl := hB2.ne nD
      rw [hzl, List.take_length] at hdom
      refine ⟨D, its, rfl, SqL.of hD, fun v o nv ho => ?_⟩
      have e3 : Ext Hm (upd Hm v (.frz o (.tup its))) := Ext.new nv
      have hPt : Pt (upd Hm v (.frz o (.tup its))) (.ref v) its := ⟨v, o, rfl, upd_same, ho⟩
      have hPA : A2 (pairP (upd Hm v (.frz o (.tup its)))) its e0 := hA.imp fun _ _ zz => Tu.ext zz e3
      have hB3 := hBm.ext e3
      have k03 := (k02.trans km).trans e3.kp
      generalize upd Hm v (.frz o (.tup its)) = H3 at *
      refine ⟨Nat.zero_le _, fun rp nrp => ?_⟩
      have hrb := hB3.ne nrp
      have hbr : Hb rp = none := hB3.1.free nrp
      have hB4 := hB3.ext (Ext.new (o := .lst []) nrp)
      have k34 : Kp H3 (upd H3 rp (.lst [])) := (Ext.new nrp).kp
      have hrp4 : upd H3 rp (.lst []) rp = some (.lst []) := upd_same
      generalize upd H3 rp (.lst []) = H4 at *
      refine for_rngTC (fun n H1 => 1 ≤ n ∧ n ≤ 3 ∧ BX Hb b dl ds H1 ∧ Kp H3 H1 ∧ H1 rp = some (.lst [])) (fun R h => ?_) ?_
      · simp only [tVar, tC, tOp, tUn, tTest, tChain, tNil, tCons, tTup, tLst, tCall, tMake, tCB, tIf, tAndV, tOrV, tNotV, tIsN, tNotN, tB, tAnd, tOr, tNot, tNext, tSeq, tDrop, tRet, tRetN, tIfS, tNever, gName, gNil, gCons, gSub, tAsg, tAug, tAugS, ipI, tBM, tBM0, tSl, tNoPart, tPart, tDGet, tDIn, tDNotIn, tDGet1, sDPut, tMth, tDNewT, tDNewK, tYes, rI0, rI, rU, rAdd, rSub, rEq, rNe, L2.start, List.map_cons, List.map_nil, List.length_cons, List.length_nil, List.replicate, List.append_nil, List.nil_append, List.cons_append, List.getElem?_cons_zero, List.getElem?_cons_succ, List.set_cons_zero, List.set_cons_succ, Option.some.injEq, V.int.injEq, V.bl.injEq, V.ref.injEq, V.str.injEq, exists_eq_left', exists_eq_left, exists_and_left, true_and, and_true, Nat.reduceAdd, Nat.reduceSub, Nat.add_one_sub_one, Nat.sub_self, Bool.true_eq_false, Bool.false_eq_true, if_true, if_false, ite_true, ite_false, cxOf, Cx.nox, decide_eq_true_eq, reduceCtorEq, decide_false, decide_true, Bool.not_false, Bool.not_true, eq_self, upd_same, L2.upd_upd, List.cons.injEq, and_assoc]
        refine draw_B 3 rfl hbb hB4 (by decide) fun r' H5 hr' hB5 k45 o5 => ⟨_, rfl, ?_⟩
        rw [show (1 : Int) + ((r' : Nat) : Int) = ((1 + r' : Nat) : Int) by omega]
        exact h _ _ ⟨by omega, by omega, hB5, k34.trans k45, by rw [o5 rp hrb.1]; exact hrp4⟩
      · rintro n H5 ⟨hn1, hn3, hB5, k35, hrp5⟩
        refine ⟨by omega, fun i σ' H' => ∃ v6 v7 v8 v9 v10 v11, σ' = [some (.ref b), some (.int 3), some (.int 2), some (.str z), some (.ref v), some (.ref rp), v6, v7, v8, v9, v10, v11] ∧ BX Hb b dl ds H' ∧ Kp H3 H' ∧ ∃ rits Th, H' rp = some (.lst rits) ∧ A2 (rowP H') rits Th ∧ Th.length = i ∧ ∀ l ∈ Th, ThOk cs l,
          ⟨none, none, none, none, none, none, rfl, hB5, k35, [], [], hrp5, A2.nil, rfl, fun l hl => by simp at hl⟩, ?_, ?_⟩
        · rintro i σ' H' hi ⟨v6, v7, v8, v9, v10, v11, rfl, hB', k3', rits, Th, hrp', hR, hTl, hTh⟩
          simp only [tVar, tC, tOp, tUn, tTest, tChain, tNil, tCons, tTup, tLst, tCall, tMake, tCB, tIf, tAndV, tOrV, tNotV, tIsN, tNotN, tB, tAnd, tOr, tNot, tNext, tSeq, tDrop, tRet, tRetN, tIfS, tNever, gName, gNil, gCons, gSub, tAsg, tAug, tAugS, ipI, tBM, tBM0, tSl, tNoPart, tPart, tDGet, tDIn, tDNotIn, tDGet1, sDPut, tMth, tDNewT, tDNewK, tYes, rI0, rI, rU, rAdd, rSub, rEq, rNe, L2.start, List.map_cons, List.map_nil, List.length_cons, List.length_nil, List.replicate, List.append_nil, List.nil_append, List.cons_append, List.getElem?_cons_zero, List.getElem?_cons_succ, List.set_cons_zero, List.set_cons_succ, Option.some.injEq, V.int.injEq, V.bl.injEq, V.ref.injEq, V.str.injEq, exists_eq_left', exists_eq_left, exists_and_left, true_and, and_true, Nat.reduceAdd, Nat.reduceSub, Nat.add_one_sub_one, Nat.sub_self, Bool.true_eq_false, Bool.false_eq_true, if_true, if_false, ite_true, ite_false, cxOf, Cx.nox, decide_eq_true_eq, reduceCtorEq, decide_false, decide_true, Bool.not_false, Bool.not_true, eq_self, upd_same, L2.upd_upd, List.cons.injEq, and_assoc]
          refine ⟨Nat.zero_le _, fun sp nsp => ?_⟩
          have hsb := hB'.ne nsp
          have hbs : Hb sp = none := hB'.1.free nsp
          have hsr : sp ≠ rp := (ne_of_none hrp' nsp).symm
          have hB6 := hB'.ext (Ext.new (o := .lst []) nsp)
          have k6 : Kp H' (upd H' sp (.lst [])) := (Ext.new nsp).kp
          have hsp6 : upd H' sp (.lst []) sp = some (.lst []) := upd_same
          have hrp6 : upd H' sp (.lst []) rp = some (.lst rits) := by rw [upd_ne hsr.symm]; exact hrp'
          generalize upd H' sp (.lst []) = H6 at *
          refine for_rngTC (fun n H1 => n ≤ 2 ∧ BX Hb b dl ds H1 ∧ Kp H' H1 ∧ H1 rp = some (.lst rits) ∧ H1 sp = some (.lst [])) (fun R h => ?_) ?_
          · simp only [tVar, tC, tOp, tUn, tTest, tChain, tNil, tCons, tTup, tLst, tCall, tMake, tCB, tIf, tAndV, tOrV, tNotV, tIsN, tNotN, tB, tAnd, tOr, tNot, tNext, tSeq, tDrop, tRet, tRetN, tIfS, tNever, gName, gNil, gCons, gSub, tAsg, tAug, tAugS, ipI, tBM, tBM0, tSl, tNoPart, tPart, tDGet, tDIn, tDNotIn, tDGet1, sDPut, tMth, tDNewT, tDNewK, tYes, rI0, rI, rU, rAdd, rSub, rEq, rNe, L2.start, List.map_cons, List.map_nil, List.length_cons, List.length_nil, List.replicate, List.append_nil, List.nil_append, List.cons_append, List.getElem?_cons_zero, List.getElem?_cons_succ, List.set_cons_zero, List.set_cons_succ, Option.some.injEq, V.int.injEq, V.bl.injEq, V.ref.injEq, V.str.injEq, exists_eq_left', exists_eq_left, exists_and_left, true_and, and_true, Nat.reduceAdd, Nat.reduceSub, Nat.add_one_sub_one, Nat.sub_self, Bool.true_eq_false, Bool.false_eq_true, if_true, if_false, ite_true, ite_false, cxOf, Cx.nox, decide_eq_true_eq, reduceCtorEq, decide_false, decide_true, Bool.not_false, Bool.not_true, eq_self, upd_same, L2.upd_upd, List.cons.injEq, and_assoc]
            exact draw_B 3 rfl hbb hB6 (by decide) fun r' H7 hr' hB7 k67 o7 => h _ _ ⟨by omega, hB7, k6.trans k67, by rw [o7 rp hrb.1]; exact hrp6, by rw [o7 sp hsb.1]; exact hsp6⟩
          · rintro n' H7 ⟨hn', hB7, k7, hrp7, hsp7⟩
            refine ⟨by omega, fun j σ' H'' => ∃ v8 v9 v10 v11, σ' = [some (.ref b), some (.int 3), some (.int 2), some (.str z), some (.ref v), some (.ref rp), some (.int (i : Nat)), some (.ref sp), v8, v9, v10, v11] ∧ BX Hb b dl ds H'' ∧ Kp H' H'' ∧ H'' rp = some (.lst rits) ∧ ∃ sits l, H'' sp = some (.lst sits) ∧ A2 (fun s st => Tu H'' s (stepV st)) sits l ∧ l.length = j ∧ ∀ s ∈ l, ∀ c ∈ tch s, c ∈ cs,
              ⟨v8, v9, v10, v11, rfl, hB7, k7, hrp7, [], [], hsp7, A2.nil, rfl, fun s hs => by simp at hs⟩, ?_, ?_⟩
            · rintro j σ' H8 hj ⟨v8, v9, v10, v11, rfl, hB8, k8, hrp8, sits, l, hsp8, hS, hSl, hSn⟩
              simp only [tVar, tC, tOp, tUn, tTest, tChain, tNil, tCons, tTup, tLst, tCall, tMake, tCB, tIf, tAndV, tOrV, tNotV, tIsN, tNotN, tB, tAnd, tOr, tNot, tNext, tSeq, tDrop, tRet, tRetN, tIfS, tNever, gName, gNil, gCons, gSub, tAsg, tAug, tAugS, ipI, tBM, tBM0, tSl, tNoPart, tPart, tDGet, tDIn, tDNotIn, tDGet1, sDPut, tMth, tDNewT, tDNewK, tYes, rI0, rI, rU, rAdd, rSub, rEq, rNe, L2.start, List.map_cons, List.map_nil, List.length_cons, List.length_nil, List.replicate, List.append_nil, List.nil_append, List.cons_append, List.getElem?_cons_zero, List.getElem?_cons_succ, List.set_cons_zero, List.set_cons_succ, Option.some.injEq, V.int.injEq, V.bl.injEq, V.ref.injEq, V.str.injEq, exists_eq_left', exists_eq_left, exists_and_left, true_and, and_true, Nat.reduceAdd, Nat.reduceSub, Nat.add_one_sub_one, Nat.sub_self, Bool.true_eq_false, Bool.false_eq_true, if_true, if_false, ite_true, ite_false, cxOf, Cx.nox, decide_eq_true_eq, reduceCtorEq, decide_false, decide_true, Bool.not_false, Bool.not_true, eq_self, upd_same, L2.upd_upd, List.cons.injEq, and_assoc]
              have zl2 : z.length = cs.length := hzl
              have h3 := hN.n3
              have zn : z.length ≤ sizeLine := szN (by omega)
              have pick : ∀ {r' : Nat}, r' < cs.length → ∃ c, atI z.cps.toList (r' : Int) = some c ∧ c ∈ cs := fun {r'} h => by
                obtain ⟨c, hc⟩ := eq_at h
                exact ⟨c, by rw [hN.cps]; exact atI_nat hc, List.mem_of_getElem? hc⟩
              refine ⟨zn, draw_B cs.length (by rw [zl2]) hbb hB8 hN.n1 fun ra H9 hra hB9 k89 o9 => ?_⟩
              obtain ⟨c1, hc1, m1⟩ := pick hra
              refine ⟨z, _, c1, rfl, rfl, zn, hc1, zn, draw_B cs.length (by rw [zl2]) hbb hB9 hN.n1 fun rb H10 hrb' hB10 k910 o10 => ?_⟩
              obtain ⟨c2, hc2, m2⟩ := pick hrb'
              refine ⟨z, _, c2, rfl, rfl, zn, hc2, draw_B 8 rfl hbb hB10 (by decide) fun rk H11 hrk hB11 k1011 o11 => ?_⟩
              have k11 : Kp H8 H11 := (k89.trans k910).trans k1011
              have hsp11 : H11 sp = some (.lst sits) := by rw [o11 sp hsb.1, o10 sp hsb.1, o9 sp hsb.1]; exact hsp8
              have hrp11 : H11 rp = some (.lst rits) := by rw [o11 rp hrb.1, o10 rp hrb.1, o9 rp hrb.1]; exact hrp8
              have fin : ∀ (H12 : Hp) (p : Addr) (st : TC.Step), BX Hb b dl ds H12 → Kp H8 H12 → H12 rp = some (.lst rits) → H12 sp = some (.lst sits) → H12 p = none → (∀ c ∈ tch st, c ∈ cs) → rAppend (V.ref sp) [V.ref p] (upd H12 p (.tup (stepV st))) fun x H1 =>
                  BX Hb b dl ds H1 ∧ Kp H' H1 ∧ H1 rp = some (HO.lst rits) ∧ ∃ sits, H1 sp = some (HO.lst sits) ∧ ∃ x, A2 (fun s st => Tu H1 s (stepV st)) sits x ∧ x.length = j + 1 ∧ ∀ (s : TC.Step), s ∈ x → ∀ (c : Nat), c ∈ tch s → c ∈ cs := fun H12 p st hB12 k12 hrp12 hsp12 np hst => by
                have ep : Ext H12 (upd H12 p (.tup (stepV st))) := Ext.new np
                have hT : Tu (upd H12 p (.tup (stepV st))) (.ref p) (stepV st) := ⟨p, rfl, upd_same⟩
                have hrp13 := ep.1 _ _ hrp12 (by simp)
                have hsp13 := ep.1 _ _ hsp12 (by simp)
                generalize upd H12 p (.tup (stepV st)) = H13 at *
                have kq := Kp.lst (o := .lst (sits ++ [V.ref p])) hsp13
                have k13 := (k12.trans ep.kp).trans kq
                refine ap_listL hsp13 (by rw [hS.1, hSl]; omega) ⟨(hB12.ext ep).upd hbs hsb, k8.trans k13, by rw [upd_ne hsr.symm]; exact hrp13, sits ++ [V.ref p], upd_same, l ++ [st], A2.snoc (hS.imp fun _ _ zz => Tu.kp zz k13) (Tu.kp hT kq), by simp [hSl], fun s hs => ?_⟩
                rcases List.mem_append.mp hs with h | h
                · exact hSn s h
                · rw [List.mem_singleton.mp h]; exact hst
              refine ⟨_, rfl, ifd (fun h => ⟨ty_list hsp11, draw_B 4 rfl hbb hB11 (by decide) fun rv H12 hrv hB12 k12 o12 => ⟨_, rfl, szN (by decide), fun p np => fin H12 p (.add c1 _) hB12 (k11.trans k12) (by rw [o12 rp hrb.1]; exact hrp11) (by rw [o12 sp hsb.1]; exact hsp11) np (fun c hc => ?_)⟩⟩)
                (fun h => ⟨_, rfl, ifd (fun h => ⟨ty_list hsp11, szN (by decide), fun p np => fin H11 p (.copy c1 c2) hB11 k11 hrp11 hsp11 np (fun c hc => ?_)⟩)
                  (fun h => ⟨_, rfl, ifd (fun h => ⟨ty_list hsp11, draw_B 3 rfl hbb hB11 (by decide) fun rv H12 hrv hB12 k12 o12 => ⟨_, rfl, szN (by decide), fun p np => fin H12 p (.wait c1 _) hB12 (k11.trans k12) (by rw [o12 rp hrb.1]; exact hrp11) (by rw [o12 sp hsb.1]; exact hsp11) np (fun c hc => ?_)⟩⟩)
                    (fun h => ⟨ty_list hsp11, szN (by decide), fun p np => fin H11 p (.look c1) hB11 k11 hrp11 hsp11 np (fun c hc => ?_)⟩)⟩)⟩)⟩
              · have : c = c1 := by simpa [tch] using hc
                rw [this]; exact m1
              · have : c = c1 ∨ c = c2 := by simpa [tch] using hc
                rcases this with h | h
                · rw [h]; exact m1
                · rw [h]; exact m2
              · have : c = c1 := by simpa [tch] using hc
                rw [this]; exact m1
              · have : c = c1 := by simpa [tch] using hc
                rw [this]; exact m1
            · rintro σ' H8 ⟨v8, v9, v10, v11, rfl, hB8, k8, hrp8, sits, l, hsp8, hS, hSl, hSn⟩
              simp only [tVar, tC, tOp, tUn, tTest, tChain, tNil, tCons, tTup, tLst, tCall, tMake, tCB, tIf, tAndV, tOrV, tNotV, tIsN, tNotN, tB, tAnd, tOr, tNot, tNext, tSeq, tDrop, tRet, tRetN, tIfS, tNever, gName, gNil, gCons, gSub, tAsg, tAug, tAugS, ipI, tBM, tBM0, tSl, tNoPart, tPart, tDGet, tDIn, tDNotIn, tDGet1, sDPut, tMth, tDNewT, tDNewK, tYes, rI0, rI, rU, rAdd, rSub, rEq, rNe, L2.start, List.map_cons, List.map_nil, List.length_cons, List.length_nil, List.replicate, List.append_nil, List.nil_append, List.cons_append, List.getElem?_cons_zero, List.getElem?_cons_succ, List.set_cons_zero, List.set_cons_succ, Option.some.injEq, V.int.injEq, V.bl.injEq, V.ref.injEq, V.str.injEq, exists_eq_left', exists_eq_left, exists_and_left, true_and, and_true, Nat.reduceAdd, Nat.reduceSub, Nat.add_one_sub_one, Nat.sub_self, Bool.true_eq_false, Bool.false_eq_true, if_true, if_false, ite_true, ite_false, cxOf, Cx.nox, decide_eq_true_eq, reduceCtorEq, decide_false, decide_true, Bool.not_false, Bool.not_true, eq_self, upd_same, L2.upd_upd, List.cons.injEq, and_assoc]
              refine ⟨ty_list hrp8, sp, sits, rfl, SqL.of hsp8, fun t nt => ?_⟩
              have ep : Ext H8 (upd H8 t (.tup sits)) := Ext.new nt
              have hrow : rowP (upd H8 t (.tup sits)) (.ref t) l := ⟨sits, ⟨t, rfl, upd_same⟩, hS.imp fun _ _ zz => Tu.ext zz ep⟩
              have hrp9 := ep.1 _ _ hrp8 (by simp)
              generalize upd H8 t (.tup sits) = H9 at *
              have kq := Kp.lst (o := .lst (rits ++ [V.ref t])) hrp9
              have k9 := (k8.trans ep.kp).trans kq
              refine ap_listL hrp9 (by rw [hR.1, hTl]; omega) ⟨(hB8.ext ep).upd hbr hrb, k3'.trans k9, rits ++ [V.ref t], upd_same, Th ++ [l], A2.snoc (hR.imp fun _ _ zz => zz.kp k9) (hrow.kp kq), by simp [hTl], fun l' hl' => ?_⟩
              rcases List.mem_append.mp hl' with h | h
              · exact hTh l' h
              · rw [List.mem_singleton.mp h]; exact ⟨by omega, hSn⟩
        · rintro σ' H' ⟨v6, v7, v8, v9, v10, v11, rfl, hB', k3', rits, Th, hrp', hR, hTl, hTh⟩
          simp only [tVar, tC, tOp, tUn, tTest, tChain, tNil, tCons, tTup, tLst, tCall, tMake, tCB, tIf, tAndV, tOrV, tNotV, tIsN, tNotN, tB, tAnd, tOr, tNot, tNext, tSeq, tDrop, tRet, tRetN, tIfS, tNever, gName, gNil, gCons, gSub, tAsg, tAug, tAugS, ipI, tBM, tBM0, tSl, tNoPart, tPart, tDGet, tDIn, tDNotIn, tDGet1, sDPut, tMth, tDNewT, tDNewK, tYes, rI0, rI, rU, rAdd, rSub, rEq, rNe, L2.start, List.map_cons, List.map_nil, List.length_cons, List.length_nil, List.replicate, List.append_nil, List.nil_append, List.cons_append, List.getElem?_cons_zero, List.getElem?_cons_succ, List.set_cons_zero, List.set_cons_succ, Option.some.injEq, V.int.injEq, V.bl.injEq, V.ref.injEq, V.str.injEq, exists_eq_left', exists_eq_left, exists_and_left, true_and, and_true, Nat.reduceAdd, Nat.reduceSub, Nat.add_one_sub_one, Nat.sub_self, Bool.true_eq_false, Bool.false_eq_true, if_true, if_false, ite_true, ite_false, cxOf, Cx.nox, decide_eq_true_eq, reduceCtorEq, decide_false, decide_true, Bool.not_false, Bool.not_true, eq_self, upd_same, L2.upd_upd, List.cons.injEq, and_assoc]
          refine ⟨rp, rits, rfl, SqL.of hrp', fun t nt => ⟨szN (by decide), fun p np => ?_⟩⟩
          have ep1 : Ext H' (upd H' t (.tup rits)) := Ext.new nt
          have hT : Tu (upd H' t (.tup rits)) (.ref t) rits := ⟨t, rfl, upd_same⟩
          generalize upd H' t (.tup rits) = H9 at *
          have ep2 : Ext H9 (upd H9 p (.tup [V.str "program", V.ref v, V.ref t])) := Ext.new np
          have hX : Tu (upd H9 p (.tup [V.str "program", V.ref v, V.ref t])) (.ref p) [V.str "program", V.ref v, V.ref t] := ⟨p, rfl, upd_same⟩
          generalize upd H9 p (.tup [V.str "program", V.ref v, V.ref t]) = H10 at *
          have ep := ep1.trans ep2
          have k10 := k3'.trans ep.kp
          have hel : e0.length = cs.length := by
            have h1 := congrArg List.length hdom
            have h2 : (dom e0).length = e0.length := by simp [dom]
            omega
          have h1 := hN.n1
          refine q H10 _ e0 Th (hB'.ext ep) (k03.trans k10) ⟨⟨.ref v, .ref t, its, rits, hX, hPt.kp k10, hPA.imp fun _ _ zz => Tu.kp zz k10, Tu.ext hT ep2, hR.imp fun _ _ zz => zz.kp ep.kp⟩, ⟨by rw [hdom]; exact hN.nd, by rw [hel]; exact hN.n3, fun l hl s hs c hc => by rw [hdom]; exact (hTh l hl).2 s hs c hc⟩, by omega, by omega, fun l hl => (hTh l hl).1⟩ fun z => ?_
          rw [z] at hel
          simp at hel
          omega
end
end TW

set_option maxHeartbeats 8000000
/-! TyB: what the law needs of its answers. -/
namespace TW
open PySem PySem.Spec PyProof.Rows L2
open TC hiding Step Env
def dO : Option (List Nat) → PyData
  | none => .none
  | some l => dN l
theorem OptN.dp {K : PySem.W.Frag} {H : Hp} {v : V} {o : Option (List Nat)} (h : OptN H v o) : Dp K H v (dO o) := by
  cases o with
  | none => cases h; exact .non
  | some l => exact Tn.dp h
theorem OptN.ext {H H' : Hp} {v : V} {o : Option (List Nat)} (h : OptN H v o) (e : Ext H H') : OptN H' v o := by
  cases o with
  | none => exact h
  | some l => exact Tu.ext h e
theorem shapO (o : Option (List Nat)) : SeqAt.shaped (dO o) = true := by
  cases o with
  | none => rfl
  | some l => exact shapN l
theorem eqvO (o : Option (List Nat)) : PyData.eqv (dO o) (dO o) = true := by
  cases o with
  | none => simp [dO, PyData.eqv]
  | some l => show PyData.eqv (dN l) (dN l) = true; rw [eqv_dN]; simp
theorem ne_O {K : PySem.W.Frag} {H : Hp} {x y : V} {o : Option (List Nat)} {Q : VK} (hx : OptN H x o) (hy : OptN H y o) (q : Q (.bl false) H) : rNeD K x y H Q := ⟨dO o, dO o, hx.dp, hy.dp, shapO _, shapO _, by rw [eqvO]; exact q⟩
theorem OptN.isN {H : Hp} {v : V} {o : Option (List Nat)} (h : OptN H v o) : decide (v = .non) = o.isNone := by
  cases o with
  | none => cases h; rfl
  | some l => obtain ⟨a, rfl, _⟩ := h; rfl
theorem lookup_iff {e : TC.Env} {c : Nat} {v : Int} : (dom e).Nodup → (e.lookup c = some v ↔ (c, v) ∈ e) := by
  induction e with
  | nil => intro _; simp
  | cons p e ih =>
    intro nd
    obtain ⟨a, b⟩ := p
    have nd' : a ∉ dom e ∧ (dom e).Nodup := List.nodup_cons.mp nd
    rw [List.lookup_cons]
    by_cases h : c = a
    · subst h
      simp only [beq_self_eq_true, List.mem_cons]
      constructor
      · intro z; cases z; exact .inl rfl
      · rintro (z | z)
        · cases z; rfl
        · exact absurd (List.mem_map.mpr ⟨_, z, rfl⟩) nd'.1
    · have : (c == a) = false := beq_eq_false_iff_ne.mpr h
      rw [this]
      simp only [List.mem_cons]
      rw [ih nd'.2]
      constructor
      · exact .inr
      · rintro (z | z)
        · cases z; exact absurd rfl h
        · exact z
theorem dom_perm {e1 e2 : TC.Env} (h : e1.Perm e2) : (dom e1).Perm (dom e2) := h.map _
theorem eget_perm {e1 e2 : TC.Env} (h : e1.Perm e2) (nd : (dom e2).Nodup) (c : Nat) : eget e1 c = eget e2 c := by
  have nd1 := (dom_perm h).symm.nodup nd
  unfold eget
  congr 1
  apply Option.ext
  intro v
  show e1.lookup c = some v ↔ e2.lookup c = some v
  rw [lookup_iff nd1, lookup_iff nd]
  exact h.mem_iff
theorem fst_inj {e : TC.Env} (nd : (dom e).Nodup) {p q : Nat × Int} (hp : p ∈ e) (hq : q ∈ e) (h : p.1 = q.1) : p = q := by
  obtain ⟨a, b⟩ := p
  obtain ⟨c, d⟩ := q
  have h : a = c := h
  subst h
  have h1 := (lookup_iff nd).mpr hp
  have h2 := (lookup_iff nd).mpr hq
  rw [h1] at h2; cases h2; rfl
theorem env_same {e e1 e2 : TC.Env} (h1 : e1.Perm e) (h2 : e2.Perm e) (nd : (dom e).Nodup) (s1 : e1.Pairwise fun p q => p.1 ≤ q.1) (s2 : e2.Pairwise fun p q => p.1 ≤ q.1) : e1 = e2 := by
  refine List.Perm.eq_of_pairwise (le := fun p q : Nat × Int => p.1 ≤ q.1) (fun a b ha hb hab hba => ?_) s1 s2 (h1.trans h2.symm)
  have hab : a.1 ≤ b.1 := hab
  have hba : b.1 ≤ a.1 := hba
  exact fst_inj nd (h1.mem_iff.mp ha) (h2.mem_iff.mp hb) (Nat.le_antisymm hab hba)
theorem behind_sm {K : PySem.W.Frag} {H : Hp} {v1 v2 : V} {p1 p2 : List V} {e : TC.Env} (h1 : Pt H v1 p1) (a1 : A2 (pairP H) p1 e) (h2 : Pt H v2 p2) (a2 : A2 (pairP H) p2 e) (hl : e.length ≤ 1000) : Sm K H 2 v1 v2 := by
  obtain ⟨a, o, rfl, ha, _⟩ := h1
  obtain ⟨b, o', rfl, hb, _⟩ := h2
  refine ⟨a, b, p1, p2, rfl, rfl, .inr ⟨o, ha⟩, .inr ⟨o', hb⟩, a1.1.trans a2.1.symm, by rw [a2.1]; exact hl, fun i u v hu hv => ?_⟩
  obtain ⟨q, hq, t1⟩ := a1.2 i u hu
  obtain ⟨q', hq', t2⟩ := a2.2 i v hv
  rw [hq] at hq'; cases hq'
  obtain ⟨c, rfl, hc⟩ := t1
  obtain ⟨d, rfl, hd⟩ := t2
  refine ⟨c, d, _, _, rfl, rfl, .inl hc, .inl hd, rfl, (show 2 ≤ 1000 by decide), fun j u v hu hv => ?_⟩
  rw [hu] at hv; cases hv
  match j, hu with
  | 0, hu => cases hu; exact .inr ⟨_, rfl, rfl⟩
  | 1, hu => cases hu; exact .inl ⟨_, rfl, rfl⟩
  | j + 2, hu => simp at hu
theorem any_dN (n : List Nat) : ∀ ls : List (List Nat), ((ls.map dN).any fun z => PyData.eqv z (dN n)) = decide (n ∈ ls)
  | [] => rfl
  | l :: ls => by
    rw [List.map_cons, List.any_cons, any_dN n ls, eqv_dN]
    by_cases e : l = n
    · subst e; simp
    · have e' : ¬ n = l := fun z => e z.symm
      simp [e, e']
theorem shapM (rs : List (List Nat)) : SeqAt.shaped (dM rs) = true := by
  show (PyData.canLay0 (dM rs) && decide ((dM rs).depth ≤ 64)) = true
  rw [Bool.and_eq_true]
  refine ⟨by simp only [dM, PyData.canLay0]; exact lay_all dN dN_lay rs, decide_eq_true ?_⟩
  have := dep_all dN 2 dN_dep rs
  simp only [dM, PyData.depth]; omega
theorem notin_LN {K : PySem.W.Frag} {H : Hp} {x v : V} {n : List Nat} {ls : List (List Nat)} {Q : VK} (hx : Tn H x n) (h : LN H v ls) (q : Q (.bl (!decide (n ∈ ls))) H) : rNotInD K x v H Q :=
  ⟨dN n, ls.map dN, hx.dp, h.dp, shapN _, shapM ls, by rw [any_dN]; exact q⟩
end TW

set_option maxHeartbeats 8000000
/-! TyC: law. -/
namespace TW
open PySem PySem.Spec PyProof.Rows L2
open TC hiding Step Env
theorem OptN.non {H : Hp} {v : V} {o : Option (List Nat)} (h : OptN H v o) (e : v = .non) : o = none := by
  cases o with
  | none => rfl
  | some l => obtain ⟨a, rfl, _⟩ := h; cases e
theorem hu65 {A : Around} {k : Nat} (h : Room k A) : A.units + 65 < cLine := by have := h.un; omega
section
variable {P : Program} {w : World} {K : PySem.W.Frag} {mg : Str → Option Value} {base : Heap}
abbrev CDig (P : Program) (w : World) (K : PySem.W.Frag) (mg : Str → Option Value) (base : Heap) : Prop := Cal P w K mg base 2 "_law_digits" ["_law_script", "_law_first", "_law_last"] (spDig K)
abbrev CProg (P : Program) (w : World) (K : PySem.W.Frag) (mg : Str → Option Value) (base : Heap) : Prop := Cal P w K mg base 2 "_law_program" ["_law_box", "_law_threads", "_law_most"] spProg
abbrev CRn (P : Program) (w : World) (K : PySem.W.Frag) (mg : Str → Option Value) (base : Heap) (Pd : Addr) : Prop := Cal P w K mg base 14 "runs" ["program"] (spRuns Pd)
abbrev CPos (P : Program) (w : World) (K : PySem.W.Frag) (mg : Str → Option Value) (base : Heap) (Pp : Addr) : Prop := Cal P w K mg base 5 "possible" ["program", "schedule"] (spPossL Pp)
abbrev CWhole (P : Program) (w : World) (K : PySem.W.Frag) (mg : Str → Option Value) (base : Heap) : Prop := Cal P w K mg base 4 "_law_whole" ["_law_program_here"] spWhole
abbrev CSame (P : Program) (w : World) (K : PySem.W.Frag) (mg : Str → Option Value) (base : Heap) (Pa Pc : Addr) : Prop := Cal P w K mg base 9 "same_runs" ["program", "schedule", "other"] (spSame Pa Pc)
abbrev CSm (P : Program) (w : World) (K : PySem.W.Frag) (mg : Str → Option Value) (base : Heap) : Prop := Cal P w K mg base 4 "_law_same" ["_law_actual", "_law_expected"] (spSm K 2)
abbrev CBehind (P : Program) (w : World) (K : PySem.W.Frag) (mg : Str → Option Value) (base : Heap) : Prop := Cal P w K mg base 4 "values_behind" ["program", "schedule"] spBehind
abbrev CByT (P : Program) (w : World) (K : PySem.W.Frag) (mg : Str → Option Value) (base : Heap) : Prop := Cal P w K mg base 1 "_law_by_thread" ["_law_schedule", "_law_rows"] spByT
abbrev CSome (P : Program) (w : World) (K : PySem.W.Frag) (mg : Str → Option Value) (base : Heap) (Pa Pc : Addr) : Prop := Cal P w K mg base 8 "some" ["program", "schedule", "condition"] (spSome Pa Pc)
abbrev CEvery (P : Program) (w : World) (K : PySem.W.Frag) (mg : Str → Option Value) (base : Heap) (Pa Pb Pc : Addr) : Prop := Cal P w K mg base 8 "every" ["program", "schedule", "condition"] (spEvery Pa Pb Pc)
abbrev sLaw : Stmt := tx 38
abbrev nLaw : List Str := ["_law_script", "_law_box", "_law_program_here", "_law_listed", "_law_row", "_law_whole_here", "_law_k", "_law_same_here", "_law_other", "_law_condition"]
def spLaw (K : PySem.W.Frag) (Pp Pa Pb Pc Pd : Addr) : Sp := fun vs H Q _ => ∃ (l : Addr) (ns : List Int), vs = [.ref l] ∧ SqL K H l (ns.map V.int) ∧ GxR.TabG H Pp ∧ GxR.TabG H Pa ∧ GxR.TabG H Pb ∧ GxR.TabG H Pc ∧ GxR.TabG H Pd ∧ ∀ H', Q (.bl true) H'
theorem scLaw : FnScope nLaw ["_law_script"] (defScope sLaw) := ⟨rfl, rfl, rfl, by decide +kernel, rfl, by decide +kernel, by decide +kernel⟩
theorem ok_law {f Pp Pa Pb Pc Pd : Addr} {fd : FuncData} (F : Fun K "law" "law" sLaw f fd) (B : Bt mg) (cDig : CDig P w K mg base) (cProg : CProg P w K mg base) (cRuns : CRn P w K mg base Pd) (cPos : CPos P w K mg base Pp) (cWhole : CWhole P w K mg base) (cDraw : CDraw P w K mg base) (cSame : CSame P w K mg base Pa Pc) (cFirst : CFirst P w K mg base Pa Pc) (cSm : CSm P w K mg base) (cBeh : CBehind P w K mg base) (cByT : CByT P w K mg base) (cClk : CClk P w K mg base Pc) (cSome : CSome P w K mg base Pa Pc) (cEvery : CEvery P w K mg base Pa Pb Pc) :
    FnOk P w K mg base CX0 15 f fd ["_law_script"] (spLaw K Pp Pa Pb Pc Pd) := by
  refine F.ok scLaw (fun vs H Q E h => ?_) (fun cdv A outer s H vs Q E hr h => ?_)
  · obtain ⟨l, ns, rfl, _⟩ := h
    rfl
  · obtain ⟨l, ns, rfl, hl, tp, ta, tb, tc, td, q⟩ := h
    have r1 : Room 1 _ := hr.mono (by decide)
    have r2 : Room 2 _ := hr.mono (by decide)
    have r4 : Room 4 _ := hr.mono (by decide)
    have r5 : Room 5 _ := hr.mono (by decide)
    have r8 : Room 8 _ := hr.mono (by decide)
    have r9 : Room 9 _ := hr.mono (by decide)
    refine ⟨_, pss_cons (ps_set (i := 1) scLaw.nd rfl (Or.inl rfl) (pe_lst (pa_cons (pe_cal cDig r2 rfl (pa_cons (pv 0) (pa_cons pe_int (pa_cons pe_int pa_nil)))) (pa_cons pe_int pa_nil)))) (pss_cons (ps_set (i := 2) scLaw.nd rfl (Or.inr rfl) (pe_cal cProg r2 rfl (pa_cons (pv 1) (pa_cons pe_int (pa_cons pe_int pa_nil))))) (pss_cons (ps_set (i := 3) scLaw.nd rfl (Or.inl rfl) (pe_cal cRuns hr rfl (pa_cons (pv 2) pa_nil))) (pss_cons (ps_if (PW.pt (pw_or (pt_not (pt_val (pe_callB call_isi (by rfl) B.isinstance PyProof.Rows.boot_isinstance (pa_cons (pv 3) (pa_cons (pe_bltn (v := .ty "tuple") (by rfl) B.tuple PyProof.Rows.boot_tuple rfl) pa_nil))))) (pw_or1 (pt_cmpR op_eq (pe_callB call_len (by rfl) B.len PySem.boot_len (pa_cons (pv 3) pa_nil)) pe_int (nomark _))))) (pss_one (ps_ret pe_bl)) pss_nil) (pss_cons (ps_for PassesOwn.never rfl (pi_tup (pv 3)) (pg_name (i := 4) scLaw.nd rfl (.inr rfl)) (pss_one (ps_if (pt_cmpR (op_neD (hu64 hr)) (pe_cal cPos r5 rfl (pa_cons (pv 2) (pa_cons (pv 4) pa_nil))) (pe_tup pa_nil) (nomark _)) (pss_one (ps_ret pe_bl)) pss_nil))) (pss_cons (ps_set (i := 5) scLaw.nd rfl (Or.inr rfl) (pe_cal cWhole r4 rfl (pa_cons (pv 2) pa_nil))) (pss_cons (ps_for PassesOwn.never rfl (pi_range1 (by rfl) B.range (pa_cons pe_int pa_nil)) (pg_name (i := 6) scLaw.nd rfl (.inl rfl)) (pss_cons (ps_set (i := 4) scLaw.nd rfl (Or.inr rfl) (pe_ix ix_list (pv 5) (pe_op op_mod (pe_callTy cr_int1 (by rfl) B.int PyProof.Rows.boot_int (pa_cons (pe_cal cDraw r1 rfl (pa_cons (pv 1) (pa_cons pe_int pa_nil))) pa_nil)) (pe_callB call_len (by rfl) B.len PySem.boot_len (pa_cons (pv 5) pa_nil))) (fun _ _ => rfl))) (pss_cons (ps_setLc (i := 7) (own := [("_law_other", 8)]) (g := gName 8) (tt := tB (tCall (spSame Pa Pc) [] E0 (tCons (tVar 2) (tCons (tVar 4) (tCons (tVar 8) tNil))))) (te := tVar 8) rfl scLaw.nd rfl rfl (sw_true rfl rfl rfl (by decide +kernel)) (pi_tup (pv 3)) (blkOk_by (N := nLaw) (sc := defScope sLaw) (by decide +kernel)) (fun _ _ _ _ _ => pg_name (i := 8) scLaw.nd rfl (.inl rfl)) (fun _ _ _ _ _ => pts_one (pt_val (pe_cal cSame r9 rfl (pa_cons (pv 2) (pa_cons (pv 4) (pa_cons (pv 8) pa_nil)))))) (fun _ _ _ _ _ => pv 8)) (pss_cons (ps_if (PW.pt (pw_or (pt_cmpR op_ne (pe_callB call_len (by rfl) B.len PySem.boot_len (pa_cons (pv 7) pa_nil)) pe_int (nomark _)) (pw_or1 (pt_cmpR (op_neD (hu64 hr)) (pe_cal cFirst r8 rfl (pa_cons (pv 2) (pa_cons (pv 4) pa_nil))) (pe_ix ix_list (pv 7) pe_int (fun _ _ => rfl)) (nomark _))))) (pss_one (ps_ret pe_bl)) pss_nil) (pss_cons (ps_if (pt_not (pt_val (pe_cal cSm r4 rfl (pa_cons (pe_cal cBeh r4 rfl (pa_cons (pv 2) (pa_cons (pv 4) pa_nil))) (pa_cons (pe_cal cBeh r4 rfl (pa_cons (pv 2) (pa_cons (pe_ix ix_list (pv 7) pe_int (fun _ _ => rfl)) pa_nil))) pa_nil))))) (pss_one (ps_ret pe_bl)) pss_nil) (pss_cons (ps_if (pt_cmpR (op_neD (hu64 hr)) (pe_cal cByT r1 rfl (pa_cons (pv 4) (pa_cons (pe_cal cClk r5 rfl (pa_cons (pv 2) (pa_cons (pv 4) pa_nil))) pa_nil))) (pe_cal cByT r1 rfl (pa_cons (pe_ix ix_list (pv 7) pe_int (fun _ _ => rfl)) (pa_cons (pe_cal cClk r5 rfl (pa_cons (pv 2) (pa_cons (pe_ix ix_list (pv 7) pe_int (fun _ _ => rfl)) pa_nil))) pa_nil))) (nomark _)) (pss_one (ps_ret pe_bl)) pss_nil) (pss_cons (ps_set (i := 9) scLaw.nd rfl (Or.inl rfl) (pe_tup (pa_cons (pe_ix ix_tup (pe_ix ix_tup (pe_ix ix_tup (pv 2) pe_int (fun _ _ => rfl)) pe_int (fun _ _ => rfl)) pe_int (fun _ _ => rfl)) (pa_cons (pe_op op_sub (pe_cal cDraw r1 rfl (pa_cons (pv 1) (pa_cons pe_int pa_nil))) pe_int) pa_nil)))) (pss_cons (ps_if (pt_cmpR (op_neD (hu64 hr)) (pe_cal cSome r8 rfl (pa_cons (pv 2) (pa_cons (pv 4) (pa_cons (pv 9) pa_nil)))) (pe_cal cSome r8 rfl (pa_cons (pv 2) (pa_cons (pe_ix ix_list (pv 7) pe_int (fun _ _ => rfl)) (pa_cons (pv 9) pa_nil)))) (nomark _)) (pss_one (ps_ret pe_bl)) pss_nil) (pss_cons (ps_if (pt_cmpR (op_neD (hu64 hr)) (pe_cal cEvery r8 rfl (pa_cons (pv 2) (pa_cons (pv 4) (pa_cons (pv 9) pa_nil)))) (pe_cal cEvery r8 rfl (pa_cons (pv 2) (pa_cons (pe_ix ix_list (pv 7) pe_int (fun _ _ => rfl)) (pa_cons (pv 9) pa_nil)))) (nomark _)) (pss_one (ps_ret pe_bl)) pss_nil) (pss_cons (ps_if (PW.pt (pw_and (pt_cmp (pc_isN (pe_cal cEvery r8 rfl (pa_cons (pv 2) (pa_cons (pv 4) (pa_cons (pv 9) pa_nil)))))) (pw_and1 (pt_cmp (pc_isN (pe_cal cSome r8 rfl (pa_cons (pv 2) (pa_cons (pv 4) (pa_cons (pv 9) pa_nil))))))))) (pss_one (ps_ret pe_bl)) pss_nil) (pss_one (ps_if (PW.pt (pw_and (pt_cmpR op_ge (pe_dgetR (hu_of hr) (pe_callTy (cr_dictE rfl) (by rfl) B.dict (by decide +kernel) (pa_cons (pe_cal cBeh r4 rfl (pa_cons (pv 2) (pa_cons (pv 4) pa_nil))) pa_nil)) (pe_ix ix_tup (pv 9) pe_int (fun _ _ => rfl))) (pe_ix ix_tup (pv 9) pe_int (fun _ _ => rfl)) (nomark _)) (pw_and1 (pt_cmp (pc_notN (pe_cal cEvery r8 rfl (pa_cons (pv 2) (pa_cons (pv 4) (pa_cons (pv 9) pa_nil))))))))) (pss_one (ps_ret pe_bl)) pss_nil)))))))))))) (pss_one (ps_ret (pe_cmpR op_eq (pe_callB call_len (by rfl) B.len PySem.boot_len (pa_cons (pe_lc (own := [("_law_row", 4)]) (g := gName 4) (tt := tTest (tOp (rNotInD K) (tVar 4) (tVar 5))) (te := tVar 4) rfl scLaw.nd (pi_tup (pv 3)) (blkOk_by (N := nLaw) (sc := defScope sLaw) (by decide +kernel)) (fun _ _ _ _ _ => pg_name (i := 4) scLaw.nd rfl (.inl rfl)) (fun _ _ _ _ _ => pts_one (pt_cmpR (op_notInD (hu65 hr)) (pv 4) (pv 5) rfl)) (fun _ _ _ _ _ => pv 4)) pa_nil)) pe_int (nomark _)))))))))), ?_⟩
    simp only [tVar, tC, tOp, tUn, tTest, tChain, tNil, tCons, tTup, tLst, tCall, tMake, tCB, tIf, tAndV, tOrV, tNotV, tIsN, tNotN, tB, tAnd, tOr, tNot, tNext, tSeq, tDrop, tRet, tRetN, tIfS, tNever, gName, gNil, gCons, gSub, tAsg, tAug, tAugS, ipI, tBM, tBM0, tSl, tNoPart, tPart, tDGet, tDIn, tDNotIn, tDGet1, sDPut, tMth, tDNewT, tDNewK, tYes, rI0, rI, rU, rAdd, rSub, rEq, rNe, L2.start, List.map_cons, List.map_nil, List.length_cons, List.length_nil, List.replicate, List.append_nil, List.nil_append, List.cons_append, List.getElem?_cons_zero, List.getElem?_cons_succ, List.set_cons_zero, List.set_cons_succ, Option.some.injEq, V.int.injEq, V.bl.injEq, V.ref.injEq, V.str.injEq, exists_eq_left', exists_eq_left, exists_and_left, true_and, and_true, Nat.reduceAdd, Nat.reduceSub, Nat.add_one_sub_one, Nat.sub_self, Bool.true_eq_false, Bool.false_eq_true, if_true, if_false, ite_true, ite_false, cxOf, Cx.nox, decide_eq_true_eq, reduceCtorEq, decide_false, decide_true, Bool.not_false, Bool.not_true, eq_self, upd_same, L2.upd_upd, List.cons.injEq, and_assoc]
    refine ⟨l, ns, rfl, hl, fun H1 dl ds e1 hdl => ⟨szN (by decide), fun b nb => ?_⟩⟩
    have hdb : b ≠ dl := (ne_of_none hdl nb).symm
    have hB : BX H1 b dl ds (upd H1 b (.lst [V.ref dl, V.int 0])) := ⟨Ext.new nb, 0, upd_same, by rw [upd_ne hdb.symm]; exact hdl, hdb⟩
    generalize upd H1 b (.lst [V.ref dl, V.int 0]) = H2 at *
    refine ⟨b, dl, ds, H1, rfl, nb, hB, fun H3 x e0 Th hB3 k23 hpw hne0 => ?_⟩
    have t3 : ∀ {Pq : Addr}, GxR.TabG H Pq → GxR.TabG H3 Pq := fun t => hB3.1.2.tab (e1.2.tab t)
    refine ⟨x, e0, Th, rfl, hpw, t3 td, fun r H4 its ls e4 hrT hA hperm => ?_⟩
    obtain ⟨ra, rfl, hra⟩ := id hrT
    have hn3 := hpw.n3
    have hR0 : remL Th (zeroL Th.length) ≤ 6 := Nat.le_trans (remL_le hpw.l2) (by omega)
    have hll : ls.length ≤ 729 := by
      rw [hperm.length_eq, List.length_map]
      exact Nat.le_trans (goM_len hn3 _ _ _ _ _ (zeroL_length _)) (Nat.le_trans (Nat.pow_le_pow_right (by decide) hR0) (by decide))
    have hlist : ∀ y ∈ ls, Whole Th e0 Th.length y := fun y hy => ((mem_listed rfl).mp (hperm.mem_iff.mp hy)).1
    obtain ⟨y0, hy0⟩ := whole_ne (P := Th) (e0 := e0) (n := Th.length) rfl
    have hits : 0 < its.length := by
      have T := twin rfl ((mem_whole rfl).mp hy0)
      have := List.length_pos_of_mem (hperm.mem_iff.mpr T.listed)
      rw [hA.1]; exact this
    refine isi_of (r := true) (tup_ty (.inl hra)) (by decide +kernel) ⟨_, rfl, ?_⟩
    simp only [tVar, tC, tOp, tUn, tTest, tChain, tNil, tCons, tTup, tLst, tCall, tMake, tCB, tIf, tAndV, tOrV, tNotV, tIsN, tNotN, tB, tAnd, tOr, tNot, tNext, tSeq, tDrop, tRet, tRetN, tIfS, tNever, gName, gNil, gCons, gSub, tAsg, tAug, tAugS, ipI, tBM, tBM0, tSl, tNoPart, tPart, tDGet, tDIn, tDNotIn, tDGet1, sDPut, tMth, tDNewT, tDNewK, tYes, rI0, rI, rU, rAdd, rSub, rEq, rNe, L2.start, List.map_cons, List.map_nil, List.length_cons, List.length_nil, List.replicate, List.append_nil, List.nil_append, List.cons_append, List.getElem?_cons_zero, List.getElem?_cons_succ, List.set_cons_zero, List.set_cons_succ, Option.some.injEq, V.int.injEq, V.bl.injEq, V.ref.injEq, V.str.injEq, exists_eq_left', exists_eq_left, exists_and_left, true_and, and_true, Nat.reduceAdd, Nat.reduceSub, Nat.add_one_sub_one, Nat.sub_self, Bool.true_eq_false, Bool.false_eq_true, if_true, if_false, ite_true, ite_false, cxOf, Cx.nox, decide_eq_true_eq, reduceCtorEq, decide_false, decide_true, Bool.not_false, Bool.not_true, eq_self, upd_same, L2.upd_upd, List.cons.injEq, and_assoc]
    refine tu_len hrT ⟨rfl, ?_⟩
    rw [if_neg (by simp only [V.int.injEq]; omega)]
    refine for_tupT (a := ra) (xs := its) (fun R h => ?_) hra (fun j σ' H' => ∃ v4, σ' = [some (.ref l), some (.ref b), some x, some (.ref ra), v4, none, none, none, none, none] ∧ Ext H4 H') ⟨none, rfl, Ext.refl _⟩ (fun j σ' H' ⟨_, _, e⟩ => e.1 _ _ hra (by simp)) ?_ ?_
    · simp only [tVar, tC, tOp, tUn, tTest, tChain, tNil, tCons, tTup, tLst, tCall, tMake, tCB, tIf, tAndV, tOrV, tNotV, tIsN, tNotN, tB, tAnd, tOr, tNot, tNext, tSeq, tDrop, tRet, tRetN, tIfS, tNever, gName, gNil, gCons, gSub, tAsg, tAug, tAugS, ipI, tBM, tBM0, tSl, tNoPart, tPart, tDGet, tDIn, tDNotIn, tDGet1, sDPut, tMth, tDNewT, tDNewK, tYes, rI0, rI, rU, rAdd, rSub, rEq, rNe, L2.start, List.map_cons, List.map_nil, List.length_cons, List.length_nil, List.replicate, List.append_nil, List.nil_append, List.cons_append, List.getElem?_cons_zero, List.getElem?_cons_succ, List.set_cons_zero, List.set_cons_succ, Option.some.injEq, V.int.injEq, V.bl.injEq, V.ref.injEq, V.str.injEq, exists_eq_left', exists_eq_left, exists_and_left, true_and, and_true, Nat.reduceAdd, Nat.reduceSub, Nat.add_one_sub_one, Nat.sub_self, Bool.true_eq_false, Bool.false_eq_true, if_true, if_false, ite_true, ite_false, cxOf, Cx.nox, decide_eq_true_eq, reduceCtorEq, decide_false, decide_true, Bool.not_false, Bool.not_true, eq_self, upd_same, L2.upd_upd, List.cons.injEq, and_assoc]
      exact h
    · rintro j xx σ' H' hj ⟨v4, rfl, e⟩
      simp only [tVar, tC, tOp, tUn, tTest, tChain, tNil, tCons, tTup, tLst, tCall, tMake, tCB, tIf, tAndV, tOrV, tNotV, tIsN, tNotN, tB, tAnd, tOr, tNot, tNext, tSeq, tDrop, tRet, tRetN, tIfS, tNever, gName, gNil, gCons, gSub, tAsg, tAug, tAugS, ipI, tBM, tBM0, tSl, tNoPart, tPart, tDGet, tDIn, tDNotIn, tDGet1, sDPut, tMth, tDNewT, tDNewK, tYes, rI0, rI, rU, rAdd, rSub, rEq, rNe, L2.start, List.map_cons, List.map_nil, List.length_cons, List.length_nil, List.replicate, List.append_nil, List.nil_append, List.cons_append, List.getElem?_cons_zero, List.getElem?_cons_succ, List.set_cons_zero, List.set_cons_succ, Option.some.injEq, V.int.injEq, V.bl.injEq, V.ref.injEq, V.str.injEq, exists_eq_left', exists_eq_left, exists_and_left, true_and, and_true, Nat.reduceAdd, Nat.reduceSub, Nat.add_one_sub_one, Nat.sub_self, Bool.true_eq_false, Bool.false_eq_true, if_true, if_false, ite_true, ite_false, cxOf, Cx.nox, decide_eq_true_eq, reduceCtorEq, decide_false, decide_true, Bool.not_false, Bool.not_true, eq_self, upd_same, L2.upd_upd, List.cons.injEq, and_assoc]
      obtain ⟨o, ho, hT⟩ := hA.2 j xx hj
      have hW := hlist o (List.mem_of_getElem? ho)
      refine ⟨x, xx, e0, Th, o, rfl, (hpw.ext e4).ext e, Tu.ext hT e, hW.ok, (e4.trans e).2.tab (t3 tp), fun v H5 e5 hv => ⟨Nat.zero_le _, fun p np => ?_⟩⟩
      have hst : possL Th (play Th e0 (zeroL Th.length) o).1 (play Th e0 (zeroL Th.length) o).2 = [] := hW.stuck
      rw [hst] at hv
      refine ne_N (ms := []) (Tu.ext hv (Ext.new np)) ⟨p, rfl, upd_same⟩ ⟨_, rfl, ?_⟩
      simp only [tVar, tC, tOp, tUn, tTest, tChain, tNil, tCons, tTup, tLst, tCall, tMake, tCB, tIf, tAndV, tOrV, tNotV, tIsN, tNotN, tB, tAnd, tOr, tNot, tNext, tSeq, tDrop, tRet, tRetN, tIfS, tNever, gName, gNil, gCons, gSub, tAsg, tAug, tAugS, ipI, tBM, tBM0, tSl, tNoPart, tPart, tDGet, tDIn, tDNotIn, tDGet1, sDPut, tMth, tDNewT, tDNewK, tYes, rI0, rI, rU, rAdd, rSub, rEq, rNe, L2.start, List.map_cons, List.map_nil, List.length_cons, List.length_nil, List.replicate, List.append_nil, List.nil_append, List.cons_append, List.getElem?_cons_zero, List.getElem?_cons_succ, List.set_cons_zero, List.set_cons_succ, Option.some.injEq, V.int.injEq, V.bl.injEq, V.ref.injEq, V.str.injEq, exists_eq_left', exists_eq_left, exists_and_left, true_and, and_true, Nat.reduceAdd, Nat.reduceSub, Nat.add_one_sub_one, Nat.sub_self, Bool.true_eq_false, Bool.false_eq_true, if_true, if_false, ite_true, ite_false, cxOf, Cx.nox, decide_eq_true_eq, reduceCtorEq, decide_false, decide_true, Bool.not_false, Bool.not_true, eq_self, upd_same, L2.upd_upd, List.cons.injEq, and_assoc]
      exact (e.trans e5).trans (Ext.new np)
    · rintro σ' H5 ⟨v4, rfl, e5⟩
      have e35 := e4.trans e5
      dsimp only
      refine seq_C (fun σ' H6 => ∃ wp wits wl, σ' = [some (.ref l), some (.ref b), some x, some (.ref ra), v4, some (.ref wp), none, none, none, none] ∧ Ext H5 H6 ∧ H6 wp = some (.lst wits) ∧ A2 (Tn H6) wits wl ∧ wl.Perm (wholeL Th e0 Th.length)) (fun N hN => ?_) ?_
      · simp only [tVar, tC, tOp, tUn, tTest, tChain, tNil, tCons, tTup, tLst, tCall, tMake, tCB, tIf, tAndV, tOrV, tNotV, tIsN, tNotN, tB, tAnd, tOr, tNot, tNext, tSeq, tDrop, tRet, tRetN, tIfS, tNever, gName, gNil, gCons, gSub, tAsg, tAug, tAugS, ipI, tBM, tBM0, tSl, tNoPart, tPart, tDGet, tDIn, tDNotIn, tDGet1, sDPut, tMth, tDNewT, tDNewK, tYes, rI0, rI, rU, rAdd, rSub, rEq, rNe, L2.start, List.map_cons, List.map_nil, List.length_cons, List.length_nil, List.replicate, List.append_nil, List.nil_append, List.cons_append, List.getElem?_cons_zero, List.getElem?_cons_succ, List.set_cons_zero, List.set_cons_succ, Option.some.injEq, V.int.injEq, V.bl.injEq, V.ref.injEq, V.str.injEq, exists_eq_left', exists_eq_left, exists_and_left, true_and, and_true, Nat.reduceAdd, Nat.reduceSub, Nat.add_one_sub_one, Nat.sub_self, Bool.true_eq_false, Bool.false_eq_true, if_true, if_false, ite_true, ite_false, cxOf, Cx.nox, decide_eq_true_eq, reduceCtorEq, decide_false, decide_true, Bool.not_false, Bool.not_true, eq_self, upd_same, L2.upd_upd, List.cons.injEq, and_assoc]
        exact ⟨x, e0, Th, rfl, hpw.ext e35, fun H6 wp wits wl e6 hwp hW hwperm => hN _ _ ⟨wp, wits, wl, rfl, e6, hwp, hW, hwperm⟩⟩
      rintro σ' H6 ⟨wp, wits, wl, rfl, e6, hwp, hW, hwperm⟩
      have e36 := e35.trans e6
      obtain ⟨nb6, hbox6⟩ := (hB3.ext e36).2
      have hwb : wp ≠ b := ne_of hwp hbox6.1 fun z => by
        cases z
        obtain ⟨_, _, a, e, _⟩ := hW.2 1 _ rfl
        cases e
      have kpd : Kp H6 (del b H6) := Kp.del hbox6.1 (fun z => z) (fun ps z => by cases z)
      have hpB : PW (del b H6) x e0 Th := (hpw.ext e36).kp kpd
      have hraB : del b H6 ra = some (.tup its) := kpd.1 _ _ (((e5.trans e6)).1 _ _ hra (by simp)) trivial
      have hAB : A2 (Tn (del b H6)) its ls := hA.imp fun _ _ zz => Tu.kp (Tu.ext zz (e5.trans e6)) kpd
      have hwpB : del b H6 wp = some (.lst wits) := by rw [del_ne hwb]; exact hwp
      have hWB : A2 (Tn (del b H6)) wits wl := hW.imp fun _ _ zz => Tu.kp zz kpd
      have nbB : del b H6 b = none := del_same
      have hB6 : BX (del b H6) b dl ds H6 := ⟨Ext.del, nb6, hbox6⟩
      have tabB : ∀ {Pq : Addr}, GxR.TabG H Pq → GxR.TabG (del b H6) Pq := fun t => kpd.2.tab (e36.2.tab (t3 t))
      generalize del b H6 = HB at *
      have hwl : ∀ y ∈ wl, Whole Th e0 Th.length y := fun y hy => (mem_whole rfl).mp (hwperm.mem_iff.mp hy)
      have hwits : 0 < wits.length := by
        have := List.length_pos_of_mem (hwperm.mem_iff.mpr hy0)
        rw [hW.1]; exact this
      refine seq_C (fun σ' H' => ∃ v4 v6 v7 v9, σ' = [some (.ref l), some (.ref b), some x, some (.ref ra), v4, some (.ref wp), v6, v7, none, v9] ∧ BX HB b dl ds H') (fun N hN => ?_) ?_
      · refine for_rngT (n := 8) (H1 := H6) (fun R h => ?_) (by omega) (fun k σ' H' => ∃ v4 v6 v7 v9, σ' = [some (.ref l), some (.ref b), some x, some (.ref ra), v4, some (.ref wp), v6, v7, none, v9] ∧ BX HB b dl ds H') ⟨v4, none, none, none, rfl, hB6⟩ ?_ (fun σ' H' h => hN _ _ h)
        · simp only [tVar, tC, tOp, tUn, tTest, tChain, tNil, tCons, tTup, tLst, tCall, tMake, tCB, tIf, tAndV, tOrV, tNotV, tIsN, tNotN, tB, tAnd, tOr, tNot, tNext, tSeq, tDrop, tRet, tRetN, tIfS, tNever, gName, gNil, gCons, gSub, tAsg, tAug, tAugS, ipI, tBM, tBM0, tSl, tNoPart, tPart, tDGet, tDIn, tDNotIn, tDGet1, sDPut, tMth, tDNewT, tDNewK, tYes, rI0, rI, rU, rAdd, rSub, rEq, rNe, L2.start, List.map_cons, List.map_nil, List.length_cons, List.length_nil, List.replicate, List.append_nil, List.nil_append, List.cons_append, List.getElem?_cons_zero, List.getElem?_cons_succ, List.set_cons_zero, List.set_cons_succ, Option.some.injEq, V.int.injEq, V.bl.injEq, V.ref.injEq, V.str.injEq, exists_eq_left', exists_eq_left, exists_and_left, true_and, and_true, Nat.reduceAdd, Nat.reduceSub, Nat.add_one_sub_one, Nat.sub_self, Bool.true_eq_false, Bool.false_eq_true, if_true, if_false, ite_true, ite_false, cxOf, Cx.nox, decide_eq_true_eq, reduceCtorEq, decide_false, decide_true, Bool.not_false, Bool.not_true, eq_self, upd_same, L2.upd_upd, List.cons.injEq, and_assoc]
          exact h
        rintro k σ' H7 hk ⟨v4, v6, v7, v9, rfl, hB7⟩
        simp only [gName, List.set_cons_succ, List.set_cons_zero]
        refine seq_C (fun σ' H' => ∃ v w, σ' = [some (.ref l), some (.ref b), some x, some (.ref ra), some v, some (.ref wp), some (.int (k : Nat)), v7, none, v9] ∧ BX HB b dl ds H' ∧ Tn HB v w ∧ Whole Th e0 Th.length w) (fun N hN => ?_) ?_
        · simp only [tVar, tC, tOp, tUn, tTest, tChain, tNil, tCons, tTup, tLst, tCall, tMake, tCB, tIf, tAndV, tOrV, tNotV, tIsN, tNotN, tB, tAnd, tOr, tNot, tNext, tSeq, tDrop, tRet, tRetN, tIfS, tNever, gName, gNil, gCons, gSub, tAsg, tAug, tAugS, ipI, tBM, tBM0, tSl, tNoPart, tPart, tDGet, tDIn, tDNotIn, tDGet1, sDPut, tMth, tDNewT, tDNewK, tYes, rI0, rI, rU, rAdd, rSub, rEq, rNe, L2.start, List.map_cons, List.map_nil, List.length_cons, List.length_nil, List.replicate, List.append_nil, List.nil_append, List.cons_append, List.getElem?_cons_zero, List.getElem?_cons_succ, List.set_cons_zero, List.set_cons_succ, Option.some.injEq, V.int.injEq, V.bl.injEq, V.ref.injEq, V.str.injEq, exists_eq_left', exists_eq_left, exists_and_left, true_and, and_true, Nat.reduceAdd, Nat.reduceSub, Nat.add_one_sub_one, Nat.sub_self, Bool.true_eq_false, Bool.false_eq_true, if_true, if_false, ite_true, ite_false, cxOf, Cx.nox, decide_eq_true_eq, reduceCtorEq, decide_false, decide_true, Bool.not_false, Bool.not_true, eq_self, upd_same, L2.upd_upd, List.cons.injEq, and_assoc, rInt1]
          refine draw_B 1000 rfl nbB hB7 (by decide) fun r H8 hr8 hB8 k78 o78 => ⟨_, rfl, ?_⟩
          have hwp8 : H8 wp = some (.lst wits) := hB8.1.1 _ _ hwpB (by simp)
          refine ls_len hwp8 ⟨_, rfl, by omega, ?_⟩
          have hlt := Nat.mod_lt r hwits
          obtain ⟨v, hv⟩ := eq_at hlt
          obtain ⟨w, hw, hT⟩ := hWB.2 _ v hv
          exact ls_ix (r % wits.length) hwp8 hv (hN _ _ ⟨v, w, rfl, hB8, hT, hwl w (List.mem_of_getElem? hw)⟩) (Int.natCast_emod r wits.length).symm
        rintro σ' H8 ⟨v, w, rfl, hB8, hv, hWw⟩
        have T := twin rfl hWw
        refine seq_C (fun σ' H' => ∃ D o, σ' = [some (.ref l), some (.ref b), some x, some (.ref ra), some v, some (.ref wp), some (.int (k : Nat)), some (.ref D), none, v9] ∧ BX HB b dl ds H' ∧ H' D = some (.lst [o]) ∧ D ≠ b ∧ Tn HB o (frunM Th Th.length w)) (fun N hN => ?_) ?_
        · simp only [tVar, tC, tOp, tUn, tTest, tChain, tNil, tCons, tTup, tLst, tCall, tMake, tCB, tIf, tAndV, tOrV, tNotV, tIsN, tNotN, tB, tAnd, tOr, tNot, tNext, tSeq, tDrop, tRet, tRetN, tIfS, tNever, gName, gNil, gCons, gSub, tAsg, tAug, tAugS, ipI, tBM, tBM0, tSl, tNoPart, tPart, tDGet, tDIn, tDNotIn, tDGet1, sDPut, tMth, tDNewT, tDNewK, tYes, rI0, rI, rU, rAdd, rSub, rEq, rNe, L2.start, List.map_cons, List.map_nil, List.length_cons, List.length_nil, List.replicate, List.append_nil, List.nil_append, List.cons_append, List.getElem?_cons_zero, List.getElem?_cons_succ, List.set_cons_zero, List.set_cons_succ, Option.some.injEq, V.int.injEq, V.bl.injEq, V.ref.injEq, V.str.injEq, exists_eq_left', exists_eq_left, exists_and_left, true_and, and_true, Nat.reduceAdd, Nat.reduceSub, Nat.add_one_sub_one, Nat.sub_self, Bool.true_eq_false, Bool.false_eq_true, if_true, if_false, ite_true, ite_false, cxOf, Cx.nox, decide_eq_true_eq, reduceCtorEq, decide_false, decide_true, Bool.not_false, Bool.not_true, eq_self, upd_same, L2.upd_upd, List.cons.injEq, and_assoc]
          refine lc_w (J := Itt K ra) (n := its.length) (H1 := H8) (fun R h => ?_) walk_tup fun D nD => ⟨fun j Hj => Ext H8 Hj ∧ ∃ ys, Hj D = some (.lst ys) ∧ A2 (Tn HB) ys ((ls.take j).filter fun y => decide (frunM Th Th.length w = frunM Th Th.length y)),
            ⟨Ext.new nD, [], upd_same, A2.nil⟩, fun j Hj ⟨ej, _⟩ => SqT.of ((hB8.1.trans ej).1 _ _ hraB (by simp)), ?_, ?_⟩
          · unfold iTup
            simp only [tVar, tC, tOp, tUn, tTest, tChain, tNil, tCons, tTup, tLst, tCall, tMake, tCB, tIf, tAndV, tOrV, tNotV, tIsN, tNotN, tB, tAnd, tOr, tNot, tNext, tSeq, tDrop, tRet, tRetN, tIfS, tNever, gName, gNil, gCons, gSub, tAsg, tAug, tAugS, ipI, tBM, tBM0, tSl, tNoPart, tPart, tDGet, tDIn, tDNotIn, tDGet1, sDPut, tMth, tDNewT, tDNewK, tYes, rI0, rI, rU, rAdd, rSub, rEq, rNe, L2.start, List.map_cons, List.map_nil, List.length_cons, List.length_nil, List.replicate, List.append_nil, List.nil_append, List.cons_append, List.getElem?_cons_zero, List.getElem?_cons_succ, List.set_cons_zero, List.set_cons_succ, Option.some.injEq, V.int.injEq, V.bl.injEq, V.ref.injEq, V.str.injEq, exists_eq_left', exists_eq_left, exists_and_left, true_and, and_true, Nat.reduceAdd, Nat.reduceSub, Nat.add_one_sub_one, Nat.sub_self, Bool.true_eq_false, Bool.false_eq_true, if_true, if_false, ite_true, ite_false, cxOf, Cx.nox, decide_eq_true_eq, reduceCtorEq, decide_false, decide_true, Bool.not_false, Bool.not_true, eq_self, upd_same, L2.upd_upd, List.cons.injEq, and_assoc]
            exact ⟨⟨its, SqT.of (hB8.1.1 _ _ hraB (by simp))⟩, h⟩
          · rintro j xx Hj Hj2 hj ⟨ej, ys, hD, hY⟩ y
            obtain ⟨e1, hy⟩ := y
            subst e1
            simp only [tVar, tC, tOp, tUn, tTest, tChain, tNil, tCons, tTup, tLst, tCall, tMake, tCB, tIf, tAndV, tOrV, tNotV, tIsN, tNotN, tB, tAnd, tOr, tNot, tNext, tSeq, tDrop, tRet, tRetN, tIfS, tNever, gName, gNil, gCons, gSub, tAsg, tAug, tAugS, ipI, tBM, tBM0, tSl, tNoPart, tPart, tDGet, tDIn, tDNotIn, tDGet1, sDPut, tMth, tDNewT, tDNewK, tYes, rI0, rI, rU, rAdd, rSub, rEq, rNe, L2.start, List.map_cons, List.map_nil, List.length_cons, List.length_nil, List.replicate, List.append_nil, List.nil_append, List.cons_append, List.getElem?_cons_zero, List.getElem?_cons_succ, List.set_cons_zero, List.set_cons_succ, Option.some.injEq, V.int.injEq, V.bl.injEq, V.ref.injEq, V.str.injEq, exists_eq_left', exists_eq_left, exists_and_left, true_and, and_true, Nat.reduceAdd, Nat.reduceSub, Nat.add_one_sub_one, Nat.sub_self, Bool.true_eq_false, Bool.false_eq_true, if_true, if_false, ite_true, ite_false, cxOf, Cx.nox, decide_eq_true_eq, reduceCtorEq, decide_false, decide_true, Bool.not_false, Bool.not_true, eq_self, upd_same, L2.upd_upd, List.cons.injEq, and_assoc, wipe]
            obtain ⟨o, ho, hT⟩ := hAB.2 j xx hy
            have hWo := hlist o (List.mem_of_getElem? ho)
            have e8 := hB8.1.trans ej
            refine ⟨x, v, xx, e0, Th, w, o, rfl, hpB.ext e8, Tu.ext hv e8, hWw.ok, Tu.ext hT e8, hWo.ok, e8.2.tab (tabB ta), e8.2.tab (tabB tc), fun Hk ek => ⟨_, rfl, ?_⟩⟩
            have htk : ls.take (j + 1) = ls.take j ++ [o] := take_g ho
            rw [htk, List.filter_append]
            have hDk := ek.1 _ _ hD (by simp)
            refine ifd (fun h => ?_) (fun h => ?_)
            · have h : frunM Th Th.length w = frunM Th Th.length o := of_decide_eq_true h
              refine ⟨ys, hDk, small1000 ?_, (ej.trans ek).upd nD, ys ++ [xx], rfl, ?_⟩
              · rw [hY.1]
                have := List.length_filter_le (fun y => decide (frunM Th Th.length w = frunM Th Th.length y)) (ls.take j)
                rw [List.length_take] at this
                omega
              · have e : [o].filter (fun y => decide (frunM Th Th.length w = frunM Th Th.length y)) = [o] := by simp [h]
                rw [e]
                exact A2.snoc hY hT
            · have h : ¬ frunM Th Th.length w = frunM Th Th.length o := fun z => h (decide_eq_true z)
              have e : [o].filter (fun y => decide (frunM Th Th.length w = frunM Th Th.length y)) = [] := by simp [h]
              rw [e, List.append_nil]
              exact ⟨ej.trans ek, ys, hDk, hY⟩
          · rintro Hm ⟨em, ys, hD, hY⟩
            rw [hAB.1, List.take_length, same_one rfl hWw hperm] at hY
            obtain ⟨o, rfl⟩ : ∃ o, ys = [o] := List.length_eq_one_iff.mp hY.1
            exact hN _ _ ⟨D, o, rfl, hB8.ext em, hD, (hB8.ne nD).1, hY.cons.1⟩
        rintro σ' H9 ⟨D, o, rfl, hB9, hD9, hDb, ho⟩
        have hof : okw Th e0 (zeroL Th.length) (frunM Th Th.length w) = true := T.ok
        have hexw : Exi Th w := okw_exi (zeroL_length _) (cf_zeroL _) hWw.ok
        have hexo : Exi Th (frunM Th Th.length w) := okw_exi (zeroL_length _) (cf_zeroL _) hof
        have hwlen := rem_play w e0 (zeroL Th.length) (zeroL_length _) hWw.ok
        have holen := rem_play (frunM Th Th.length w) e0 (zeroL Th.length) (zeroL_length _) hof
        refine seq_C (fun σ' H' => σ' = [some (.ref l), some (.ref b), some x, some (.ref ra), some v, some (.ref wp), some (.int (k : Nat)), some (.ref D), none, v9] ∧ BX HB b dl ds H' ∧ H' D = some (.lst [o])) (fun N hN => ?_) ?_
        · simp only [tVar, tC, tOp, tUn, tTest, tChain, tNil, tCons, tTup, tLst, tCall, tMake, tCB, tIf, tAndV, tOrV, tNotV, tIsN, tNotN, tB, tAnd, tOr, tNot, tNext, tSeq, tDrop, tRet, tRetN, tIfS, tNever, gName, gNil, gCons, gSub, tAsg, tAug, tAugS, ipI, tBM, tBM0, tSl, tNoPart, tPart, tDGet, tDIn, tDNotIn, tDGet1, sDPut, tMth, tDNewT, tDNewK, tYes, rI0, rI, rU, rAdd, rSub, rEq, rNe, L2.start, List.map_cons, List.map_nil, List.length_cons, List.length_nil, List.replicate, List.append_nil, List.nil_append, List.cons_append, List.getElem?_cons_zero, List.getElem?_cons_succ, List.set_cons_zero, List.set_cons_succ, Option.some.injEq, V.int.injEq, V.bl.injEq, V.ref.injEq, V.str.injEq, exists_eq_left', exists_eq_left, exists_and_left, true_and, and_true, Nat.reduceAdd, Nat.reduceSub, Nat.add_one_sub_one, Nat.sub_self, Bool.true_eq_false, Bool.false_eq_true, if_true, if_false, ite_true, ite_false, cxOf, Cx.nox, decide_eq_true_eq, reduceCtorEq, decide_false, decide_true, Bool.not_false, Bool.not_true, eq_self, upd_same, L2.upd_upd, List.cons.injEq, and_assoc]
          refine ls_len hD9 ⟨rfl, ?_⟩
          rw [if_neg (by simp)]
          refine ⟨x, v, e0, Th, w, rfl, hpB.ext hB9.1, Tu.ext hv hB9.1, hWw.ok, hB9.1.2.tab (tabB ta), hB9.1.2.tab (tabB tc), fun r H10 e10 hr10 => ls_ix 0 (e10.1 _ _ hD9 (by simp)) rfl (ne_N hr10 (Tu.ext ho (hB9.1.trans e10)) ⟨_, rfl, ?_⟩)⟩
          rw [if_neg (by simp)]
          exact hN _ _ ⟨rfl, hB9.ext e10, e10.1 _ _ hD9 (by simp)⟩
        rintro σ' H10 ⟨rfl, hB10, hD10⟩
        refine seq_C (fun σ' H' => σ' = [some (.ref l), some (.ref b), some x, some (.ref ra), some v, some (.ref wp), some (.int (k : Nat)), some (.ref D), none, v9] ∧ BX HB b dl ds H' ∧ H' D = some (.lst [o])) (fun N hN => ?_) ?_
        · simp only [tVar, tC, tOp, tUn, tTest, tChain, tNil, tCons, tTup, tLst, tCall, tMake, tCB, tIf, tAndV, tOrV, tNotV, tIsN, tNotN, tB, tAnd, tOr, tNot, tNext, tSeq, tDrop, tRet, tRetN, tIfS, tNever, gName, gNil, gCons, gSub, tAsg, tAug, tAugS, ipI, tBM, tBM0, tSl, tNoPart, tPart, tDGet, tDIn, tDNotIn, tDGet1, sDPut, tMth, tDNewT, tDNewK, tYes, rI0, rI, rU, rAdd, rSub, rEq, rNe, L2.start, List.map_cons, List.map_nil, List.length_cons, List.length_nil, List.replicate, List.append_nil, List.nil_append, List.cons_append, List.getElem?_cons_zero, List.getElem?_cons_succ, List.set_cons_zero, List.set_cons_succ, Option.some.injEq, V.int.injEq, V.bl.injEq, V.ref.injEq, V.str.injEq, exists_eq_left', exists_eq_left, exists_and_left, true_and, and_true, Nat.reduceAdd, Nat.reduceSub, Nat.add_one_sub_one, Nat.sub_self, Bool.true_eq_false, Bool.false_eq_true, if_true, if_false, ite_true, ite_false, cxOf, Cx.nox, decide_eq_true_eq, reduceCtorEq, decide_false, decide_true, Bool.not_false, Bool.not_true, eq_self, upd_same, L2.upd_upd, List.cons.injEq, and_assoc]
          refine ⟨x, v, e0, Th, w, rfl, hpB.ext hB10.1, Tu.ext hv hB10.1, hWw.ok, fun v1 H11 p1 e1' ex11 hP1 hA1 hpm1 hs1 => ls_ix 0 (ex11.1 _ _ hD10 (by simp)) rfl ?_⟩
          have hB11 := hB10.ext ex11
          refine ⟨x, o, e0, Th, _, rfl, hpB.ext hB11.1, Tu.ext ho hB11.1, hof, fun v2 H12 p2 e2' ex12 hP2 hA2 hpm2 hs2 => ?_⟩
          have hB12 := hB11.ext ex12
          rw [T.play] at hpm2
          have hdw : (dom (play Th e0 (zeroL Th.length) w).1).Nodup := by rw [dom_play]; exact hpB.wf.1
          have hee := env_same hpm1 hpm2 hdw hs1 hs2
          subst hee
          have hlen : e1'.length ≤ 1000 := by
            rw [hpm1.length_eq, dom_len (dom_play w e0 (zeroL Th.length))]
            have := hpB.wf.2.1
            omega
          refine ⟨v1, v2, rfl, behind_sm (hP1.kp ex12.kp) (hA1.imp fun _ _ zz => Tu.ext zz ex12) hP2 hA2 hlen, fun H13 ex13 => ⟨true, rfl, ?_⟩⟩
          simp only [tVar, tC, tOp, tUn, tTest, tChain, tNil, tCons, tTup, tLst, tCall, tMake, tCB, tIf, tAndV, tOrV, tNotV, tIsN, tNotN, tB, tAnd, tOr, tNot, tNext, tSeq, tDrop, tRet, tRetN, tIfS, tNever, gName, gNil, gCons, gSub, tAsg, tAug, tAugS, ipI, tBM, tBM0, tSl, tNoPart, tPart, tDGet, tDIn, tDNotIn, tDGet1, sDPut, tMth, tDNewT, tDNewK, tYes, rI0, rI, rU, rAdd, rSub, rEq, rNe, L2.start, List.map_cons, List.map_nil, List.length_cons, List.length_nil, List.replicate, List.append_nil, List.nil_append, List.cons_append, List.getElem?_cons_zero, List.getElem?_cons_succ, List.set_cons_zero, List.set_cons_succ, Option.some.injEq, V.int.injEq, V.bl.injEq, V.ref.injEq, V.str.injEq, exists_eq_left', exists_eq_left, exists_and_left, true_and, and_true, Nat.reduceAdd, Nat.reduceSub, Nat.add_one_sub_one, Nat.sub_self, Bool.true_eq_false, Bool.false_eq_true, if_true, if_false, ite_true, ite_false, cxOf, Cx.nox, decide_eq_true_eq, reduceCtorEq, decide_false, decide_true, Bool.not_false, Bool.not_true, eq_self, upd_same, L2.upd_upd, List.cons.injEq, and_assoc]
          exact hN _ _ ⟨rfl, hB12.ext ex13, ((ex11.trans ex12).trans ex13).1 _ _ hD10 (by simp)⟩
        rintro σ' H20 ⟨rfl, hB20, hD20⟩
        refine seq_C (fun σ' H' => σ' = [some (.ref l), some (.ref b), some x, some (.ref ra), some v, some (.ref wp), some (.int (k : Nat)), some (.ref D), none, v9] ∧ BX HB b dl ds H' ∧ H' D = some (.lst [o])) (fun N hN => ?_) ?_
        · simp only [tVar, tC, tOp, tUn, tTest, tChain, tNil, tCons, tTup, tLst, tCall, tMake, tCB, tIf, tAndV, tOrV, tNotV, tIsN, tNotN, tB, tAnd, tOr, tNot, tNext, tSeq, tDrop, tRet, tRetN, tIfS, tNever, gName, gNil, gCons, gSub, tAsg, tAug, tAugS, ipI, tBM, tBM0, tSl, tNoPart, tPart, tDGet, tDIn, tDNotIn, tDGet1, sDPut, tMth, tDNewT, tDNewK, tYes, rI0, rI, rU, rAdd, rSub, rEq, rNe, L2.start, List.map_cons, List.map_nil, List.length_cons, List.length_nil, List.replicate, List.append_nil, List.nil_append, List.cons_append, List.getElem?_cons_zero, List.getElem?_cons_succ, List.set_cons_zero, List.set_cons_succ, Option.some.injEq, V.int.injEq, V.bl.injEq, V.ref.injEq, V.str.injEq, exists_eq_left', exists_eq_left, exists_and_left, true_and, and_true, Nat.reduceAdd, Nat.reduceSub, Nat.add_one_sub_one, Nat.sub_self, Bool.true_eq_false, Bool.false_eq_true, if_true, if_false, ite_true, ite_false, cxOf, Cx.nox, decide_eq_true_eq, reduceCtorEq, decide_false, decide_true, Bool.not_false, Bool.not_true, eq_self, upd_same, L2.upd_upd, List.cons.injEq, and_assoc]
          refine ⟨x, v, e0, Th, w, rfl, hpB.ext hB20.1, Tu.ext hv hB20.1, hWw.ok, hB20.1.2.tab (tabB tc), fun H21 c1 e21 hc1 => ?_⟩
          have hB21 := hB20.ext e21
          refine ⟨v, c1, w, _, rfl, Tu.ext hv hB21.1, hc1, by simp [clocksL], by omega, fun H22 b1 e22 hb1 => ?_⟩
          have hB22 := hB21.ext e22
          have hD22 := (e21.trans e22).1 _ _ hD20 (by simp)
          refine ls_ix 0 hD22 rfl (ls_ix 0 hD22 rfl ?_)
          refine ⟨x, o, e0, Th, _, rfl, hpB.ext hB22.1, Tu.ext ho hB22.1, hof, hB22.1.2.tab (tabB tc), fun H23 c2 e23 hc2 => ?_⟩
          have hB23 := hB22.ext e23
          refine ⟨o, c2, _, _, rfl, Tu.ext ho hB23.1, hc2, by simp [clocksL], by omega, fun H24 b2 e24 hb2 => ?_⟩
          have hbt : (List.range 3).map (byT (frunM Th Th.length w) (clocksL Th Th.length (frunM Th Th.length w))) = (List.range 3).map (byT w (clocksL Th Th.length w)) := List.map_congr_left fun t _ => (byT_alike hexw hexo T.bef t).symm
          rw [hbt] at hb2
          refine ne_LL (hb1.ext (e23.trans e24)) hb2 ⟨_, rfl, ?_⟩
          simp only [tVar, tC, tOp, tUn, tTest, tChain, tNil, tCons, tTup, tLst, tCall, tMake, tCB, tIf, tAndV, tOrV, tNotV, tIsN, tNotN, tB, tAnd, tOr, tNot, tNext, tSeq, tDrop, tRet, tRetN, tIfS, tNever, gName, gNil, gCons, gSub, tAsg, tAug, tAugS, ipI, tBM, tBM0, tSl, tNoPart, tPart, tDGet, tDIn, tDNotIn, tDGet1, sDPut, tMth, tDNewT, tDNewK, tYes, rI0, rI, rU, rAdd, rSub, rEq, rNe, L2.start, List.map_cons, List.map_nil, List.length_cons, List.length_nil, List.replicate, List.append_nil, List.nil_append, List.cons_append, List.getElem?_cons_zero, List.getElem?_cons_succ, List.set_cons_zero, List.set_cons_succ, Option.some.injEq, V.int.injEq, V.bl.injEq, V.ref.injEq, V.str.injEq, exists_eq_left', exists_eq_left, exists_and_left, true_and, and_true, Nat.reduceAdd, Nat.reduceSub, Nat.add_one_sub_one, Nat.sub_self, Bool.true_eq_false, Bool.false_eq_true, if_true, if_false, ite_true, ite_false, cxOf, Cx.nox, decide_eq_true_eq, reduceCtorEq, decide_false, decide_true, Bool.not_false, Bool.not_true, eq_self, upd_same, L2.upd_upd, List.cons.injEq, and_assoc]
          exact hN _ _ ⟨rfl, hB23.ext e24, (e23.trans e24).1 _ _ hD22 (by simp)⟩
        rintro σ' H30 ⟨rfl, hB30, hD30⟩
        obtain ⟨p0, hp0⟩ : ∃ p0, e0[0]? = some p0 := eq_at (List.length_pos_iff.mpr hne0)
        have hcd : p0.1 ∈ dom e0 := List.mem_map.mpr ⟨p0, List.mem_of_getElem? hp0, rfl⟩
        refine seq_C (fun σ' H' => ∃ cv cn, σ' = [some (.ref l), some (.ref b), some x, some (.ref ra), some v, some (.ref wp), some (.int (k : Nat)), some (.ref D), none, some cv] ∧ BX HB b dl ds H' ∧ H' D = some (.lst [o]) ∧ Tu H' cv [.str (nm p0.1), .int cn]) (fun N hN => ?_) ?_
        · simp only [tVar, tC, tOp, tUn, tTest, tChain, tNil, tCons, tTup, tLst, tCall, tMake, tCB, tIf, tAndV, tOrV, tNotV, tIsN, tNotN, tB, tAnd, tOr, tNot, tNext, tSeq, tDrop, tRet, tRetN, tIfS, tNever, gName, gNil, gCons, gSub, tAsg, tAug, tAugS, ipI, tBM, tBM0, tSl, tNoPart, tPart, tDGet, tDIn, tDNotIn, tDGet1, sDPut, tMth, tDNewT, tDNewK, tYes, rI0, rI, rU, rAdd, rSub, rEq, rNe, L2.start, List.map_cons, List.map_nil, List.length_cons, List.length_nil, List.replicate, List.append_nil, List.nil_append, List.cons_append, List.getElem?_cons_zero, List.getElem?_cons_succ, List.set_cons_zero, List.set_cons_succ, Option.some.injEq, V.int.injEq, V.bl.injEq, V.ref.injEq, V.str.injEq, exists_eq_left', exists_eq_left, exists_and_left, true_and, and_true, Nat.reduceAdd, Nat.reduceSub, Nat.add_one_sub_one, Nat.sub_self, Bool.true_eq_false, Bool.false_eq_true, if_true, if_false, ite_true, ite_false, cxOf, Cx.nox, decide_eq_true_eq, reduceCtorEq, decide_false, decide_true, Bool.not_false, Bool.not_true, eq_self, upd_same, L2.upd_upd, List.cons.injEq, and_assoc]
          obtain ⟨pv', pt', pps, prows, g1, g2, g3, g4, g5⟩ := hpB.prog
          obtain ⟨pa', po', rfl, hpa, _⟩ := g2
          obtain ⟨q0, hq0, hQ⟩ := g3.at hp0
          refine tu_ix 1 (g1.ext hB30.1) rfl (sq_ix (j := 0) (tup_sq (.inr ⟨po', hB30.1.1 _ _ hpa (by simp)⟩)) hq0 (tu_ix 0 (Tu.ext hQ hB30.1) rfl ?_))
          refine draw_B 5 rfl nbB hB30 (by decide) fun rr H31 hrr hB31 k31 o31 => ⟨_, rfl, szN (by decide), fun p np => ?_⟩
          have ep := Ext.new (o := .tup [V.str (nm p0.1), V.int ((rr : Nat) - 1)]) np
          exact hN _ _ ⟨_, _, rfl, hB31.ext ep, ep.1 _ _ (by rw [o31 D hDb]; exact hD30) (by simp), p, rfl, upd_same⟩
        rintro σ' H31 ⟨cv, cn, rfl, hB31, hD31, hcv31⟩
        refine seq_C (fun σ' H' => σ' = [some (.ref l), some (.ref b), some x, some (.ref ra), some v, some (.ref wp), some (.int (k : Nat)), some (.ref D), none, some cv] ∧ BX HB b dl ds H' ∧ H' D = some (.lst [o]) ∧ Tu H' cv [.str (nm p0.1), .int cn]) (fun N hN => ?_) ?_
        · simp only [tVar, tC, tOp, tUn, tTest, tChain, tNil, tCons, tTup, tLst, tCall, tMake, tCB, tIf, tAndV, tOrV, tNotV, tIsN, tNotN, tB, tAnd, tOr, tNot, tNext, tSeq, tDrop, tRet, tRetN, tIfS, tNever, gName, gNil, gCons, gSub, tAsg, tAug, tAugS, ipI, tBM, tBM0, tSl, tNoPart, tPart, tDGet, tDIn, tDNotIn, tDGet1, sDPut, tMth, tDNewT, tDNewK, tYes, rI0, rI, rU, rAdd, rSub, rEq, rNe, L2.start, List.map_cons, List.map_nil, List.length_cons, List.length_nil, List.replicate, List.append_nil, List.nil_append, List.cons_append, List.getElem?_cons_zero, List.getElem?_cons_succ, List.set_cons_zero, List.set_cons_succ, Option.some.injEq, V.int.injEq, V.bl.injEq, V.ref.injEq, V.str.injEq, exists_eq_left', exists_eq_left, exists_and_left, true_and, and_true, Nat.reduceAdd, Nat.reduceSub, Nat.add_one_sub_one, Nat.sub_self, Bool.true_eq_false, Bool.false_eq_true, if_true, if_false, ite_true, ite_false, cxOf, Cx.nox, decide_eq_true_eq, reduceCtorEq, decide_false, decide_true, Bool.not_false, Bool.not_true, eq_self, upd_same, L2.upd_upd, List.cons.injEq, and_assoc]
          refine ⟨x, v, cv, e0, Th, w, p0.1, cn, rfl, hpB.ext hB31.1, Tu.ext hv hB31.1, hWw.ok, hcv31, hcd, hB31.1.2.tab (tabB ta), hB31.1.2.tab (tabB tc), fun r1 H32 e32 h1 => ls_ix 0 (e32.1 _ _ hD31 (by simp)) rfl ?_⟩
          have hB32 := hB31.ext e32
          refine ⟨x, o, cv, e0, Th, _, p0.1, cn, rfl, hpB.ext hB32.1, Tu.ext ho hB32.1, hof, hcv31.ext e32, hcd, hB32.1.2.tab (tabB ta), hB32.1.2.tab (tabB tc), fun r2 H33 e33 h2 => ?_⟩
          rw [← some_alike hexw hexo T.bef] at h2
          refine ne_O (h1.ext e33) h2 ⟨_, rfl, ?_⟩
          simp only [tVar, tC, tOp, tUn, tTest, tChain, tNil, tCons, tTup, tLst, tCall, tMake, tCB, tIf, tAndV, tOrV, tNotV, tIsN, tNotN, tB, tAnd, tOr, tNot, tNext, tSeq, tDrop, tRet, tRetN, tIfS, tNever, gName, gNil, gCons, gSub, tAsg, tAug, tAugS, ipI, tBM, tBM0, tSl, tNoPart, tPart, tDGet, tDIn, tDNotIn, tDGet1, sDPut, tMth, tDNewT, tDNewK, tYes, rI0, rI, rU, rAdd, rSub, rEq, rNe, L2.start, List.map_cons, List.map_nil, List.length_cons, List.length_nil, List.replicate, List.append_nil, List.nil_append, List.cons_append, List.getElem?_cons_zero, List.getElem?_cons_succ, List.set_cons_zero, List.set_cons_succ, Option.some.injEq, V.int.injEq, V.bl.injEq, V.ref.injEq, V.str.injEq, exists_eq_left', exists_eq_left, exists_and_left, true_and, and_true, Nat.reduceAdd, Nat.reduceSub, Nat.add_one_sub_one, Nat.sub_self, Bool.true_eq_false, Bool.false_eq_true, if_true, if_false, ite_true, ite_false, cxOf, Cx.nox, decide_eq_true_eq, reduceCtorEq, decide_false, decide_true, Bool.not_false, Bool.not_true, eq_self, upd_same, L2.upd_upd, List.cons.injEq, and_assoc]
          exact hN _ _ ⟨rfl, hB32.ext e33, (e32.trans e33).1 _ _ hD31 (by simp), hcv31.ext (e32.trans e33)⟩
        rintro σ' H40 ⟨rfl, hB40, hD40, hcv40⟩
        refine seq_C (fun σ' H' => σ' = [some (.ref l), some (.ref b), some x, some (.ref ra), some v, some (.ref wp), some (.int (k : Nat)), some (.ref D), none, some cv] ∧ BX HB b dl ds H' ∧ H' D = some (.lst [o]) ∧ Tu H' cv [.str (nm p0.1), .int cn]) (fun N hN => ?_) ?_
        · simp only [tVar, tC, tOp, tUn, tTest, tChain, tNil, tCons, tTup, tLst, tCall, tMake, tCB, tIf, tAndV, tOrV, tNotV, tIsN, tNotN, tB, tAnd, tOr, tNot, tNext, tSeq, tDrop, tRet, tRetN, tIfS, tNever, gName, gNil, gCons, gSub, tAsg, tAug, tAugS, ipI, tBM, tBM0, tSl, tNoPart, tPart, tDGet, tDIn, tDNotIn, tDGet1, sDPut, tMth, tDNewT, tDNewK, tYes, rI0, rI, rU, rAdd, rSub, rEq, rNe, L2.start, List.map_cons, List.map_nil, List.length_cons, List.length_nil, List.replicate, List.append_nil, List.nil_append, List.cons_append, List.getElem?_cons_zero, List.getElem?_cons_succ, List.set_cons_zero, List.set_cons_succ, Option.some.injEq, V.int.injEq, V.bl.injEq, V.ref.injEq, V.str.injEq, exists_eq_left', exists_eq_left, exists_and_left, true_and, and_true, Nat.reduceAdd, Nat.reduceSub, Nat.add_one_sub_one, Nat.sub_self, Bool.true_eq_false, Bool.false_eq_true, if_true, if_false, ite_true, ite_false, cxOf, Cx.nox, decide_eq_true_eq, reduceCtorEq, decide_false, decide_true, Bool.not_false, Bool.not_true, eq_self, upd_same, L2.upd_upd, List.cons.injEq, and_assoc]
          refine ⟨x, v, cv, e0, Th, w, p0.1, cn, rfl, hpB.ext hB40.1, Tu.ext hv hB40.1, hWw.ok, hcv40, hcd, hB40.1.2.tab (tabB ta), hB40.1.2.tab (tabB tb), hB40.1.2.tab (tabB tc), fun r1 H32 e32 h1 => ls_ix 0 (e32.1 _ _ hD40 (by simp)) rfl ?_⟩
          have hB32 := hB40.ext e32
          refine ⟨x, o, cv, e0, Th, _, p0.1, cn, rfl, hpB.ext hB32.1, Tu.ext ho hB32.1, hof, hcv40.ext e32, hcd, hB32.1.2.tab (tabB ta), hB32.1.2.tab (tabB tb), hB32.1.2.tab (tabB tc), fun r2 H33 e33 h2 => ?_⟩
          rw [← every_alike hexw hexo T.bef] at h2
          refine ne_O (h1.ext e33) h2 ⟨_, rfl, ?_⟩
          simp only [tVar, tC, tOp, tUn, tTest, tChain, tNil, tCons, tTup, tLst, tCall, tMake, tCB, tIf, tAndV, tOrV, tNotV, tIsN, tNotN, tB, tAnd, tOr, tNot, tNext, tSeq, tDrop, tRet, tRetN, tIfS, tNever, gName, gNil, gCons, gSub, tAsg, tAug, tAugS, ipI, tBM, tBM0, tSl, tNoPart, tPart, tDGet, tDIn, tDNotIn, tDGet1, sDPut, tMth, tDNewT, tDNewK, tYes, rI0, rI, rU, rAdd, rSub, rEq, rNe, L2.start, List.map_cons, List.map_nil, List.length_cons, List.length_nil, List.replicate, List.append_nil, List.nil_append, List.cons_append, List.getElem?_cons_zero, List.getElem?_cons_succ, List.set_cons_zero, List.set_cons_succ, Option.some.injEq, V.int.injEq, V.bl.injEq, V.ref.injEq, V.str.injEq, exists_eq_left', exists_eq_left, exists_and_left, true_and, and_true, Nat.reduceAdd, Nat.reduceSub, Nat.add_one_sub_one, Nat.sub_self, Bool.true_eq_false, Bool.false_eq_true, if_true, if_false, ite_true, ite_false, cxOf, Cx.nox, decide_eq_true_eq, reduceCtorEq, decide_false, decide_true, Bool.not_false, Bool.not_true, eq_self, upd_same, L2.upd_upd, List.cons.injEq, and_assoc]
          exact hN _ _ ⟨rfl, hB32.ext e33, (e32.trans e33).1 _ _ hD40 (by simp), hcv40.ext (e32.trans e33)⟩
        rintro σ' H50 ⟨rfl, hB50, hD50, hcv50⟩
        refine seq_C (fun σ' H' => σ' = [some (.ref l), some (.ref b), some x, some (.ref ra), some v, some (.ref wp), some (.int (k : Nat)), some (.ref D), none, some cv] ∧ BX HB b dl ds H' ∧ H' D = some (.lst [o]) ∧ Tu H' cv [.str (nm p0.1), .int cn]) (fun N hN => ?_) ?_
        · simp only [tVar, tC, tOp, tUn, tTest, tChain, tNil, tCons, tTup, tLst, tCall, tMake, tCB, tIf, tAndV, tOrV, tNotV, tIsN, tNotN, tB, tAnd, tOr, tNot, tNext, tSeq, tDrop, tRet, tRetN, tIfS, tNever, gName, gNil, gCons, gSub, tAsg, tAug, tAugS, ipI, tBM, tBM0, tSl, tNoPart, tPart, tDGet, tDIn, tDNotIn, tDGet1, sDPut, tMth, tDNewT, tDNewK, tYes, rI0, rI, rU, rAdd, rSub, rEq, rNe, L2.start, List.map_cons, List.map_nil, List.length_cons, List.length_nil, List.replicate, List.append_nil, List.nil_append, List.cons_append, List.getElem?_cons_zero, List.getElem?_cons_succ, List.set_cons_zero, List.set_cons_succ, Option.some.injEq, V.int.injEq, V.bl.injEq, V.ref.injEq, V.str.injEq, exists_eq_left', exists_eq_left, exists_and_left, true_and, and_true, Nat.reduceAdd, Nat.reduceSub, Nat.add_one_sub_one, Nat.sub_self, Bool.true_eq_false, Bool.false_eq_true, if_true, if_false, ite_true, ite_false, cxOf, Cx.nox, decide_eq_true_eq, reduceCtorEq, decide_false, decide_true, Bool.not_false, Bool.not_true, eq_self, upd_same, L2.upd_upd, List.cons.injEq, and_assoc]
          refine ⟨x, v, cv, e0, Th, w, p0.1, cn, rfl, hpB.ext hB50.1, Tu.ext hv hB50.1, hWw.ok, hcv50, hcd, hB50.1.2.tab (tabB ta), hB50.1.2.tab (tabB tb), hB50.1.2.tab (tabB tc), fun r1 H32 e32 h1 => ?_⟩
          have hB32 := hB50.ext e32
          have hD32 := e32.1 _ _ hD50 (by simp)
          have hcv32 := hcv50.ext e32
          refine ifd (c := r1 = V.non) (fun hr1 => ?_) (fun _ => hN _ _ ⟨rfl, hB32, hD32, hcv32⟩)
          refine ⟨x, v, cv, e0, Th, w, p0.1, cn, rfl, hpB.ext hB32.1, Tu.ext hv hB32.1, hWw.ok, hcv32, hcd, hB32.1.2.tab (tabB ta), hB32.1.2.tab (tabB tc), fun r2 H33 e33 h2 => ?_⟩
          refine ifd (c := r2 = V.non) (fun hr2 => ?_) (fun _ => hN _ _ ⟨rfl, hB32.ext e33, e33.1 _ _ hD32 (by simp), hcv32.ext e33⟩)
          exact (not_both rfl hWw.ok p0.1 cn (h1.non hr1) (h2.non hr2)).elim
        rintro σ' H60 ⟨rfl, hB60, hD60, hcv60⟩
        simp only [tVar, tC, tOp, tUn, tTest, tChain, tNil, tCons, tTup, tLst, tCall, tMake, tCB, tIf, tAndV, tOrV, tNotV, tIsN, tNotN, tB, tAnd, tOr, tNot, tNext, tSeq, tDrop, tRet, tRetN, tIfS, tNever, gName, gNil, gCons, gSub, tAsg, tAug, tAugS, ipI, tBM, tBM0, tSl, tNoPart, tPart, tDGet, tDIn, tDNotIn, tDGet1, sDPut, tMth, tDNewT, tDNewK, tYes, rI0, rI, rU, rAdd, rSub, rEq, rNe, L2.start, List.map_cons, List.map_nil, List.length_cons, List.length_nil, List.replicate, List.append_nil, List.nil_append, List.cons_append, List.getElem?_cons_zero, List.getElem?_cons_succ, List.set_cons_zero, List.set_cons_succ, Option.some.injEq, V.int.injEq, V.bl.injEq, V.ref.injEq, V.str.injEq, exists_eq_left', exists_eq_left, exists_and_left, true_and, and_true, Nat.reduceAdd, Nat.reduceSub, Nat.add_one_sub_one, Nat.sub_self, Bool.true_eq_false, Bool.false_eq_true, if_true, if_false, ite_true, ite_false, cxOf, Cx.nox, decide_eq_true_eq, reduceCtorEq, decide_false, decide_true, Bool.not_false, Bool.not_true, eq_self, upd_same, L2.upd_upd, List.cons.injEq, and_assoc]
        refine ⟨x, v, e0, Th, w, rfl, hpB.ext hB60.1, Tu.ext hv hB60.1, hWw.ok, fun v1 H61 p1 e1' ex61 hP1 hA1 hpm1 hs1 => ?_⟩
        have hB61 := hB60.ext ex61
        have hdw : (dom (play Th e0 (zeroL Th.length) w).1).Nodup := by rw [dom_play]; exact hpB.wf.1
        have hcd1 : p0.1 ∈ dom e1' := by
          rw [(dom_perm hpm1).mem_iff, dom_play]; exact hcd
        refine ⟨v1, p1, e1', rfl, hP1, hA1, (dom_perm hpm1).symm.nodup hdw, fun dv H62 e62 hdv => ?_⟩
        have hB62 := hB61.ext e62
        have hcv62 := hcv60.ext (ex61.trans e62)
        refine tu_ix 0 hcv62 rfl (dg_env hdv hcd1 (tu_ix 1 hcv62 rfl ⟨_, rfl, _, rfl, ?_⟩))
        refine ifd (fun hle => ?_) (fun _ => hB62)
        rw [eget_perm hpm1 hdw] at hle
        refine ⟨x, v, cv, e0, Th, w, p0.1, cn, rfl, hpB.ext hB62.1, Tu.ext hv hB62.1, hWw.ok, hcv62, hcd, hB62.1.2.tab (tabB ta), hB62.1.2.tab (tabB tb), hB62.1.2.tab (tabB tc), fun r1 H63 e63 h1 => ?_⟩
        rw [end_every rfl hWw.ok p0.1 cn hle] at h1
        have h1 : r1 = V.non := h1
        subst h1
        simp only [tVar, tC, tOp, tUn, tTest, tChain, tNil, tCons, tTup, tLst, tCall, tMake, tCB, tIf, tAndV, tOrV, tNotV, tIsN, tNotN, tB, tAnd, tOr, tNot, tNext, tSeq, tDrop, tRet, tRetN, tIfS, tNever, gName, gNil, gCons, gSub, tAsg, tAug, tAugS, ipI, tBM, tBM0, tSl, tNoPart, tPart, tDGet, tDIn, tDNotIn, tDGet1, sDPut, tMth, tDNewT, tDNewK, tYes, rI0, rI, rU, rAdd, rSub, rEq, rNe, L2.start, List.map_cons, List.map_nil, List.length_cons, List.length_nil, List.replicate, List.append_nil, List.nil_append, List.cons_append, List.getElem?_cons_zero, List.getElem?_cons_succ, List.set_cons_zero, List.set_cons_succ, Option.some.injEq, V.int.injEq, V.bl.injEq, V.ref.injEq, V.str.injEq, exists_eq_left', exists_eq_left, exists_and_left, true_and, and_true, Nat.reduceAdd, Nat.reduceSub, Nat.add_one_sub_one, Nat.sub_self, Bool.true_eq_false, Bool.false_eq_true, if_true, if_false, ite_true, ite_false, cxOf, Cx.nox, decide_eq_true_eq, reduceCtorEq, decide_false, decide_true, Bool.not_false, Bool.not_true, eq_self, upd_same, L2.upd_upd, List.cons.injEq, and_assoc]
        exact hB62.ext e63
      · rintro σ' H7 ⟨v4, v6, v7, v9, rfl, hB7⟩
        simp only [tVar, tC, tOp, tUn, tTest, tChain, tNil, tCons, tTup, tLst, tCall, tMake, tCB, tIf, tAndV, tOrV, tNotV, tIsN, tNotN, tB, tAnd, tOr, tNot, tNext, tSeq, tDrop, tRet, tRetN, tIfS, tNever, gName, gNil, gCons, gSub, tAsg, tAug, tAugS, ipI, tBM, tBM0, tSl, tNoPart, tPart, tDGet, tDIn, tDNotIn, tDGet1, sDPut, tMth, tDNewT, tDNewK, tYes, rI0, rI, rU, rAdd, rSub, rEq, rNe, L2.start, List.map_cons, List.map_nil, List.length_cons, List.length_nil, List.replicate, List.append_nil, List.nil_append, List.cons_append, List.getElem?_cons_zero, List.getElem?_cons_succ, List.set_cons_zero, List.set_cons_succ, Option.some.injEq, V.int.injEq, V.bl.injEq, V.ref.injEq, V.str.injEq, exists_eq_left', exists_eq_left, exists_and_left, true_and, and_true, Nat.reduceAdd, Nat.reduceSub, Nat.add_one_sub_one, Nat.sub_self, Bool.true_eq_false, Bool.false_eq_true, if_true, if_false, ite_true, ite_false, cxOf, Cx.nox, decide_eq_true_eq, reduceCtorEq, decide_false, decide_true, Bool.not_false, Bool.not_true, eq_self, upd_same, L2.upd_upd, List.cons.injEq, and_assoc]
        refine lc_w (J := Itt K ra) (n := its.length) (H1 := H7) (fun R h => ?_) walk_tup fun D nD => ⟨fun j Hj => Ext H7 Hj ∧ Hj D = some (.lst []),
          ⟨Ext.new nD, upd_same⟩, fun j Hj ⟨ej, _⟩ => SqT.of ((hB7.1.trans ej).1 _ _ hraB (by simp)), ?_, ?_⟩
        · unfold iTup
          simp only [tVar, tC, tOp, tUn, tTest, tChain, tNil, tCons, tTup, tLst, tCall, tMake, tCB, tIf, tAndV, tOrV, tNotV, tIsN, tNotN, tB, tAnd, tOr, tNot, tNext, tSeq, tDrop, tRet, tRetN, tIfS, tNever, gName, gNil, gCons, gSub, tAsg, tAug, tAugS, ipI, tBM, tBM0, tSl, tNoPart, tPart, tDGet, tDIn, tDNotIn, tDGet1, sDPut, tMth, tDNewT, tDNewK, tYes, rI0, rI, rU, rAdd, rSub, rEq, rNe, L2.start, List.map_cons, List.map_nil, List.length_cons, List.length_nil, List.replicate, List.append_nil, List.nil_append, List.cons_append, List.getElem?_cons_zero, List.getElem?_cons_succ, List.set_cons_zero, List.set_cons_succ, Option.some.injEq, V.int.injEq, V.bl.injEq, V.ref.injEq, V.str.injEq, exists_eq_left', exists_eq_left, exists_and_left, true_and, and_true, Nat.reduceAdd, Nat.reduceSub, Nat.add_one_sub_one, Nat.sub_self, Bool.true_eq_false, Bool.false_eq_true, if_true, if_false, ite_true, ite_false, cxOf, Cx.nox, decide_eq_true_eq, reduceCtorEq, decide_false, decide_true, Bool.not_false, Bool.not_true, eq_self, upd_same, L2.upd_upd, List.cons.injEq, and_assoc]
          exact ⟨⟨its, SqT.of (hB7.1.1 _ _ hraB (by simp))⟩, h⟩
        · rintro j xx Hj Hj2 hj ⟨ej, hD⟩ y
          obtain ⟨e1, hy⟩ := y
          subst e1
          simp only [tVar, tC, tOp, tUn, tTest, tChain, tNil, tCons, tTup, tLst, tCall, tMake, tCB, tIf, tAndV, tOrV, tNotV, tIsN, tNotN, tB, tAnd, tOr, tNot, tNext, tSeq, tDrop, tRet, tRetN, tIfS, tNever, gName, gNil, gCons, gSub, tAsg, tAug, tAugS, ipI, tBM, tBM0, tSl, tNoPart, tPart, tDGet, tDIn, tDNotIn, tDGet1, sDPut, tMth, tDNewT, tDNewK, tYes, rI0, rI, rU, rAdd, rSub, rEq, rNe, L2.start, List.map_cons, List.map_nil, List.length_cons, List.length_nil, List.replicate, List.append_nil, List.nil_append, List.cons_append, List.getElem?_cons_zero, List.getElem?_cons_succ, List.set_cons_zero, List.set_cons_succ, Option.some.injEq, V.int.injEq, V.bl.injEq, V.ref.injEq, V.str.injEq, exists_eq_left', exists_eq_left, exists_and_left, true_and, and_true, Nat.reduceAdd, Nat.reduceSub, Nat.add_one_sub_one, Nat.sub_self, Bool.true_eq_false, Bool.false_eq_true, if_true, if_false, ite_true, ite_false, cxOf, Cx.nox, decide_eq_true_eq, reduceCtorEq, decide_false, decide_true, Bool.not_false, Bool.not_true, eq_self, upd_same, L2.upd_upd, List.cons.injEq, and_assoc, wipe]
          obtain ⟨o, ho, hT⟩ := hAB.2 j xx hy
          have hmem : o ∈ wl := hwperm.mem_iff.mpr ((mem_whole rfl).mpr (hlist o (List.mem_of_getElem? ho)))
          have e8 := hB7.1.trans ej
          refine notin_LN (Tu.ext hT e8) ⟨wp, wits, rfl, e8.1 _ _ hwpB (by simp), hWB.imp fun _ _ zz => Tu.ext zz e8⟩ ?_
          rw [decide_eq_true hmem]
          refine ⟨false, rfl, ?_⟩
          rw [if_neg (by decide)]
          exact ⟨ej, hD⟩
        · rintro Hm ⟨em, hD⟩
          refine ls_len hD ⟨rfl, ?_⟩
          exact q Hm
end
end TW

set_option maxHeartbeats 0
/-! TyD: the end: facts by names, all defs, the head. -/
namespace TW
open PySem PySem.Spec PyProof.Rows L2
theorem fun_of {K : PySem.W.Frag} {x q : Str} {st : Stmt} {f : Addr} {fd : FuncData} (F : FunD K x q (defArgs st) (defBody st) (defScope st) [] [] f fd) : Fun K x q st f fd := by
  obtain ⟨oc, od, dV, kV, doc, pm, an, cdv, ct, osl, rfl, lk, hcd, hd, _⟩ := F.ex
  have e : dV = .none := by
    rcases hd with ⟨_, h⟩ | ⟨h, _⟩
    · exact h
    · exact absurd rfl h
  subst e
  exact ⟨⟨oc, od, kV, doc, pm, an, cdv, ct, osl, rfl, lk, hcd⟩, F.kp⟩
theorem func_of {K : PySem.W.Frag} {x q : Str} {st : Stmt} {p : He.Defn} {fd : FuncData} (F : FunD K x q (defArgs st) (defBody st) (defScope st) [] [] (He.fAd K p) fd) : FunC K x q st (He.fAd K p) fd (He.cT K p).1 := by
  obtain ⟨oc, od, dV, kV, doc, pm, an, cdv, ct, osl, rfl, lk, hcd, hd, _⟩ := F.ex
  have e : dV = .none := by
    rcases hd with ⟨_, h⟩ | ⟨h, _⟩
    · exact h
    · exact absurd rfl h
  subst e
  obtain ⟨c, rfl⟩ := He.codeIn_ref hcd
  have ec : (He.cT K p).1 = c := He.codeOf_eq lk rfl
  rw [ec]
  exact ⟨⟨oc, od, kV, doc, pm, an, ct, osl, rfl, lk, hcd⟩, F.kp⟩
abbrev dd (p : Str × Option Str) (x q : Str) (st : Stmt) : He.DefD := ⟨p, x, q, defArgs st, defBody st, defScope st, [], []⟩
def fnL : List He.DefD := [dd ("touched", none) "touched" "touched" sTouch, dd ("are_dependent", none) "are_dependent" "are_dependent" sDep, dd ("next_step", none) "next_step" "next_step" sNext, dd ("is_possible", none) "is_possible" "is_possible" sPoss, dd ("values_after", none) "values_after" "values_after" sVals, dd ("done_after", none) "done_after" "done_after" sAfter, dd ("played", none) "played" "played" sPlay, dd ("values_behind", none) "values_behind" "values_behind" sBehind, dd ("possible", none) "possible" "possible" sPossL, dd ("steps_of", none) "steps_of" "steps_of" sSteps, dd ("hang_together", none) "hang_together" "hang_together" sHang, dd ("all_before", none) "all_before" "all_before" sAllB, dd ("clocks", none) "clocks" "clocks" sClk, dd ("Cuts", some "later") "later" "Cuts.later" sLater, dd ("Cuts", some "meets") "meets" "Cuts.meets" sMeets, dd ("Cuts", some "find") "find" "Cuts.find" sFind, dd ("Cuts", some "__init__") "__init__" "Cuts.__init__" sCuts, dd ("Cuts", some "avoiding") "avoiding" "Cuts.avoiding" sAvoid, dd ("some", none) "some" "some" sSome, dd ("every", none) "every" "every" sEvery, dd ("first_run", none) "first_run" "first_run" sFirst, dd ("same_runs", none) "same_runs" "same_runs" sSame, dd ("barred_behind", none) "barred_behind" "barred_behind" sBar, dd ("Runs", some "go") "go" "Runs.go" sGo, dd ("Runs", some "__init__") "__init__" "Runs.__init__" sRunsI, dd ("runs", none) "runs" "runs" sRuns, dd ("_law_cell", none) "_law_cell" "_law_cell" sCell, dd ("_law_digits", none) "_law_digits" "_law_digits" sDig, dd ("_law_draw", none) "_law_draw" "_law_draw" sDraw, dd ("_law_same", none) "_law_same" "_law_same" sSm, dd ("_law_program", none) "_law_program" "_law_program" sProg, dd ("_law_open_threads", none) "_law_open_threads" "_law_open_threads" sOpen, dd ("_law_behind", none) "_law_behind" "_law_behind" sLBeh, dd ("_law_possible", none) "_law_possible" "_law_possible" sLPoss, dd ("_law_whole", none) "_law_whole" "_law_whole" sWhole, dd ("_law_by_thread", none) "_law_by_thread" "_law_by_thread" sByT, dd ("law", none) "law" "law" sLaw]
def tfL : List He.Defn := [("possible", none), ("Cuts", some "later"), ("Cuts", some "avoiding"), ("clocks", none), ("runs", none)]
def faL : List He.Fa := [.glo "touched", .glo "are_dependent", .glo "next_step", .glo "is_possible", .glo "values_after", .glo "done_after", .glo "played", .glo "values_behind", .glo "possible", .glo "steps_of", .glo "hang_together", .glo "all_before", .glo "clocks", .glo "some", .glo "every", .glo "first_run", .glo "same_runs", .glo "barred_behind", .glo "runs", .glo "_law_cell", .glo "_law_digits", .glo "_law_draw", .glo "_law_same", .glo "_law_program", .glo "_law_open_threads", .glo "_law_behind", .glo "_law_possible", .glo "_law_whole", .glo "_law_by_thread", .glo "law", .free "len", .free "range", .free "enumerate", .free "tuple", .free "sorted", .free "set", .free "dict", .free "zip", .free "all", .free "any", .free "min", .free "isinstance", .free "int", .free "bool", .free "str", .glo "Cuts", .cls "Cuts", .mkr "Cuts", .noat "Cuts" "program", .noat "Cuts" "clocks", .noat "Cuts" "numbers", .noat "Cuts" "last", .noat "Cuts" "first", .noat "Cuts" "shown", .noat "Cuts" "order", .glo "Runs", .cls "Runs", .mkr "Runs", .noat "Runs" "program", .noat "Runs" "found", .meth "Cuts" "later", .meth "Cuts" "meets", .meth "Cuts" "find", .meth "Cuts" "avoiding", .meth "Runs" "go"]
def exL (_ : PySem.W.Frag) : Bool := true
section
variable {P : Program} {w : World} {K : PySem.W.Frag} {mg : Str → Option Value} {h : Heap}
theorem law_ok {base : Heap} (X : K.In h) (G : h.Ns mainGlobals mg) (c : He.SaysX faL fnL [] tfL exL w h K) (TB : ∀ p ∈ tfL, GxR.TabB base mg (He.cT K p).1 (He.cT K p).2) {fd : FuncData} (F : Fun K "law" "law" sLaw (He.ga K "law") fd) :
    FnOk P w K mg base CX0 15 (He.ga K "law") fd ["_law_script"] (spLaw K (He.cT K ("possible", none)).2 (He.cT K ("Cuts", some "later")).2 (He.cT K ("Cuts", some "avoiding")).2 (He.cT K ("clocks", none)).2 (He.cT K ("runs", none)).2) := by
  have B : Bt mg := ⟨He.free_ok X G (c.t.d.fact 30 (f := .free "len") rfl), He.free_ok X G (c.t.d.fact 31 (f := .free "range") rfl), He.free_ok X G (c.t.d.fact 32 (f := .free "enumerate") rfl), He.free_ok X G (c.t.d.fact 33 (f := .free "tuple") rfl), He.free_ok X G (c.t.d.fact 34 (f := .free "sorted") rfl), He.free_ok X G (c.t.d.fact 35 (f := .free "set") rfl), He.free_ok X G (c.t.d.fact 36 (f := .free "dict") rfl), He.free_ok X G (c.t.d.fact 37 (f := .free "zip") rfl), He.free_ok X G (c.t.d.fact 38 (f := .free "all") rfl), He.free_ok X G (c.t.d.fact 39 (f := .free "any") rfl), He.free_ok X G (c.t.d.fact 40 (f := .free "min") rfl), He.free_ok X G (c.t.d.fact 41 (f := .free "isinstance") rfl), He.free_ok X G (c.t.d.fact 42 (f := .free "int") rfl), He.free_ok X G (c.t.d.fact 43 (f := .free "bool") rfl), He.free_ok X G (c.t.d.fact 44 (f := .free "str") rfl)⟩
  have ck : CK K (He.ga K "Cuts") := ⟨He.cls_ok (c.t.d.fact 46 (f := .cls "Cuts") rfl), He.noat_ok (c.t.d.fact 48 (f := .noat "Cuts" "program") rfl), He.noat_ok (c.t.d.fact 49 (f := .noat "Cuts" "clocks") rfl), He.noat_ok (c.t.d.fact 50 (f := .noat "Cuts" "numbers") rfl), He.noat_ok (c.t.d.fact 51 (f := .noat "Cuts" "last") rfl), He.noat_ok (c.t.d.fact 52 (f := .noat "Cuts" "first") rfl), He.noat_ok (c.t.d.fact 53 (f := .noat "Cuts" "shown") rfl), He.noat_ok (c.t.d.fact 54 (f := .noat "Cuts" "order") rfl)⟩
  have rk : RK K (He.ga K "Runs") := ⟨He.cls_ok (c.t.d.fact 56 (f := .cls "Runs") rfl), He.noat_ok (c.t.d.fact 58 (f := .noat "Runs" "program") rfl), He.noat_ok (c.t.d.fact 59 (f := .noat "Runs" "found") rfl)⟩
  have TBp : GxR.TabB base mg (He.cT K ("possible", none)).1 (He.cT K ("possible", none)).2 := TB _ (by decide)
  have TBa : GxR.TabB base mg (He.cT K ("Cuts", some "later")).1 (He.cT K ("Cuts", some "later")).2 := TB _ (by decide)
  have TBb : GxR.TabB base mg (He.cT K ("Cuts", some "avoiding")).1 (He.cT K ("Cuts", some "avoiding")).2 := TB _ (by decide)
  have TBc : GxR.TabB base mg (He.cT K ("clocks", none)).1 (He.cT K ("clocks", none)).2 := TB _ (by decide)
  have TBd : GxR.TabB base mg (He.cT K ("runs", none)).1 (He.cT K ("runs", none)).2 := TB _ (by decide)
  have C_touch : CTouch P w K mg base := by
    obtain ⟨fd, DD⟩ := c.t.d.def_ 0 (d := dd ("touched", none) "touched" "touched" sTouch) rfl
    have F : Fun K "touched" "touched" sTouch (He.fAd K ("touched", none)) fd := fun_of DD
    have b : Binds K fd ["step"] [] := F.binds fun _ _ _ _ _ _ us hl => match us, hl with | [_], _ => rfl
    have g : mg "touched" = some (.ref (He.fAd K ("touched", none))) := He.glo_ok X G (c.t.d.fact 0 (f := .glo "touched") rfl)
    exact ⟨_, fd, g, F.kp, b, ok_touch F B⟩
  have C_dep : CDep P w K mg base := by
    obtain ⟨fd, DD⟩ := c.t.d.def_ 1 (d := dd ("are_dependent", none) "are_dependent" "are_dependent" sDep) rfl
    have F : Fun K "are_dependent" "are_dependent" sDep (He.fAd K ("are_dependent", none)) fd := fun_of DD
    have b : Binds K fd ["one", "other"] [] := F.binds fun _ _ _ _ _ _ us hl => match us, hl with | [_, _], _ => rfl
    have g : mg "are_dependent" = some (.ref (He.fAd K ("are_dependent", none))) := He.glo_ok X G (c.t.d.fact 1 (f := .glo "are_dependent") rfl)
    exact ⟨_, fd, g, F.kp, b, ok_dep F C_touch⟩
  have C_next : CNext P w K mg base := by
    obtain ⟨fd, DD⟩ := c.t.d.def_ 2 (d := dd ("next_step", none) "next_step" "next_step" sNext) rfl
    have F : Fun K "next_step" "next_step" sNext (He.fAd K ("next_step", none)) fd := fun_of DD
    have b : Binds K fd ["program", "done", "thread"] [] := F.binds fun _ _ _ _ _ _ us hl => match us, hl with | [_, _, _], _ => rfl
    have g : mg "next_step" = some (.ref (He.fAd K ("next_step", none))) := He.glo_ok X G (c.t.d.fact 2 (f := .glo "next_step") rfl)
    exact ⟨_, fd, g, F.kp, b, ok_next F B⟩
  have C_poss : CPoss P w K mg base := by
    obtain ⟨fd, DD⟩ := c.t.d.def_ 3 (d := dd ("is_possible", none) "is_possible" "is_possible" sPoss) rfl
    have F : Fun K "is_possible" "is_possible" sPoss (He.fAd K ("is_possible", none)) fd := fun_of DD
    have b : Binds K fd ["program", "values", "done", "thread"] [] := F.binds fun _ _ _ _ _ _ us hl => match us, hl with | [_, _, _, _], _ => rfl
    have g : mg "is_possible" = some (.ref (He.fAd K ("is_possible", none))) := He.glo_ok X G (c.t.d.fact 3 (f := .glo "is_possible") rfl)
    exact ⟨_, fd, g, F.kp, b, ok_poss F C_next⟩
  have C_vals : CVals P w K mg base := by
    obtain ⟨fd, DD⟩ := c.t.d.def_ 4 (d := dd ("values_after", none) "values_after" "values_after" sVals) rfl
    have F : Fun K "values_after" "values_after" sVals (He.fAd K ("values_after", none)) fd := fun_of DD
    have b : Binds K fd ["values", "step"] [] := F.binds fun _ _ _ _ _ _ us hl => match us, hl with | [_, _], _ => rfl
    have g : mg "values_after" = some (.ref (He.fAd K ("values_after", none))) := He.glo_ok X G (c.t.d.fact 4 (f := .glo "values_after") rfl)
    exact ⟨_, fd, g, F.kp, b, ok_vals F⟩
  have C_after : CAfter P w K mg base := by
    obtain ⟨fd, DD⟩ := c.t.d.def_ 5 (d := dd ("done_after", none) "done_after" "done_after" sAfter) rfl
    have F : Fun K "done_after" "done_after" sAfter (He.fAd K ("done_after", none)) fd := fun_of DD
    have b : Binds K fd ["done", "thread"] [] := F.binds fun _ _ _ _ _ _ us hl => match us, hl with | [_, _], _ => rfl
    have g : mg "done_after" = some (.ref (He.fAd K ("done_after", none))) := He.glo_ok X G (c.t.d.fact 5 (f := .glo "done_after") rfl)
    exact ⟨_, fd, g, F.kp, b, ok_after F⟩
  have C_play : CPlay P w K mg base := by
    obtain ⟨fd, DD⟩ := c.t.d.def_ 6 (d := dd ("played", none) "played" "played" sPlay) rfl
    have F : Fun K "played" "played" sPlay (He.fAd K ("played", none)) fd := fun_of DD
    have b : Binds K fd ["program", "schedule"] [] := F.binds fun _ _ _ _ _ _ us hl => match us, hl with | [_, _], _ => rfl
    have g : mg "played" = some (.ref (He.fAd K ("played", none))) := He.glo_ok X G (c.t.d.fact 6 (f := .glo "played") rfl)
    exact ⟨_, fd, g, F.kp, b, ok_play F B C_next C_poss C_vals C_after⟩
  have C_behind : CBehind P w K mg base := by
    obtain ⟨fd, DD⟩ := c.t.d.def_ 7 (d := dd ("values_behind", none) "values_behind" "values_behind" sBehind) rfl
    have F : Fun K "values_behind" "values_behind" sBehind (He.fAd K ("values_behind", none)) fd := fun_of DD
    have b : Binds K fd ["program", "schedule"] [] := F.binds fun _ _ _ _ _ _ us hl => match us, hl with | [_, _], _ => rfl
    have g : mg "values_behind" = some (.ref (He.fAd K ("values_behind", none))) := He.glo_ok X G (c.t.d.fact 7 (f := .glo "values_behind") rfl)
    exact ⟨_, fd, g, F.kp, b, ok_behind F B C_play⟩
  have C_possL : CPos P w K mg base (He.cT K ("possible", none)).2 := by
    obtain ⟨fd, DD⟩ := c.t.d.def_ 8 (d := dd ("possible", none) "possible" "possible" sPossL) rfl
    have F : Fun K "possible" "possible" sPossL (He.fAd K ("possible", none)) fd := fun_of DD
    have FC : FunC K "possible" "possible" sPossL (He.fAd K ("possible", none)) fd (He.cT K ("possible", none)).1 := func_of DD
    have b : Binds K fd ["program", "schedule"] [] := F.binds fun _ _ _ _ _ _ us hl => match us, hl with | [_, _], _ => rfl
    have g : mg "possible" = some (.ref (He.fAd K ("possible", none))) := He.glo_ok X G (c.t.d.fact 8 (f := .glo "possible") rfl)
    exact ⟨_, fd, g, F.kp, b, ok_possL FC TBp B C_play C_poss⟩
  have C_steps : CSteps P w K mg base := by
    obtain ⟨fd, DD⟩ := c.t.d.def_ 9 (d := dd ("steps_of", none) "steps_of" "steps_of" sSteps) rfl
    have F : Fun K "steps_of" "steps_of" sSteps (He.fAd K ("steps_of", none)) fd := fun_of DD
    have b : Binds K fd ["program", "schedule"] [] := F.binds fun _ _ _ _ _ _ us hl => match us, hl with | [_, _], _ => rfl
    have g : mg "steps_of" = some (.ref (He.fAd K ("steps_of", none))) := He.glo_ok X G (c.t.d.fact 9 (f := .glo "steps_of") rfl)
    exact ⟨_, fd, g, F.kp, b, ok_steps F B C_next C_after⟩
  have C_hang : CHang P w K mg base := by
    obtain ⟨fd, DD⟩ := c.t.d.def_ 10 (d := dd ("hang_together", none) "hang_together" "hang_together" sHang) rfl
    have F : Fun K "hang_together" "hang_together" sHang (He.fAd K ("hang_together", none)) fd := fun_of DD
    have b : Binds K fd ["one", "other"] [] := F.binds fun _ _ _ _ _ _ us hl => match us, hl with | [_, _], _ => rfl
    have g : mg "hang_together" = some (.ref (He.fAd K ("hang_together", none))) := He.glo_ok X G (c.t.d.fact 10 (f := .glo "hang_together") rfl)
    exact ⟨_, fd, g, F.kp, b, ok_hang F C_dep⟩
  have C_allB : CAllB P w K mg base := by
    obtain ⟨fd, DD⟩ := c.t.d.def_ 11 (d := dd ("all_before", none) "all_before" "all_before" sAllB) rfl
    have F : Fun K "all_before" "all_before" sAllB (He.fAd K ("all_before", none)) fd := fun_of DD
    have b : Binds K fd ["program", "schedule"] [] := F.binds fun _ _ _ _ _ _ us hl => match us, hl with | [_, _], _ => rfl
    have g : mg "all_before" = some (.ref (He.fAd K ("all_before", none))) := He.glo_ok X G (c.t.d.fact 11 (f := .glo "all_before") rfl)
    exact ⟨_, fd, g, F.kp, b, ok_allB F B C_steps C_hang⟩
  have C_clk : CClk P w K mg base (He.cT K ("clocks", none)).2 := by
    obtain ⟨fd, DD⟩ := c.t.d.def_ 12 (d := dd ("clocks", none) "clocks" "clocks" sClk) rfl
    have F : Fun K "clocks" "clocks" sClk (He.fAd K ("clocks", none)) fd := fun_of DD
    have FC : FunC K "clocks" "clocks" sClk (He.fAd K ("clocks", none)) fd (He.cT K ("clocks", none)).1 := func_of DD
    have b : Binds K fd ["program", "schedule"] [] := F.binds fun _ _ _ _ _ _ us hl => match us, hl with | [_, _], _ => rfl
    have g : mg "clocks" = some (.ref (He.fAd K ("clocks", none))) := He.glo_ok X G (c.t.d.fact 12 (f := .glo "clocks") rfl)
    exact ⟨_, fd, g, F.kp, b, ok_clk FC TBc B C_allB⟩
  have C_later : CLater P w K mg base (He.ga K "Cuts") (He.cT K ("Cuts", some "later")).2 := by
    obtain ⟨fd, DD⟩ := c.t.d.def_ 13 (d := dd ("Cuts", some "later") "later" "Cuts.later" sLater) rfl
    have F : Fun K "later" "Cuts.later" sLater (He.fAd K ("Cuts", some "later")) fd := fun_of DD
    have FC : FunC K "later" "Cuts.later" sLater (He.fAd K ("Cuts", some "later")) fd (He.cT K ("Cuts", some "later")).1 := func_of DD
    have b : Binds K fd ["self", "cut"] [] := F.binds fun _ _ _ _ _ _ us hl => match us, hl with | [_, _], _ => rfl
    have mt : Meth K (He.ga K "Cuts") "later" (He.fAd K ("Cuts", some "later")) := He.meth_ok (c.t.d.fact 60 (f := .meth "Cuts" "later") rfl)
    exact ⟨_, fd, mt, b, ok_later FC TBa B ck C_after⟩
  have C_meets : CMeets P w K mg base (He.ga K "Cuts") := by
    obtain ⟨fd, DD⟩ := c.t.d.def_ 14 (d := dd ("Cuts", some "meets") "meets" "Cuts.meets" sMeets) rfl
    have F : Fun K "meets" "Cuts.meets" sMeets (He.fAd K ("Cuts", some "meets")) fd := fun_of DD
    have b : Binds K fd ["self", "cut", "condition"] [] := F.binds fun _ _ _ _ _ _ us hl => match us, hl with | [_, _, _], _ => rfl
    have mt : Meth K (He.ga K "Cuts") "meets" (He.fAd K ("Cuts", some "meets")) := He.meth_ok (c.t.d.fact 61 (f := .meth "Cuts" "meets") rfl)
    exact ⟨_, fd, mt, b, ok_meets F ck⟩
  have C_find : CFind P w K mg base (He.ga K "Cuts") (He.cT K ("Cuts", some "later")).2 := by
    obtain ⟨fd, DD⟩ := c.t.d.def_ 15 (d := dd ("Cuts", some "find") "find" "Cuts.find" sFind) rfl
    have F : Fun K "find" "Cuts.find" sFind (He.fAd K ("Cuts", some "find")) fd := fun_of DD
    have b : Binds K fd ["self"] [] := F.binds fun _ _ _ _ _ _ us hl => match us, hl with | [_], _ => rfl
    have mt : Meth K (He.ga K "Cuts") "find" (He.fAd K ("Cuts", some "find")) := He.meth_ok (c.t.d.fact 62 (f := .meth "Cuts" "find") rfl)
    exact ⟨_, fd, mt, b, ok_find F B ck C_later C_vals C_next⟩
  have C_cuts : CCuts P w K mg base (He.ga K "Cuts") (He.cT K ("Cuts", some "later")).2 (He.cT K ("clocks", none)).2 := by
    obtain ⟨fd, DD⟩ := c.t.d.def_ 16 (d := dd ("Cuts", some "__init__") "__init__" "Cuts.__init__" sCuts) rfl
    have F : Fun K "__init__" "Cuts.__init__" sCuts (He.fAd K ("Cuts", some "__init__")) fd := fun_of DD
    have b : Binds K fd ["self", "program", "schedule"] [] := F.binds fun _ _ _ _ _ _ us hl => match us, hl with | [_, _, _], _ => rfl
    exact ⟨He.fAd K ("Cuts", some "__init__"), fd, He.glo_ok X G (c.t.d.fact 45 (f := .glo "Cuts") rfl), He.mkr_ok (c.t.d.fact 47 (f := .mkr "Cuts") rfl), b, ok_cuts F B ck C_clk C_find⟩
  have C_avoid : CAvoid P w K mg base (He.ga K "Cuts") (He.cT K ("Cuts", some "later")).2 (He.cT K ("Cuts", some "avoiding")).2 := by
    obtain ⟨fd, DD⟩ := c.t.d.def_ 17 (d := dd ("Cuts", some "avoiding") "avoiding" "Cuts.avoiding" sAvoid) rfl
    have F : Fun K "avoiding" "Cuts.avoiding" sAvoid (He.fAd K ("Cuts", some "avoiding")) fd := fun_of DD
    have FC : FunC K "avoiding" "Cuts.avoiding" sAvoid (He.fAd K ("Cuts", some "avoiding")) fd (He.cT K ("Cuts", some "avoiding")).1 := func_of DD
    have b : Binds K fd ["self", "condition"] [] := F.binds fun _ _ _ _ _ _ us hl => match us, hl with | [_, _], _ => rfl
    have mt : Meth K (He.ga K "Cuts") "avoiding" (He.fAd K ("Cuts", some "avoiding")) := He.meth_ok (c.t.d.fact 63 (f := .meth "Cuts" "avoiding") rfl)
    exact ⟨_, fd, mt, b, ok_avoid FC TBb B ck C_later C_meets⟩
  have C_some : CSome P w K mg base (He.cT K ("Cuts", some "later")).2 (He.cT K ("clocks", none)).2 := by
    obtain ⟨fd, DD⟩ := c.t.d.def_ 18 (d := dd ("some", none) "some" "some" sSome) rfl
    have F : Fun K "some" "some" sSome (He.fAd K ("some", none)) fd := fun_of DD
    have b : Binds K fd ["program", "schedule", "condition"] [] := F.binds fun _ _ _ _ _ _ us hl => match us, hl with | [_, _, _], _ => rfl
    have g : mg "some" = some (.ref (He.fAd K ("some", none))) := He.glo_ok X G (c.t.d.fact 13 (f := .glo "some") rfl)
    exact ⟨_, fd, g, F.kp, b, ok_some F B ck C_cuts C_later C_meets⟩
  have C_every : CEvery P w K mg base (He.cT K ("Cuts", some "later")).2 (He.cT K ("Cuts", some "avoiding")).2 (He.cT K ("clocks", none)).2 := by
    obtain ⟨fd, DD⟩ := c.t.d.def_ 19 (d := dd ("every", none) "every" "every" sEvery) rfl
    have F : Fun K "every" "every" sEvery (He.fAd K ("every", none)) fd := fun_of DD
    have b : Binds K fd ["program", "schedule", "condition"] [] := F.binds fun _ _ _ _ _ _ us hl => match us, hl with | [_, _, _], _ => rfl
    have g : mg "every" = some (.ref (He.fAd K ("every", none))) := He.glo_ok X G (c.t.d.fact 14 (f := .glo "every") rfl)
    exact ⟨_, fd, g, F.kp, b, ok_every F B ck C_cuts C_later C_avoid⟩
  have C_first : CFirst P w K mg base (He.cT K ("Cuts", some "later")).2 (He.cT K ("clocks", none)).2 := by
    obtain ⟨fd, DD⟩ := c.t.d.def_ 20 (d := dd ("first_run", none) "first_run" "first_run" sFirst) rfl
    have F : Fun K "first_run" "first_run" sFirst (He.fAd K ("first_run", none)) fd := fun_of DD
    have b : Binds K fd ["program", "schedule"] [] := F.binds fun _ _ _ _ _ _ us hl => match us, hl with | [_, _], _ => rfl
    have g : mg "first_run" = some (.ref (He.fAd K ("first_run", none))) := He.glo_ok X G (c.t.d.fact 15 (f := .glo "first_run") rfl)
    exact ⟨_, fd, g, F.kp, b, ok_first F B ck C_cuts C_later⟩
  have C_same : CSame P w K mg base (He.cT K ("Cuts", some "later")).2 (He.cT K ("clocks", none)).2 := by
    obtain ⟨fd, DD⟩ := c.t.d.def_ 21 (d := dd ("same_runs", none) "same_runs" "same_runs" sSame) rfl
    have F : Fun K "same_runs" "same_runs" sSame (He.fAd K ("same_runs", none)) fd := fun_of DD
    have b : Binds K fd ["program", "schedule", "other"] [] := F.binds fun _ _ _ _ _ _ us hl => match us, hl with | [_, _, _], _ => rfl
    have g : mg "same_runs" = some (.ref (He.fAd K ("same_runs", none))) := He.glo_ok X G (c.t.d.fact 16 (f := .glo "same_runs") rfl)
    exact ⟨_, fd, g, F.kp, b, ok_same F C_first⟩
  have C_bar : CBar P w K mg base := by
    obtain ⟨fd, DD⟩ := c.t.d.def_ 22 (d := dd ("barred_behind", none) "barred_behind" "barred_behind" sBar) rfl
    have F : Fun K "barred_behind" "barred_behind" sBar (He.fAd K ("barred_behind", none)) fd := fun_of DD
    have b : Binds K fd ["program", "done", "barred", "thread"] [] := F.binds fun _ _ _ _ _ _ us hl => match us, hl with | [_, _, _, _], _ => rfl
    have g : mg "barred_behind" = some (.ref (He.fAd K ("barred_behind", none))) := He.glo_ok X G (c.t.d.fact 17 (f := .glo "barred_behind") rfl)
    exact ⟨_, fd, g, F.kp, b, ok_bar F B C_next C_dep⟩
  have C_go : CGo P w K mg base (He.ga K "Runs") := by
    obtain ⟨fd, DD⟩ := c.t.d.def_ 23 (d := dd ("Runs", some "go") "go" "Runs.go" sGo) rfl
    have F : Fun K "go" "Runs.go" sGo (He.fAd K ("Runs", some "go")) fd := fun_of DD
    have b : Binds K fd ["self", "values", "done", "barred", "way"] [] := F.binds fun _ _ _ _ _ _ us hl => match us, hl with | [_, _, _, _, _], _ => rfl
    have mt : Meth K (He.ga K "Runs") "go" (He.fAd K ("Runs", some "go")) := He.meth_ok (c.t.d.fact 64 (f := .meth "Runs" "go") rfl)
    exact ⟨_, fd, mt, b, ok_go F mt b B rk C_poss C_next C_bar C_vals C_after 7⟩
  have C_runsI : CRuns P w K mg base (He.ga K "Runs") := by
    obtain ⟨fd, DD⟩ := c.t.d.def_ 24 (d := dd ("Runs", some "__init__") "__init__" "Runs.__init__" sRunsI) rfl
    have F : Fun K "__init__" "Runs.__init__" sRunsI (He.fAd K ("Runs", some "__init__")) fd := fun_of DD
    have b : Binds K fd ["self", "program"] [] := F.binds fun _ _ _ _ _ _ us hl => match us, hl with | [_, _], _ => rfl
    exact ⟨He.fAd K ("Runs", some "__init__"), fd, He.glo_ok X G (c.t.d.fact 55 (f := .glo "Runs") rfl), He.mkr_ok (c.t.d.fact 57 (f := .mkr "Runs") rfl), b, ok_runsI F B rk C_go⟩
  have C_runs : CRn P w K mg base (He.cT K ("runs", none)).2 := by
    obtain ⟨fd, DD⟩ := c.t.d.def_ 25 (d := dd ("runs", none) "runs" "runs" sRuns) rfl
    have F : Fun K "runs" "runs" sRuns (He.fAd K ("runs", none)) fd := fun_of DD
    have FC : FunC K "runs" "runs" sRuns (He.fAd K ("runs", none)) fd (He.cT K ("runs", none)).1 := func_of DD
    have b : Binds K fd ["program"] [] := F.binds fun _ _ _ _ _ _ us hl => match us, hl with | [_], _ => rfl
    have g : mg "runs" = some (.ref (He.fAd K ("runs", none))) := He.glo_ok X G (c.t.d.fact 18 (f := .glo "runs") rfl)
    exact ⟨_, fd, g, F.kp, b, ok_runs FC TBd B rk C_runsI⟩
  have C_cell : CCell P w K mg base := by
    obtain ⟨fd, DD⟩ := c.t.d.def_ 26 (d := dd ("_law_cell", none) "_law_cell" "_law_cell" sCell) rfl
    have F : Fun K "_law_cell" "_law_cell" sCell (He.fAd K ("_law_cell", none)) fd := fun_of DD
    have b : Binds K fd ["_law_script", "_law_k"] [] := F.binds fun _ _ _ _ _ _ us hl => match us, hl with | [_, _], _ => rfl
    have g : mg "_law_cell" = some (.ref (He.fAd K ("_law_cell", none))) := He.glo_ok X G (c.t.d.fact 19 (f := .glo "_law_cell") rfl)
    exact ⟨_, fd, g, F.kp, b, ok_cellW F B⟩
  have C_dig : CDig P w K mg base := by
    obtain ⟨fd, DD⟩ := c.t.d.def_ 27 (d := dd ("_law_digits", none) "_law_digits" "_law_digits" sDig) rfl
    have F : Fun K "_law_digits" "_law_digits" sDig (He.fAd K ("_law_digits", none)) fd := fun_of DD
    have b : Binds K fd ["_law_script", "_law_first", "_law_last"] [] := F.binds fun _ _ _ _ _ _ us hl => match us, hl with | [_, _, _], _ => rfl
    have g : mg "_law_digits" = some (.ref (He.fAd K ("_law_digits", none))) := He.glo_ok X G (c.t.d.fact 20 (f := .glo "_law_digits") rfl)
    exact ⟨_, fd, g, F.kp, b, ok_dig F B C_cell⟩
  have C_draw : CDraw P w K mg base := by
    obtain ⟨fd, DD⟩ := c.t.d.def_ 28 (d := dd ("_law_draw", none) "_law_draw" "_law_draw" sDraw) rfl
    have F : Fun K "_law_draw" "_law_draw" sDraw (He.fAd K ("_law_draw", none)) fd := fun_of DD
    have b : Binds K fd ["_law_box", "_law_many"] [] := F.binds fun _ _ _ _ _ _ us hl => match us, hl with | [_, _], _ => rfl
    have g : mg "_law_draw" = some (.ref (He.fAd K ("_law_draw", none))) := He.glo_ok X G (c.t.d.fact 21 (f := .glo "_law_draw") rfl)
    exact ⟨_, fd, g, F.kp, b, ok_draw F B⟩
  have C_sm : CSm P w K mg base := by
    obtain ⟨fd, DD⟩ := c.t.d.def_ 29 (d := dd ("_law_same", none) "_law_same" "_law_same" sSm) rfl
    have F : Fun K "_law_same" "_law_same" sSm (He.fAd K ("_law_same", none)) fd := fun_of DD
    have b : Binds K fd ["_law_actual", "_law_expected"] [] := F.binds fun _ _ _ _ _ _ us hl => match us, hl with | [_, _], _ => rfl
    have g : mg "_law_same" = some (.ref (He.fAd K ("_law_same", none))) := He.glo_ok X G (c.t.d.fact 22 (f := .glo "_law_same") rfl)
    exact ⟨_, fd, g, F.kp, b, ok_sm F g F.kp b B 2⟩
  have C_prog : CProg P w K mg base := by
    obtain ⟨fd, DD⟩ := c.t.d.def_ 30 (d := dd ("_law_program", none) "_law_program" "_law_program" sProg) rfl
    have F : Fun K "_law_program" "_law_program" sProg (He.fAd K ("_law_program", none)) fd := fun_of DD
    have b : Binds K fd ["_law_box", "_law_threads", "_law_most"] [] := F.binds fun _ _ _ _ _ _ us hl => match us, hl with | [_, _, _], _ => rfl
    have g : mg "_law_program" = some (.ref (He.fAd K ("_law_program", none))) := He.glo_ok X G (c.t.d.fact 23 (f := .glo "_law_program") rfl)
    exact ⟨_, fd, g, F.kp, b, ok_prog F B C_draw⟩
  have C_open : COpen P w K mg base := by
    obtain ⟨fd, DD⟩ := c.t.d.def_ 31 (d := dd ("_law_open_threads", none) "_law_open_threads" "_law_open_threads" sOpen) rfl
    have F : Fun K "_law_open_threads" "_law_open_threads" sOpen (He.fAd K ("_law_open_threads", none)) fd := fun_of DD
    have b : Binds K fd ["_law_program_here", "_law_counts", "_law_values"] [] := F.binds fun _ _ _ _ _ _ us hl => match us, hl with | [_, _, _], _ => rfl
    have g : mg "_law_open_threads" = some (.ref (He.fAd K ("_law_open_threads", none))) := He.glo_ok X G (c.t.d.fact 24 (f := .glo "_law_open_threads") rfl)
    exact ⟨_, fd, g, F.kp, b, ok_open F B⟩
  have C_lbeh : CBeh P w K mg base := by
    obtain ⟨fd, DD⟩ := c.t.d.def_ 32 (d := dd ("_law_behind", none) "_law_behind" "_law_behind" sLBeh) rfl
    have F : Fun K "_law_behind" "_law_behind" sLBeh (He.fAd K ("_law_behind", none)) fd := fun_of DD
    have b : Binds K fd ["_law_program_here", "_law_schedule"] [] := F.binds fun _ _ _ _ _ _ us hl => match us, hl with | [_, _], _ => rfl
    have g : mg "_law_behind" = some (.ref (He.fAd K ("_law_behind", none))) := He.glo_ok X G (c.t.d.fact 25 (f := .glo "_law_behind") rfl)
    exact ⟨_, fd, g, F.kp, b, ok_lbeh F B C_open⟩
  have C_lposs : CLPoss P w K mg base := by
    obtain ⟨fd, DD⟩ := c.t.d.def_ 33 (d := dd ("_law_possible", none) "_law_possible" "_law_possible" sLPoss) rfl
    have F : Fun K "_law_possible" "_law_possible" sLPoss (He.fAd K ("_law_possible", none)) fd := fun_of DD
    have b : Binds K fd ["_law_program_here", "_law_schedule"] [] := F.binds fun _ _ _ _ _ _ us hl => match us, hl with | [_, _], _ => rfl
    have g : mg "_law_possible" = some (.ref (He.fAd K ("_law_possible", none))) := He.glo_ok X G (c.t.d.fact 26 (f := .glo "_law_possible") rfl)
    exact ⟨_, fd, g, F.kp, b, ok_lposs F B C_lbeh C_open⟩
  have C_whole : CWhole P w K mg base := by
    obtain ⟨fd, DD⟩ := c.t.d.def_ 34 (d := dd ("_law_whole", none) "_law_whole" "_law_whole" sWhole) rfl
    have F : Fun K "_law_whole" "_law_whole" sWhole (He.fAd K ("_law_whole", none)) fd := fun_of DD
    have b : Binds K fd ["_law_program_here"] [] := F.binds fun _ _ _ _ _ _ us hl => match us, hl with | [_], _ => rfl
    have g : mg "_law_whole" = some (.ref (He.fAd K ("_law_whole", none))) := He.glo_ok X G (c.t.d.fact 27 (f := .glo "_law_whole") rfl)
    exact ⟨_, fd, g, F.kp, b, ok_whole F B C_lposs⟩
  have C_byt : CByT P w K mg base := by
    obtain ⟨fd, DD⟩ := c.t.d.def_ 35 (d := dd ("_law_by_thread", none) "_law_by_thread" "_law_by_thread" sByT) rfl
    have F : Fun K "_law_by_thread" "_law_by_thread" sByT (He.fAd K ("_law_by_thread", none)) fd := fun_of DD
    have b : Binds K fd ["_law_schedule", "_law_rows"] [] := F.binds fun _ _ _ _ _ _ us hl => match us, hl with | [_, _], _ => rfl
    have g : mg "_law_by_thread" = some (.ref (He.fAd K ("_law_by_thread", none))) := He.glo_ok X G (c.t.d.fact 28 (f := .glo "_law_by_thread") rfl)
    exact ⟨_, fd, g, F.kp, b, ok_byt F B⟩
  exact ok_law F B C_dig C_prog C_runs C_possL C_whole C_draw C_same C_first C_sm C_behind C_byt C_clk C_some C_every
end
abbrev RR : PySem.W.OpenRow := PySem.W.OpenLaw.row PySem.Challenge.rw_traceclasses_k97_whole_one_run_for_each
abbrev hk : PySem.W.Hook := He.hookX 5 faL fnL [] tfL exL
def ob (s : PySem.W.SharedT) : He.AlX := He.obsX 5 faL fnL [] tfL exL (HandSHeadRun.getT s)
theorem ob_eq (s : PySem.W.SharedT) : ob s = hk.obs s.abs := He.obsX_eq (HandSHeadRun.getT_eq s)
def looseL : List Str := (["TraceFault", "ScheduleFault", "touched", "are_dependent", "next_step", "is_possible", "values_after", "done_after", "played", "values_behind", "possible", "steps_of"] : List Str) ++ (["hang_together", "all_before", "clocks", "some", "every", "first_run", "same_runs", "barred_behind", "runs", "_law_cell", "_law_digits", "_law_draw"] : List Str) ++ (["_law_same", "_law_program", "_law_open_threads", "_law_behind", "_law_possible", "_law_whole", "_law_by_thread", "Cuts", "Runs"] : List Str)
theorem run (w : World) : HandSHeadRun.RunEq RR (PySem.W.view RR.prog [38]) hk ob 4000 looseL w := by
  intro os
  kernel_rfl
theorem law_at {w : World} {mg : Str → Option Value} {fa : Addr} {h : Heap} {P : Program} (Y : hk.says w h) (G : h.Ns mainGlobals mg) (hmg : mg ("law" : Str) = some (.ref fa)) :
    ∃ K : PySem.W.Frag, K.In h ∧ ∃ (fd : FuncData) (cs : List (Addr × Addr)) (sp : Sp), (∀ p ∈ cs, h.get? p.2 = some { cls := .none, data := .fields #[] }) ∧ (∀ p ∈ cs, K.lookup p.2 = none) ∧ (∀ p ∈ cs, PySem.W.CodeHd h p.1 p.2) ∧ (∀ (s : Shared) (u : Value), BindsTo s fd ⟨[u], []⟩ [("_law_script", u)]) ∧
    (∀ (H : Hp) (a : Addr) (ns : List Int), ns.length ≤ 63 → (∀ z ∈ ns, Builtin.Int.intBits z ≤ 1048576) → (∀ p ∈ cs, H p.2 = some (.tbl #[])) → SqL K H a (ns.map V.int) → sp [.ref a] H (fun v _ => v = .bl true) fun _ _ _ => False) ∧
    ∀ base : Heap, K.In base → base.Ns mainGlobals mg → (∀ p ∈ cs, LamX.TabB base mg p.1 p.2) → FnOk P w K mg base CX0 15 fa fd ["_law_script"] sp := by
  obtain ⟨K, X, c⟩ := Y
  have c : He.SaysX faL fnL [] tfL exL w h K := c
  obtain ⟨fd, DD⟩ := c.t.d.def_ 36 (d := dd ("law", none) "law" "law" sLaw) rfl
  have e := hmg.symm.trans (He.glo_ok X G (c.t.d.fact 29 (f := .glo "law") rfl))
  cases e
  have F : Fun K "law" "law" sLaw (He.ga K "law") fd := fun_of DD
  have b := FunD.bindsA (ps := ["_law_script"]) DD fun _ _ _ _ _ _ us hl => match us, hl with | [_], _ => rfl
  have mem : ∀ {p : He.Defn}, p ∈ tfL → He.cT K p ∈ tfL.map (He.cT K) := fun hp => List.mem_map.mpr ⟨_, hp, rfl⟩
  refine ⟨K, X, fd, tfL.map (He.cT K), spLaw K (He.cT K ("possible", none)).2 (He.cT K ("Cuts", some "later")).2 (He.cT K ("Cuts", some "avoiding")).2 (He.cT K ("clocks", none)).2 (He.cT K ("runs", none)).2, fun p hp => ?_, fun p hp => ?_, fun p hp => ?_, fun s v => b s [v] rfl, fun H a ns hl hb hT hS => ?_, fun base KB GB TB => ?_⟩
  · obtain ⟨q, hq, rfl⟩ := List.mem_map.mp hp
    exact c.empty q hq
  · obtain ⟨q, hq, rfl⟩ := List.mem_map.mp hp
    exact c.out q hq
  · obtain ⟨q, hq, rfl⟩ := List.mem_map.mp hp
    exact PySem.W.codeHd_of_K X (c.hd q hq)
  · have tg : ∀ {p : He.Defn}, p ∈ tfL → GxR.TabG H (He.cT K p).2 := fun hp => ⟨#[], hT _ (mem hp), by simp [TriplesOk]⟩
    exact ⟨a, ns, rfl, hS, tg (by decide), tg (by decide), tg (by decide), tg (by decide), tg (by decide), fun _ => rfl⟩
  · exact law_ok X G c (fun p hp => let t := TB _ (mem hp); ⟨t.code, t.bm, t.gP⟩) F
end TW
open PySem PySem.W PySem.Calls PyProof.Rows
theorem PySem.Challenge.cw_traceclasses_k97_whole_one_run_for_each_holds : PySem.Challenge.rw_traceclasses_k97_whole_one_run_for_each.Holds := by
  w_on; o_law
  refine HandSHeadRun.head_any (r := TW.RR) (q := view TW.RR.prog [38]) (H := TW.hk) (ob := TW.ob) (M := 4000) (loose := TW.looseL) (d := HandSHeadRun.topDef TW.RR.prog 38) (kwd := []) TW.ob_eq
    (by kernel_rfl) (fun s => by kernel_rfl) TW.run (by kernel_rfl) (by kernel_rfl) (by kernel_rfl) (by rfl) (by first | assumption | decide +kernel) (by decide +kernel) ⟨rfl, rfl, rfl, rfl, rfl, by decide +kernel⟩ ?hw ?hc
  case hw => w_witness2
  case hc =>
    refine LamX.walk_ofTsE (l := PySem.Challenge.rw_traceclasses_k97_whole_one_run_for_each) (n := 63) (k := 15) (x := "_law_script") (CX := fun _ => L2.CX0) rfl (by decide) (by kernel_rfl) ⟨rfl, by decide, by decide⟩ ?F (fun _ _ _ _ _ z => z)
    intro w mg fa h Y G hmg0
    have hmg : mg ("law" : PySem.Str) = some (.ref fa) := by
      have e : (HandSHeadRun.topDef TW.RR.prog 38).name = ("law" : PySem.Str) := by kernel_rfl
      rw [← e]
      exact hmg0
    exact TW.law_at Y G hmg
