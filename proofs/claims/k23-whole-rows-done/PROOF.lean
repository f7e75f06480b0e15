import PyProof.Rows.All
import Wide.All
import OpenK.AllK
import Wide.FinOn
import KE.SortData
import PyProof.P3Eq
import HandS.ForMost
import HandS.ForExc
import HandS.TryMany
import HandS.IsInst
import HandS.DictTup
import HandS.Wide
import HandS.Walk
import HandS.ListItems
import KE.KDictItemsList
import KE.KDictCopyH
import KE.KDictKeyed
import HandS.Codes
import PySem.Challenge.RW_forerun_k23_whole_rows_done
set_option Elab.async false
set_option maxRecDepth 100000
set_option maxHeartbeats 4000000
/-! FRA: the plain model of dealings done on a table: numbers, terms, slots, rows. No Python here. -/
namespace FR
open PySem

abbrev Ky := Sum Int Str
def BIG : Int := 1000000000000000000000000000000
def inR (v : Int) : Prop := -BIG ≤ v ∧ v ≤ BIG
instance (v : Int) : Decidable (inR v) := by unfold inR; exact inferInstance
def doers : List Str := ["plus", "minus", "times", "over", "rest", "under", "same"]
inductive Why where
  | told | great | nought
  deriving DecidableEq
def Why.str : Why → Str
  | .told => "told"
  | .great => "great"
  | .nought => "nought"

/-! ### tables as lists of pairs -/
section
variable {α : Type} [DecidableEq α]
def aGet : List (α × Int) → α → Option Int
  | [], _ => none
  | p :: r, a => if p.1 = a then some p.2 else aGet r a
def aPut : List (α × Int) → α → Int → List (α × Int)
  | [], a, v => [(a, v)]
  | p :: r, a, v => if p.1 = a then (a, v) :: r else p :: aPut r a v
def keysOf (l : List (α × Int)) : List α := l.map (·.1)
theorem aGet_none {l : List (α × Int)} {a : α} : aGet l a = none ↔ a ∉ keysOf l := by
  induction l with
  | nil => simp [aGet, keysOf]
  | cons p r ih =>
    unfold aGet
    by_cases h : p.1 = a
    · simp [h, keysOf]
    · rw [if_neg h, ih]
      simp [keysOf, Ne.symm h]
theorem aGet_put (l : List (α × Int)) (a b : α) (v : Int) : aGet (aPut l a v) b = if b = a then some v else aGet l b := by
  induction l with
  | nil =>
    unfold aPut aGet aGet
    by_cases h : b = a
    · simp [h]
    · rw [if_neg (fun e => h e.symm), if_neg h]
  | cons p r ih =>
    unfold aPut
    by_cases h : p.1 = a
    · rw [if_pos h]
      by_cases hb : b = a
      · simp [aGet, hb]
      · have : ¬ a = b := fun e => hb e.symm
        have h2 : ¬ p.1 = b := fun e => hb (e.symm.trans h)
        simp only [aGet, this, h2, if_false, hb]
    · rw [if_neg h]
      simp only [aGet]
      rw [ih]
      by_cases hp : p.1 = b
      · have hb : ¬ b = a := fun e => h (hp.trans e)
        rw [if_pos hp, if_neg hb, if_pos hp]
      · rw [if_neg hp]
        by_cases hb : b = a
        · rw [if_pos hb, if_pos hb]
        · rw [if_neg hb, if_neg hb, if_neg hp]
theorem keys_put (l : List (α × Int)) (a : α) (v : Int) : keysOf (aPut l a v) = if a ∈ keysOf l then keysOf l else keysOf l ++ [a] := by
  induction l with
  | nil => simp [aPut, keysOf]
  | cons p r ih =>
    unfold aPut
    by_cases h : p.1 = a
    · rw [if_pos h]
      simp [keysOf, h]
    · rw [if_neg h]
      have h' : ¬ a = p.1 := fun e => h e.symm
      show p.1 :: keysOf (aPut r a v) = if a ∈ p.1 :: keysOf r then p.1 :: keysOf r else p.1 :: keysOf r ++ [a]
      rw [ih]
      by_cases hm : a ∈ keysOf r
      · rw [if_pos hm, if_pos (List.mem_cons_of_mem _ hm)]
      · rw [if_neg hm, if_neg (by simp [h', hm])]
        rfl
theorem nodup_put {l : List (α × Int)} (h : (keysOf l).Nodup) (a : α) (v : Int) : (keysOf (aPut l a v)).Nodup := by
  rw [keys_put]
  split
  · exact h
  · rename_i hm
    rw [List.nodup_append]
    refine ⟨h, by simp, fun x hx y hy => ?_⟩
    have : y = a := by simpa using hy
    subst this
    exact fun e => hm (e ▸ hx)
theorem put_new {l : List (α × Int)} {a : α} (v : Int) (h : a ∉ keysOf l) : aPut l a v = l ++ [(a, v)] := by
  induction l with
  | nil => rfl
  | cons p r ih =>
    have h1 : ¬ p.1 = a := fun e => h (by simp [keysOf, e])
    have h2 : a ∉ keysOf r := fun e => h (List.mem_cons_of_mem _ e)
    unfold aPut
    rw [if_neg h1, ih h2]
    rfl
theorem length_put (l : List (α × Int)) (a : α) (v : Int) : (aPut l a v).length ≤ l.length + 1 := by
  induction l with
  | nil => simp [aPut]
  | cons p r ih =>
    unfold aPut
    split
    · simp
    · simp only [List.length_cons]; omega
theorem mem_put {l : List (α × Int)} {a : α} {v : Int} {p : α × Int} (h : p ∈ aPut l a v) : p = (a, v) ∨ p ∈ l := by
  induction l with
  | nil => exact .inl (by simpa [aPut] using h)
  | cons q r ih =>
    unfold aPut at h
    split at h
    · rcases List.mem_cons.mp h with e | e
      · exact .inl e
      · exact .inr (List.mem_cons_of_mem _ e)
    · rcases List.mem_cons.mp h with e | e
      · exact .inr (by simp [e])
      · rcases ih e with z | z
        · exact .inl z
        · exact .inr (List.mem_cons_of_mem _ z)
theorem aGet_mem {l : List (α × Int)} {a : α} {v : Int} (h : aGet l a = some v) : (a, v) ∈ l := by
  induction l with
  | nil => cases h
  | cons p r ih =>
    unfold aGet at h
    split at h
    · rename_i e
      have e2 : p.2 = v := Option.some.inj h
      have : p = (a, v) := by rw [← e, ← e2]
      rw [← this]
      exact List.mem_cons_self ..
    · exact List.mem_cons_of_mem _ (ih h)
/-- more laid on l, one after the other -/
def aMerge (l more : List (α × Int)) : List (α × Int) := more.foldl (fun acc p => aPut acc p.1 p.2) l
theorem merge_nil (l : List (α × Int)) : aMerge l [] = l := rfl
theorem merge_cons (l : List (α × Int)) (p : α × Int) (r : List (α × Int)) : aMerge l (p :: r) = aMerge (aPut l p.1 p.2) r := rfl
theorem merge_snoc (l r : List (α × Int)) (p : α × Int) : aMerge l (r ++ [p]) = aPut (aMerge l r) p.1 p.2 := by
  unfold aMerge
  rw [List.foldl_append]
  rfl
/-- a place that stands already: two puts at different places may change their turns -/
theorem put_put {l : List (α × Int)} {a b : α} (v w : Int) (hne : a ≠ b) (ha : a ∈ keysOf l) : aPut (aPut l b w) a v = aPut (aPut l a v) b w := by
  induction l with
  | nil => simp [keysOf] at ha
  | cons p r ih =>
    by_cases h1 : p.1 = a
    · have h2 : ¬ p.1 = b := fun e => hne (h1.symm.trans e)
      simp only [aPut, h1, if_true]
      have h3 : ¬ a = b := hne
      rw [if_neg h3]
      simp only [aPut, h1, if_true, h3, if_false]
    · have hr : a ∈ keysOf r := by
        rcases List.mem_cons.mp ha with e | e
        · exact absurd e.symm h1
        · exact e
      by_cases h2 : p.1 = b
      · simp only [aPut, h2, if_true]
        have h3 : ¬ b = a := fun e => hne e.symm
        rw [if_neg h3]
        simp only [aPut, h2, if_true, h3, if_false]
      · simp only [aPut, h1, h2, if_false]
        rw [ih hr]
theorem put_same (l : List (α × Int)) (a : α) (v w : Int) : aPut (aPut l a w) a v = aPut l a v := by
  induction l with
  | nil => simp [aPut]
  | cons p r ih =>
    by_cases h : p.1 = a
    · simp [aPut, h]
    · simp only [aPut, h, if_false]
      rw [ih]
theorem keys_merge_sub (l : List (α × Int)) : ∀ (r : List (α × Int)) (a : α), a ∈ keysOf l → a ∈ keysOf (aMerge l r)
  | [], _, h => h
  | p :: r, a, h => by
    rw [merge_cons]
    refine keys_merge_sub _ r a ?_
    rw [keys_put]
    split
    · exact h
    · exact List.mem_append_left _ h
theorem merge_comm (a : α) (v : Int) : ∀ (r l : List (α × Int)), a ∉ keysOf r → a ∈ keysOf l → aMerge (aPut l a v) r = aPut (aMerge l r) a v
  | [], _, _, _ => rfl
  | p :: r, l, h, ha => by
    have h1 : a ≠ p.1 := fun e => h (by simp [keysOf, e])
    have h2 : a ∉ keysOf r := fun e => h (List.mem_cons_of_mem _ e)
    rw [merge_cons, merge_cons, ← put_put v p.2 h1 ha]
    refine merge_comm a v r (aPut l p.1 p.2) h2 ?_
    rw [keys_put]
    split
    · exact ha
    · exact List.mem_append_left _ ha
/-- gifts laid on a table: one more gift -/
theorem merge_put : ∀ (G T : List (α × Int)) (a : α) (v : Int), (keysOf G).Nodup → aMerge T (aPut G a v) = aPut (aMerge T G) a v
  | [], T, a, v, _ => rfl
  | p :: r, T, a, v, hn => by
    have hn' : p.1 ∉ keysOf r ∧ (keysOf r).Nodup := List.nodup_cons.mp hn
    by_cases h : p.1 = a
    · have e : aPut (p :: r) a v = (a, v) :: r := by simp [aPut, h]
      rw [e, merge_cons, merge_cons]
      have hr : a ∉ keysOf r := h ▸ hn'.1
      show aMerge (aPut T a v) r = aPut (aMerge (aPut T p.1 p.2) r) a v
      rw [h, ← merge_comm a v r (aPut T a p.2) hr (by
        rw [keys_put]
        split
        · assumption
        · simp), put_same]
    · have e : aPut (p :: r) a v = p :: aPut r a v := by simp [aPut, h]
      rw [e, merge_cons, merge_cons]
      exact merge_put r (aPut T p.1 p.2) a v hn'.2
theorem aGet_merge : ∀ (G T : List (α × Int)) (a : α), (keysOf G).Nodup → aGet (aMerge T G) a = (aGet G a).or (aGet T a)
  | [], T, a, _ => by simp [merge_nil, aGet]
  | p :: r, T, a, hn => by
    have hn' : p.1 ∉ keysOf r ∧ (keysOf r).Nodup := List.nodup_cons.mp hn
    rw [merge_cons, aGet_merge r _ a hn'.2, aGet_put]
    by_cases h : a = p.1
    · rw [if_pos h]
      have : aGet r a = none := aGet_none.mpr (h ▸ hn'.1)
      rw [this]
      simp [aGet, h]
    · rw [if_neg h]
      have h' : ¬ p.1 = a := fun e => h e.symm
      simp [aGet, h']
theorem nodup_merge : ∀ (G T : List (α × Int)), (keysOf T).Nodup → (keysOf (aMerge T G)).Nodup
  | [], _, h => h
  | p :: r, T, h => nodup_merge r _ (nodup_put h p.1 p.2)
theorem merge_self : ∀ (T P : List (α × Int)), (keysOf (P ++ T)).Nodup → aMerge P T = P ++ T
  | [], P, _ => by simp [merge_nil]
  | p :: r, P, h => by
    have hp : p.1 ∉ keysOf P := by
      intro hm
      unfold keysOf at h
      rw [List.map_append, List.nodup_append] at h
      exact h.2.2 p.1 hm p.1 (by simp) rfl
    rw [merge_cons, put_new _ hp, merge_self r _ (by rw [List.append_assoc]; exact h), List.append_assoc]
    rfl
theorem merge_empty {T : List (α × Int)} (h : (keysOf T).Nodup) : aMerge [] T = T := merge_self T [] (by simpa using h)
theorem mem_merge : ∀ (G T : List (α × Int)) (p : α × Int), p ∈ aMerge T G → p ∈ T ∨ p ∈ G
  | [], _, _, h => .inl h
  | q :: r, T, p, h => by
    rw [merge_cons] at h
    rcases mem_merge r _ p h with z | z
    · rcases mem_put z with e | e
      · exact .inr (by rw [e]; exact List.mem_cons_self ..)
      · exact .inl e
    · exact .inr (List.mem_cons_of_mem _ z)
theorem length_merge : ∀ (G T : List (α × Int)), (aMerge T G).length ≤ T.length + G.length
  | [], T => by simp [merge_nil]
  | p :: r, T => by
    have h := length_merge r (aPut T p.1 p.2)
    have h2 := length_put T p.1 p.2
    rw [merge_cons]
    simp only [List.length_cons]
    omega
end

/-! ### terms -/
def comesTo (w : Str) (a b : Int) : Except Why Int :=
  if w = "plus" then .ok (a + b) else if w = "minus" then .ok (a - b) else if w = "times" then .ok (a * b)
  else if w = "under" then .ok (if a < b then 1 else 0) else if w = "same" then .ok (if a = b then 1 else 0)
  else if b = 0 then .error .nought else if w = "over" then .ok (a.fdiv b) else .ok (a - a.fdiv b * b)
def worth1 (w : Str) (a b : Int) : Except Why Int := match comesTo w a b with
  | .error e => .error e
  | .ok v => if inR v then .ok v else .error .great
abbrev Term := List Ky
abbrev Slots := List (Str × Int)
def slotOf (σ : Slots) (s : Str) : Int := (aGet σ s).getD 0
/-- one part, the stack's top ahead -/
def turnT (σ : Slots) (k : Ky) (st : List Int) : Except Why (List Int) := match k with
  | .inl i => .ok (i :: st)
  | .inr s => if s ∈ doers then match st with
      | b :: a :: r => match worth1 s a b with
        | .ok v => .ok (v :: r)
        | .error e => .error e
      | _ => .error .told
    else .ok (slotOf σ s :: st)
def evalT (σ : Slots) : Term → List Int → Except Why (List Int)
  | [], st => .ok st
  | k :: r, st => match turnT σ k st with
    | .ok st' => evalT σ r st'
    | .error e => .error e
/-- a term's worth -/
def worthT (σ : Slots) (t : Term) : Except Why Int := match evalT σ t [] with
  | .ok (v :: _) => .ok v
  | .ok [] => .error .told
  | .error e => .error e
/-- well formed from a stack of n -/
def wfT : Term → Nat → Prop
  | [], n => n = 1
  | .inl i :: r, n => inR i ∧ wfT r (n + 1)
  | .inr s :: r, n => (s ∈ doers ∧ 2 ≤ n ∧ wfT r (n - 1)) ∨ (s ∉ doers ∧ wfT r (n + 1))
def slotsOk (σ : Slots) : Prop := (∀ p ∈ σ, inR p.2) ∧ (keysOf σ).Nodup
theorem inR_zero : inR 0 := by decide
theorem slotOf_in {σ : Slots} (h : slotsOk σ) (s : Str) : inR (slotOf σ s) := by
  unfold slotOf
  cases e : aGet σ s with
  | none => exact inR_zero
  | some v => exact h.1 _ (aGet_mem e)
theorem worth1_in {w : Str} {a b v : Int} (h : worth1 w a b = .ok v) : inR v := by
  unfold worth1 at h
  split at h
  · cases h
  · split at h
    · cases h; assumption
    · cases h
theorem worth1_why {w : Str} {a b : Int} {e : Why} (h : worth1 w a b = .error e) : e = .great ∨ e = .nought := by
  unfold worth1 at h
  split at h
  · rename_i e1 h'
    cases h
    unfold comesTo at h'
    have key : ∀ (c : Prop) [Decidable c] (x : Int) (y : Except Why Int) (q : Why), (if c then .ok x else y) = .error q → y = .error q := by
      intro c _ x y q h
      split at h
      · cases h
      · exact h
    have h1 := key _ _ _ _ (key _ _ _ _ (key _ _ _ _ (key _ _ _ _ (key _ _ _ _ h'))))
    split at h1
    · cases h1; exact .inr rfl
    · exact absurd (key _ _ _ _ h1) (fun z => nomatch z)
  · split at h
    · cases h
    · cases h; exact .inl rfl
theorem turnT_in {σ : Slots} (hs : slotsOk σ) {k : Ky} {st st' : List Int} (hk : ∀ i, k = .inl i → inR i) (h : ∀ v ∈ st, inR v) (e : turnT σ k st = .ok st') : ∀ v ∈ st', inR v := by
  unfold turnT at e
  split at e
  · cases e
    intro v hv
    rcases List.mem_cons.mp hv with z | z
    · rw [z]; exact hk _ rfl
    · exact h v z
  · split at e
    · split at e
      · split at e
        · rename_i v' hv'
          cases e
          intro v hv
          rcases List.mem_cons.mp hv with z | z
          · rw [z]; exact worth1_in hv'
          · exact h v (List.mem_cons_of_mem _ (List.mem_cons_of_mem _ z))
        · cases e
      · cases e
    · cases e
      intro v hv
      rcases List.mem_cons.mp hv with z | z
      · rw [z]; exact slotOf_in hs _
      · exact h v z
theorem evalT_in {σ : Slots} (hs : slotsOk σ) : ∀ (t : Term) (n : Nat) (st st' : List Int), wfT t n → (∀ v ∈ st, inR v) → evalT σ t st = .ok st' → ∀ v ∈ st', inR v
  | [], _, st, st', _, h, e => by
    cases e
    exact h
  | k :: r, n, st, st', hw, h, e => by
    unfold evalT at e
    split at e
    · rename_i st1 e1
      have hk : ∀ i, k = .inl i → inR i := fun i ei => by
        subst ei
        exact hw.1
      have h1 := turnT_in hs hk h e1
      cases k with
      | inl i => exact evalT_in hs r _ st1 st' hw.2 h1 e
      | inr s =>
        rcases hw with ⟨_, _, z⟩ | ⟨_, z⟩
        · exact evalT_in hs r _ st1 st' z h1 e
        · exact evalT_in hs r _ st1 st' z h1 e
    · cases e
theorem evalT_len {σ : Slots} : ∀ (t : Term) (st st' : List Int), wfT t st.length → evalT σ t st = .ok st' → st'.length = 1
  | [], st, st', h, e => by
    cases e
    exact h
  | k :: r, st, st', hw, e => by
    unfold evalT at e
    cases k with
    | inl i => exact evalT_len r (i :: st) st' hw.2 e
    | inr s =>
      rcases hw with ⟨hd, h2, z⟩ | ⟨hd, z⟩
      · match st, h2, z, e with
        | b :: a :: q, _, z, e =>
          simp only [turnT, if_pos hd] at e
          cases ew : worth1 s a b with
          | ok v =>
            rw [ew] at e
            exact evalT_len r (v :: q) st' (by simpa using z) e
          | error w =>
            rw [ew] at e
            cases e
      · simp only [turnT, if_neg hd] at e
        exact evalT_len r (slotOf σ s :: st) st' z e
theorem worthT_ok {σ : Slots} {t : Term} {v : Int} (hw : wfT t 0) : worthT σ t = .ok v ↔ evalT σ t [] = .ok [v] := by
  unfold worthT
  constructor
  · intro h
    cases e : evalT σ t [] with
    | error w => rw [e] at h; cases h
    | ok l =>
      rw [e] at h
      have hl := evalT_len t [] l hw e
      match l, hl, h with
      | [x], _, h =>
        have : x = v := by simpa using h
        rw [this]
  · intro h
    rw [h]
theorem worthT_in {σ : Slots} (hs : slotsOk σ) {t : Term} {v : Int} (hw : wfT t 0) (h : worthT σ t = .ok v) : inR v :=
  evalT_in hs t 0 [] [v] hw (fun _ z => nomatch z) ((worthT_ok hw).mp h) v (List.mem_singleton.mpr rfl)
theorem evalT_why {σ : Slots} : ∀ (t : Term) (st : List Int) (e : Why), wfT t st.length → evalT σ t st = .error e → e = .great ∨ e = .nought
  | [], st, _, _, h => by cases h
  | k :: r, st, e, hw, h => by
    unfold evalT at h
    cases k with
    | inl i => exact evalT_why r (i :: st) e hw.2 h
    | inr s =>
      rcases hw with ⟨hd, h2, z⟩ | ⟨hd, z⟩
      · match st, h2, z, h with
        | b :: a :: q, _, z, h =>
          simp only [turnT, if_pos hd] at h
          cases ew : worth1 s a b with
          | ok v =>
            rw [ew] at h
            exact evalT_why r (v :: q) e (by simpa using z) h
          | error w =>
            rw [ew] at h
            have : w = e := by simpa using h
            subst this
            exact worth1_why ew
      · simp only [turnT, if_neg hd] at h
        exact evalT_why r (slotOf σ s :: st) e z h
theorem worthT_why {σ : Slots} {t : Term} {e : Why} (hw : wfT t 0) (h : worthT σ t = .error e) : e = .great ∨ e = .nought := by
  unfold worthT at h
  split at h
  · cases h
  · rename_i h'
    have := evalT_len t [] [] hw h'
    cases this
  · rename_i e' h'
    have : e' = e := by simpa using h
    subst this
    exact evalT_why t [] e' hw h'

/-! ### the law's own table of words -/
def lawTwo (w : Str) (a b : Int) : Except Why Int :=
  if (w = "over" ∨ w = "rest") ∧ b = 0 then .error .nought else if w = "over" then .ok (a.fdiv b) else if w = "rest" then .ok (a - a.fdiv b * b)
  else if w = "under" then .ok (if a < b then 1 else 0) else if w = "same" then .ok (if a = b then 1 else 0)
  else
    let made := if w = "minus" then a - b else if w = "plus" then a + b else a * b
    if made > BIG ∨ made < -BIG then .error .great else .ok made
theorem fmod_neg_bounds (a : Int) {b : Int} (h : b < 0) : b < a.fmod b ∧ a.fmod b ≤ 0 := by
  have e := Int.neg_fmod_neg (-a) (-b)
  rw [Int.neg_neg, Int.neg_neg] at e
  have h1 := Int.fmod_nonneg_of_pos (-a) (show 0 < -b by omega)
  have h2 := Int.fmod_lt_of_pos (-a) (show 0 < -b by omega)
  omega
theorem le_mulp {b x : Int} (h : 1 ≤ b) (hx : 0 ≤ x) : x ≤ b * x := by
  have := Int.mul_le_mul_of_nonneg_right h hx
  omega
theorem fdiv_in {a b : Int} (ha : inR a) (hb : b ≠ 0) : inR (a.fdiv b) := by
  obtain ⟨h1, h2⟩ := ha
  have e := Int.fmod_add_mul_fdiv a b
  unfold inR
  generalize hq : a.fdiv b = q at e ⊢
  have hB : (0 : Int) < BIG := by decide
  generalize BIG = B at h1 h2 hB ⊢
  rcases Int.lt_or_lt_of_ne hb with h | h
  · obtain ⟨hm2, hm1⟩ := fmod_neg_bounds a h
    generalize a.fmod b = m at e hm1 hm2
    constructor
    · refine Int.not_lt.mp fun c => ?_
      have z := le_mulp (b := -b) (x := -q - 1) (by omega) (by omega)
      rw [Int.mul_sub, Int.neg_mul_neg, Int.mul_one] at z
      omega
    · refine Int.not_lt.mp fun c => ?_
      have z := le_mulp (b := -b) (x := q) (by omega) (by omega)
      rw [Int.neg_mul] at z
      omega
  · have hm1 := Int.fmod_nonneg_of_pos a h
    have hm2 := Int.fmod_lt_of_pos a h
    generalize a.fmod b = m at e hm1 hm2
    constructor
    · refine Int.not_lt.mp fun c => ?_
      have z := le_mulp (b := b) (x := -q - 1) (by omega) (by omega)
      rw [Int.mul_sub, Int.mul_neg, Int.mul_one] at z
      omega
    · refine Int.not_lt.mp fun c => ?_
      have z := le_mulp (b := b) (x := q) (by omega) (by omega)
      omega
theorem rest_eq (a b : Int) : a - a.fdiv b * b = a.fmod b := by
  have e := Int.fmod_add_mul_fdiv a b
  rw [Int.mul_comm] at e
  omega
theorem rest_in {a b : Int} (hb : inR b) (h0 : b ≠ 0) : inR (a - a.fdiv b * b) := by
  rw [rest_eq]
  obtain ⟨h1, h2⟩ := hb
  rcases Int.lt_or_lt_of_ne h0 with h | h
  · obtain ⟨hm2, hm1⟩ := fmod_neg_bounds a h
    unfold inR
    omega
  · have hm1 := Int.fmod_nonneg_of_pos a h
    have hm2 := Int.fmod_lt_of_pos a h
    unfold inR
    omega
theorem ne_words : ("minus" : Str) ≠ "plus" ∧ ("times" : Str) ≠ "plus" ∧ ("times" : Str) ≠ "minus" ∧ ("over" : Str) ≠ "plus" ∧ ("over" : Str) ≠ "minus" ∧ ("over" : Str) ≠ "times" ∧ ("over" : Str) ≠ "under" ∧ ("over" : Str) ≠ "same" ∧
    ("rest" : Str) ≠ "plus" ∧ ("rest" : Str) ≠ "minus" ∧ ("rest" : Str) ≠ "times" ∧ ("rest" : Str) ≠ "under" ∧ ("rest" : Str) ≠ "same" ∧ ("rest" : Str) ≠ "over" ∧
    ("under" : Str) ≠ "plus" ∧ ("under" : Str) ≠ "minus" ∧ ("under" : Str) ≠ "times" ∧ ("same" : Str) ≠ "plus" ∧ ("same" : Str) ≠ "minus" ∧ ("same" : Str) ≠ "times" ∧ ("same" : Str) ≠ "under" := by decide +kernel
theorem lawTwo_eq {w : Str} {a b : Int} (hw : w ∈ doers) (ha : inR a) (hb : inR b) : lawTwo w a b = worth1 w a b := by
  obtain ⟨n1, n2, n3, n4, n5, n6, n7, n8, n9, n10, n11, n12, n13, n14, n15, n16, n17, n18, n19, n20, n21⟩ := ne_words
  have big : ∀ v : Int, (if v > BIG ∨ v < -BIG then (.error .great : Except Why Int) else .ok v) = if inR v then .ok v else .error .great := by
    intro v
    by_cases h : inR v
    · obtain ⟨h1, h2⟩ := id h
      rw [if_pos h, if_neg (by omega)]
    · rw [if_neg h, if_pos]
      unfold inR at h
      omega
  have bit : ∀ c : Prop, ∀ [Decidable c], inR (if c then 1 else 0) := by
    intro c _
    split
    · decide
    · decide
  unfold doers at hw
  simp only [List.mem_cons, List.not_mem_nil, or_false] at hw
  unfold lawTwo worth1 comesTo
  rcases hw with rfl | rfl | rfl | rfl | rfl | rfl | rfl
  · simp only [n4.symm, n9.symm, n15.symm, n18.symm, n1.symm, false_or, or_false, false_and, if_false, if_true]
    exact big _
  · simp only [n5.symm, n10.symm, n16.symm, n19.symm, n1, false_or, or_false, false_and, if_false, if_true]
    exact big _
  · simp only [n6.symm, n11.symm, n17.symm, n20.symm, n2, n3, false_or, or_false, false_and, if_false, if_true]
    exact big _
  · simp only [n4, n5, n6, n7, n8, n14.symm, or_false, true_and, if_false, if_true]
    by_cases h : b = 0
    · simp [h]
    · simp only [h, if_false]
      rw [if_pos (fdiv_in ha h)]
  · simp only [n9, n10, n11, n12, n13, n14, false_or, true_and, if_false, if_true]
    by_cases h : b = 0
    · simp [h]
    · simp only [h, if_false]
      rw [if_pos (rest_in hb h)]
  · simp only [n15, n16, n17, n7.symm, n12.symm, n21.symm, false_or, or_false, false_and, if_false, if_true]
    rw [if_pos (bit _)]
  · simp only [n18, n19, n20, n21, n8.symm, n13.symm, false_or, or_false, false_and, if_false, if_true]
    rw [if_pos (bit _)]

/-! ### rows -/
abbrev Place := Str × Int
abbrev Tab := List (Place × Int)
inductive DRow where
  | take (shelf : Str) (e : Term) (slot : Str)
  | give (shelf : Str) (e f : Term)
  | letr (slot : Str) (e : Term)
  | say (e : Term)
  | off (e : Term)
  | iff (e : Term) (rows others : List DRow)
structure DSt where
  slots : Slots
  gifts : Tab
  said : List Int
def seen (T G : Tab) (p : Place) : Int := (aGet G p).getD ((aGet T p).getD 0)
abbrev DRes := Except Why DSt
/-- a row that opens no block and breaks nothing off -/
def runB (T : Tab) : DRow → DSt → DRes
  | .take sh e sl, s => match worthT s.slots e with
    | .error w => .error w
    | .ok n => .ok { s with slots := aPut s.slots sl (seen T s.gifts (sh, n)) }
  | .give sh e f, s => match worthT s.slots e with
    | .error w => .error w
    | .ok n => match worthT s.slots f with
      | .error w => .error w
      | .ok v => .ok { s with gifts := aPut s.gifts (sh, n) v }
  | .letr sl e, s => match worthT s.slots e with
    | .error w => .error w
    | .ok n => .ok { s with slots := aPut s.slots sl n }
  | .say e, s => match worthT s.slots e with
    | .error w => .error w
    | .ok n => .ok { s with said := s.said ++ [n] }
  | .off e, s => match worthT s.slots e with
    | .error w => .error w
    | .ok n => if n = 0 then .ok s else .error .told
  | .iff _ _ _, s => .ok s
mutual
def runR (T : Tab) : DRow → DSt → DRes
  | .iff e a b, s => match worthT s.slots e with
    | .error w => .error w
    | .ok n => if n = 0 then runRs T b s else runRs T a s
  | .take sh e sl, s => runB T (.take sh e sl) s
  | .give sh e f, s => runB T (.give sh e f) s
  | .letr sl e, s => runB T (.letr sl e) s
  | .say e, s => runB T (.say e) s
  | .off e, s => runB T (.off e) s
def runRs (T : Tab) : List DRow → DSt → DRes
  | [], s => .ok s
  | r :: rs, s => match runR T r s with
    | .error w => .error w
    | .ok s' => runRs T rs s'
end
/-- a term of a row -/
def wfE (t : Term) : Prop := wfT t 0 ∧ t.length ≤ 100
mutual
/-- well formed, at most n blocks within one another -/
def wfR : DRow → Nat → Prop
  | .take _ e _, _ => wfE e
  | .give _ e f, _ => wfE e ∧ wfE f
  | .letr _ e, _ => wfE e
  | .say e, _ => wfE e
  | .off e, _ => wfE e
  | .iff e a b, n => wfE e ∧ 0 < n ∧ wfRs a (n - 1) ∧ wfRs b (n - 1)
def wfRs : List DRow → Nat → Prop
  | [], _ => True
  | r :: rs, n => wfR r n ∧ wfRs rs n
end
def okS (T : Tab) (s : DSt) : Prop := slotsOk s.slots ∧ (∀ p ∈ s.gifts, inR p.2) ∧ (keysOf s.gifts).Nodup ∧ ∀ p ∈ T, inR p.2
theorem seen_in {T G : Tab} (hT : ∀ p ∈ T, inR p.2) (hG : ∀ p ∈ G, inR p.2) (p : Place) : inR (seen T G p) := by
  unfold seen
  cases e : aGet G p with
  | some v => exact hG _ (aGet_mem e)
  | none =>
    cases e2 : aGet T p with
    | some v => exact hT _ (aGet_mem e2)
    | none => exact inR_zero
theorem slotsOk_put {σ : Slots} (h : slotsOk σ) (s : Str) {v : Int} (hv : inR v) : slotsOk (aPut σ s v) := ⟨fun p hp => by
  rcases mem_put hp with e | e
  · rw [e]; exact hv
  · exact h.1 p e, nodup_put h.2 _ _⟩
theorem runB_ok {T : Tab} {r : DRow} {n : Nat} {s s' : DSt} (hw : wfR r n) (h : okS T s) (e : runB T r s = .ok s') : okS T s' := by
  obtain ⟨h1, h2, h3, h4⟩ := h
  cases r with
  | take sh t sl =>
    simp only [runB] at e
    split at e
    · cases e
    · cases e
      exact ⟨slotsOk_put h1 _ (seen_in h4 h2 _), h2, h3, h4⟩
  | give sh t f =>
    simp only [runB] at e
    split at e
    · cases e
    · split at e
      · cases e
      · rename_i v hv
        cases e
        unfold wfR at hw
        refine ⟨h1, fun p hp => ?_, nodup_put h3 _ _, h4⟩
        rcases mem_put hp with z | z
        · rw [z]; exact worthT_in h1 hw.2.1 hv
        · exact h2 p z
  | letr sl t =>
    simp only [runB] at e
    unfold wfR at hw
    split at e
    · cases e
    · rename_i v hv
      cases e
      exact ⟨slotsOk_put h1 _ (worthT_in h1 hw.1 hv), h2, h3, h4⟩
  | say t =>
    simp only [runB] at e
    split at e
    · cases e
    · cases e
      exact ⟨h1, h2, h3, h4⟩
  | off t =>
    simp only [runB] at e
    split at e
    · cases e
    · split at e
      · cases e
        exact ⟨h1, h2, h3, h4⟩
      · cases e
  | iff t a b =>
    cases e
    exact ⟨h1, h2, h3, h4⟩
mutual
theorem runR_ok {T : Tab} : ∀ (r : DRow) (n : Nat) (s s' : DSt), wfR r n → okS T s → runR T r s = .ok s' → okS T s'
  | .iff t a b, n, s, s', hw, h, e => by
    simp only [runR] at e
    unfold wfR at hw
    split at e
    · cases e
    · split at e
      · exact runRs_ok b (n - 1) s s' hw.2.2.2 h e
      · exact runRs_ok a (n - 1) s s' hw.2.2.1 h e
  | .take sh t sl, n, s, s', hw, h, e => by
    simp only [runR] at e
    exact runB_ok hw h e
  | .give sh t f, n, s, s', hw, h, e => by
    simp only [runR] at e
    exact runB_ok hw h e
  | .letr sl t, n, s, s', hw, h, e => by
    simp only [runR] at e
    exact runB_ok hw h e
  | .say t, n, s, s', hw, h, e => by
    simp only [runR] at e
    exact runB_ok hw h e
  | .off t, n, s, s', hw, h, e => by
    simp only [runR] at e
    exact runB_ok hw h e
theorem runRs_ok {T : Tab} : ∀ (rs : List DRow) (n : Nat) (s s' : DSt), wfRs rs n → okS T s → runRs T rs s = .ok s' → okS T s'
  | [], _, s, s', _, h, e => by
    simp only [runRs] at e
    cases e
    exact h
  | r :: rs, n, s, s', hw, h, e => by
    simp only [runRs] at e
    unfold wfRs at hw
    split at e
    · cases e
    · rename_i s1 e1
      exact runRs_ok rs n s1 s' hw.2 (runR_ok r n s s1 hw.1 h e1) e
end
mutual
/-- how many rows there are, within blocks too -/
def szR : DRow → Nat
  | .iff _ a b => szRs a + szRs b + 1
  | .take _ _ _ => 1
  | .give _ _ _ => 1
  | .letr _ _ => 1
  | .say _ => 1
  | .off _ => 1
def szRs : List DRow → Nat
  | [] => 0
  | r :: rs => szR r + szRs rs
end
def lenS (s : DSt) : Nat := s.slots.length + s.gifts.length + s.said.length
theorem runB_len {T : Tab} {r : DRow} {s s' : DSt} (e : runB T r s = .ok s') : lenS s' ≤ lenS s + 1 := by
  cases r with
  | take sh t sl =>
    simp only [runB] at e
    split at e
    · cases e
    · cases e
      rename_i n _
      have h := length_put s.slots sl (seen T s.gifts (sh, n))
      unfold lenS
      simp only
      omega
  | give sh t f =>
    simp only [runB] at e
    split at e
    · cases e
    · split at e
      · cases e
      · cases e
        refine Nat.le_trans (Nat.add_le_add_right (Nat.add_le_add_left (length_put _ _ _) _) _) ?_
        unfold lenS
        simp only
        omega
  | letr sl t =>
    simp only [runB] at e
    split at e
    · cases e
    · cases e
      rename_i n _
      have h := length_put s.slots sl n
      unfold lenS
      simp only
      omega
  | say t =>
    simp only [runB] at e
    split at e
    · cases e
    · cases e
      unfold lenS
      simp only [List.length_append, List.length_singleton]
      omega
  | off t =>
    simp only [runB] at e
    split at e
    · cases e
    · split at e
      · cases e
        omega
      · cases e
  | iff t a b =>
    simp only [runB] at e
    cases e
    omega
mutual
theorem runR_len {T : Tab} : ∀ (r : DRow) (s s' : DSt), runR T r s = .ok s' → lenS s' ≤ lenS s + szR r
  | .iff t a b, s, s', e => by
    simp only [runR] at e
    simp only [szR]
    split at e
    · cases e
    · split at e
      · have := runRs_len b s s' e
        omega
      · have := runRs_len a s s' e
        omega
  | .take sh t sl, s, s', e => by
    simp only [runR] at e
    exact runB_len e
  | .give sh t f, s, s', e => by
    simp only [runR] at e
    exact runB_len e
  | .letr sl t, s, s', e => by
    simp only [runR] at e
    exact runB_len e
  | .say t, s, s', e => by
    simp only [runR] at e
    exact runB_len e
  | .off t, s, s', e => by
    simp only [runR] at e
    exact runB_len e
theorem runRs_len {T : Tab} : ∀ (rs : List DRow) (s s' : DSt), runRs T rs s = .ok s' → lenS s' ≤ lenS s + szRs rs
  | [], s, s', e => by
    simp only [runRs] at e
    cases e
    exact Nat.le_add_right _ _
  | r :: rs, s, s', e => by
    simp only [runRs] at e
    simp only [szRs]
    split at e
    · cases e
    · rename_i s1 e1
      have h1 := runR_len r s s1 e1
      have h2 := runRs_len rs s1 s' e
      omega
end
theorem szRs_app : ∀ a b : List DRow, szRs (a ++ b) = szRs a + szRs b
  | [], b => by simp [szRs]
  | r :: a, b => by
    simp only [List.cons_append, szRs]
    rw [szRs_app a b]
    omega
theorem szR_pos (r : DRow) : 1 ≤ szR r := by cases r <;> simp only [szR] <;> omega
theorem len_szRs : ∀ rs : List DRow, rs.length ≤ szRs rs
  | [] => Nat.le_refl _
  | r :: rs => by
    have h1 := szR_pos r
    have h2 := len_szRs rs
    simp only [List.length_cons, szRs]
    omega
/-- what comes of a dealing -/
def outcome (T : Tab) (rs : List DRow) : DRes := runRs T rs ⟨[], [], []⟩
end FR

/-! FRB: tables, places, terms, rows as they stand in the heap; rules of our own: // by great divisors, sorted of entries, dict(..), list(d.items()), d.items() with keys that are places. -/
namespace FR
open PySem PySem.Spec PyProof.Rows L2

/-! ### keys of places and names -/
def pk (p : Place) : List Key := [Sum.inr p.1, Sum.inl p.2]
theorem pk_inj {p q : Place} (h : pk p = pk q) : p = q := by
  obtain ⟨a, b⟩ := p
  obtain ⟨c, d⟩ := q
  simp [pk] at h
  rw [h.1, h.2]
def tkv (T : Tab) : List (List Key × V) := T.map fun p => (pk p.1, V.int p.2)
def skv (σ : Slots) : List (Key × V) := σ.map fun p => ((Sum.inr p.1 : Key), V.int p.2)
section
variable {α κ : Type} [DecidableEq α] [DecidableEq κ] {f : α → κ}
theorem valV_enc (hf : ∀ a b, f a = f b → a = b) (l : List (α × Int)) (a : α) : valV (l.map fun p => (f p.1, V.int p.2)) (f a) = (aGet l a).map V.int := by
  induction l with
  | nil => rfl
  | cons p r ih =>
    rw [List.map_cons]
    by_cases h : p.1 = a
    · rw [valV_pos (by rw [h])]
      simp [aGet, h]
    · rw [valV_neg (fun e => h (hf _ _ e)), ih]
      simp [aGet, h]
theorem any_enc (hf : ∀ a b, f a = f b → a = b) (l : List (α × Int)) (a : α) : ((l.map fun p => (f p.1, V.int p.2)).any fun kv => decide (kv.1 = f a)) = decide (a ∈ keysOf l) := by
  rw [valV_any, valV_enc hf]
  cases e : aGet l a with
  | none =>
    have := aGet_none.mp e
    simp [this]
  | some v =>
    have : a ∈ keysOf l := Classical.not_not.mp fun c => by
      rw [aGet_none.mpr c] at e
      cases e
    simp [this]
theorem put_map {l : List (α × Int)} {a : α} (v : Int) (hn : (keysOf l).Nodup) (h : a ∈ keysOf l) : aPut l a v = l.map fun p => if p.1 = a then (p.1, v) else p := by
  induction l with
  | nil => cases h
  | cons p r ih =>
    have hn' : p.1 ∉ keysOf r ∧ (keysOf r).Nodup := List.nodup_cons.mp hn
    rw [List.map_cons]
    by_cases e : p.1 = a
    · have hr : a ∉ keysOf r := e ▸ hn'.1
      have hm : (r.map fun p => if p.1 = a then (p.1, v) else p) = r := by
        refine (List.map_congr_left fun q hq => ?_).trans (List.map_id r)
        have : ¬ q.1 = a := fun e => hr (e ▸ List.mem_map.mpr ⟨q, hq, rfl⟩)
        rw [if_neg this]
        rfl
      rw [hm]
      simp [aPut, e]
    · rcases List.mem_cons.mp h with z | z
      · exact absurd z.symm e
      · simp only [aPut, e, if_false]
        rw [ih hn'.2 z]
theorem putK_enc (hf : ∀ a b, f a = f b → a = b) {l : List (α × Int)} (hn : (keysOf l).Nodup) (a : α) (v : Int) :
    putK (l.map fun p => (f p.1, V.int p.2)) (f a) (.int v) = (aPut l a v).map fun p => (f p.1, V.int p.2) := by
  unfold putK
  rw [any_enc hf]
  by_cases h : a ∈ keysOf l
  · rw [if_pos (decide_eq_true h), put_map v hn h, List.map_map, List.map_map]
    refine List.map_congr_left fun p _ => ?_
    show (if f p.1 = f a then (f p.1, V.int v) else (f p.1, V.int p.2)) = _
    by_cases e : p.1 = a
    · simp [e]
    · have : ¬ f p.1 = f a := fun z => e (hf _ _ z)
      simp [e, this]
  · rw [if_neg (by simp [h]), put_new v h, List.map_append]
    rfl
end
theorem valV_t (T : Tab) (p : Place) : valV (tkv T) (pk p) = (aGet T p).map V.int := valV_enc (f := pk) (fun _ _ => pk_inj) T p
theorem putK_t {T : Tab} (hn : (keysOf T).Nodup) (p : Place) (v : Int) : putK (tkv T) (pk p) (.int v) = tkv (aPut T p v) := putK_enc (f := pk) (fun _ _ => pk_inj) hn p v
theorem inr_inj {a b : Str} (h : (Sum.inr a : Key) = Sum.inr b) : a = b := Sum.inr.inj h
theorem valV_s (σ : Slots) (s : Str) : valV (skv σ) (Sum.inr s) = (aGet σ s).map V.int := valV_enc (f := fun s => (Sum.inr s : Key)) (fun _ _ => inr_inj) σ s
theorem putK_s {σ : Slots} (hn : (keysOf σ).Nodup) (s : Str) (v : Int) : putK (skv σ) (Sum.inr s) (.int v) = skv (aPut σ s v) := putK_enc (f := fun s => (Sum.inr s : Key)) (fun _ _ => inr_inj) hn s v
theorem tkv_length (T : Tab) : (tkv T).length = T.length := List.length_map _
theorem skv_length (T : Slots) : (skv T).length = T.length := List.length_map _

/-! ### data in the heap, all of it tracked -/
mutual
inductive At (H : Hp) : V → PyData → Prop
  | int (i : Int) : At H (.int i) (.int i)
  | str (x : Str) : At H (.str x) (.str x)
  | lst {a : Addr} {xs : List V} {ds : List PyData} : H a = some (.lst xs) → AtAll H xs ds → At H (.ref a) (.list ds)
  | tup {a : Addr} {xs : List V} {ds : List PyData} : H a = some (.tup xs) → AtAll H xs ds → At H (.ref a) (.tuple ds)
inductive AtAll (H : Hp) : List V → List PyData → Prop
  | nil : AtAll H [] []
  | cons {v : V} {vs : List V} {d : PyData} {ds : List PyData} : At H v d → AtAll H vs ds → AtAll H (v :: vs) (d :: ds)
end
mutual
theorem At.same {H H' : Hp} (s : Same H H') : ∀ (d : PyData) (v : V), At H v d → At H' v d
  | .int _, _, h => by cases h; exact .int _
  | .str _, _, h => by cases h; exact .str _
  | .list ds, _, h => by
    cases h with
    | lst e q => exact .lst (s _ _ e) (AtAll.same s ds _ q)
  | .tuple ds, _, h => by
    cases h with
    | tup e q => exact .tup (s _ _ e) (AtAll.same s ds _ q)
  | .none, _, h => by cases h
  | .bool _, _, h => by cases h
  | .dict _, _, h => by cases h
theorem AtAll.same {H H' : Hp} (s : Same H H') : ∀ (ds : List PyData) (vs : List V), AtAll H vs ds → AtAll H' vs ds
  | [], _, h => by cases h; exact .nil
  | d :: ds, _, h => by
    cases h with
    | cons q r => exact .cons (At.same s d _ q) (AtAll.same s ds _ r)
end
mutual
theorem At.dp {K : PySem.W.Frag} {H : Hp} : ∀ (d : PyData) (v : V), At H v d → Dp K H v d
  | .int _, _, h => by cases h; exact .int _
  | .str _, _, h => by cases h; exact .str _
  | .list ds, _, h => by
    cases h with
    | lst e q => exact .lst (SqL.of e) (AtAll.dp ds _ q)
  | .tuple ds, _, h => by
    cases h with
    | tup e q => exact .tup (SqT.of e) (AtAll.dp ds _ q)
  | .none, _, h => by cases h
  | .bool _, _, h => by cases h
  | .dict _, _, h => by cases h
theorem AtAll.dp {K : PySem.W.Frag} {H : Hp} : ∀ (ds : List PyData) (vs : List V), AtAll H vs ds → DpAll K H vs ds
  | [], _, h => by cases h; exact .nil
  | d :: ds, _, h => by
    cases h with
    | cons q r => exact .cons (At.dp d _ q) (AtAll.dp ds _ r)
end
theorem AtAll.length {H : Hp} : ∀ {vs : List V} {ds : List PyData}, AtAll H vs ds → vs.length = ds.length
  | _, _, .nil => rfl
  | _, _, .cons _ r => congrArg (· + 1) r.length
theorem AtAll.get {H : Hp} : ∀ {vs : List V} {ds : List PyData} {i : Nat} {d : PyData}, AtAll H vs ds → ds[i]? = some d → ∃ v, vs[i]? = some v ∧ At H v d
  | _, _, _, _, .nil, e => by simp at e
  | _, _, 0, _, .cons q _, e => by
    have : _ = _ := Option.some.inj e
    subst this
    exact ⟨_, rfl, q⟩
  | _, _, i + 1, d, .cons _ r, e => by
    obtain ⟨v, h1, h2⟩ := AtAll.get (i := i) r (by simpa using e)
    exact ⟨v, by simpa using h1, h2⟩
theorem AtAll.getV {H : Hp} : ∀ {vs : List V} {ds : List PyData} {i : Nat} {v : V}, AtAll H vs ds → vs[i]? = some v → ∃ d, ds[i]? = some d ∧ At H v d
  | _, _, _, _, .nil, e => by simp at e
  | _, _, 0, _, .cons q _, e => by
    have : _ = _ := Option.some.inj e
    subst this
    exact ⟨_, rfl, q⟩
  | _, _, i + 1, d, .cons _ r, e => by
    obtain ⟨v, h1, h2⟩ := AtAll.getV (i := i) r (by simpa using e)
    exact ⟨v, by simpa using h1, h2⟩
theorem AtAll.append {H : Hp} : ∀ {vs ws : List V} {ds es : List PyData}, AtAll H vs ds → AtAll H ws es → AtAll H (vs ++ ws) (ds ++ es)
  | _, _, _, _, .nil, s => s
  | _, _, _, _, .cons q r, s => .cons q (AtAll.append r s)

/-! ### a term's data -/
def dK : Key → PyData
  | .inl i => .int i
  | .inr s => .str s
def dTerm (t : Term) : PyData := .tuple (t.map dK)
theorem at_key {H : Hp} (k : Key) : At H (kV k) (dK k) := by
  cases k with
  | inl i => exact .int i
  | inr s => exact .str s
theorem at_keys {H : Hp} : ∀ t : Term, AtAll H (t.map kV) (t.map dK)
  | [] => .nil
  | k :: t => .cons (at_key k) (at_keys t)
theorem at_key_eq {H : Hp} {v : V} {k : Key} (h : At H v (dK k)) : v = kV k := by
  cases k with
  | inl i => cases h; rfl
  | inr s => cases h; rfl
theorem at_keys_eq {H : Hp} : ∀ {t : Term} {vs : List V}, AtAll H vs (t.map dK) → vs = t.map kV
  | [], _, h => by cases h; rfl
  | k :: t, _, h => by
    cases h with
    | cons q r => rw [at_key_eq q, at_keys_eq r]; rfl
theorem at_term {H : Hp} {a : Addr} {t : Term} (h : H a = some (.tup (t.map kV))) : At H (.ref a) (dTerm t) := .tup h (at_keys t)
theorem of_term {H : Hp} {v : V} {t : Term} (h : At H v (dTerm t)) : ∃ a, v = .ref a ∧ H a = some (.tup (t.map kV)) := by
  unfold dTerm at h
  cases h with
  | tup e q =>
    refine ⟨_, rfl, ?_⟩
    rw [e, at_keys_eq q]

/-! ### places, entries, tables -/
def dPl (p : Place) : PyData := .tuple [.str p.1, .int p.2]
def dEn (p : Place × Int) : PyData := .tuple [dPl p.1, .int p.2]
def dTab (T : Tab) : PyData := .list (T.map dEn)
def sortE (T : Tab) : Tab := T.mergeSort (PySem.W.dataLe false dEn)
def PlAt (H : Hp) (q : Addr) (p : Place) : Prop := H q = some (.tup [.str p.1, .int p.2])
def EnAt (H : Hp) (e : Addr) (p : Place × Int) : Prop := ∃ q, H e = some (.tup [.ref q, .int p.2]) ∧ PlAt H q p.1
def TbAt (H : Hp) (a : Addr) (T : Tab) : Prop := ∃ es, H a = some (.lst (es.map V.ref)) ∧ Paired (EnAt H) es T
theorem PlAt.same {H H' : Hp} {q : Addr} {p : Place} (s : Same H H') (h : PlAt H q p) : PlAt H' q p := s _ _ h
theorem EnAt.same {H H' : Hp} {e : Addr} {p : Place × Int} (s : Same H H') (h : EnAt H e p) : EnAt H' e p := let ⟨q, h1, h2⟩ := h; ⟨q, s _ _ h1, s _ _ h2⟩
theorem ens_same {H H' : Hp} {es : List Addr} {T : Tab} (s : Same H H') (h : Paired (EnAt H) es T) : Paired (EnAt H') es T := L2.Paired.mapP h fun _ _ x => x.same s
theorem TbAt.same {H H' : Hp} {a : Addr} {T : Tab} (s : Same H H') (h : TbAt H a T) : TbAt H' a T := let ⟨es, h1, h2⟩ := h; ⟨es, s _ _ h1, ens_same s h2⟩
theorem at_pl {H : Hp} {q : Addr} {p : Place} (h : PlAt H q p) : At H (.ref q) (dPl p) := .tup h (.cons (.str _) (.cons (.int _) .nil))
theorem at_en {H : Hp} {e : Addr} {p : Place × Int} (h : EnAt H e p) : At H (.ref e) (dEn p) := let ⟨_, h1, h2⟩ := h; .tup h1 (.cons (at_pl h2) (.cons (.int _) .nil))
theorem at_ens {H : Hp} : ∀ {es : List Addr} {T : Tab}, Paired (EnAt H) es T → AtAll H (es.map V.ref) (T.map dEn)
  | _, _, .nil => .nil
  | _, _, .cons h t => .cons (at_en h) (at_ens t)
theorem at_tab {H : Hp} {a : Addr} {T : Tab} (h : TbAt H a T) : At H (.ref a) (dTab T) := let ⟨_, h1, h2⟩ := h; .lst h1 (at_ens h2)
theorem of_pl {H : Hp} {v : V} {p : Place} (h : At H v (dPl p)) : ∃ q, v = .ref q ∧ PlAt H q p := by
  unfold dPl at h
  cases h with
  | tup e q =>
    refine ⟨_, rfl, ?_⟩
    cases q with
    | cons a b =>
      cases b with
      | cons c d =>
        cases d
        cases a
        cases c
        exact e
theorem of_en {H : Hp} {v : V} {p : Place × Int} (h : At H v (dEn p)) : ∃ e, v = .ref e ∧ EnAt H e p := by
  unfold dEn at h
  cases h with
  | tup e q =>
    refine ⟨_, rfl, ?_⟩
    cases q with
    | cons a b =>
      cases b with
      | cons c d =>
        cases d
        cases c
        obtain ⟨q', rfl, z⟩ := of_pl a
        exact ⟨q', e, z⟩
theorem of_ens {H : Hp} : ∀ {T : Tab} {vs : List V}, AtAll H vs (T.map dEn) → ∃ es : List Addr, vs = es.map V.ref ∧ Paired (EnAt H) es T
  | [], _, h => by cases h; exact ⟨[], rfl, .nil⟩
  | p :: T, _, h => by
    cases h with
    | cons a b =>
      obtain ⟨e, rfl, q⟩ := of_en a
      obtain ⟨es, rfl, r⟩ := of_ens b
      exact ⟨e :: es, rfl, .cons q r⟩
theorem of_tab {H : Hp} {v : V} {T : Tab} (h : At H v (dTab T)) : ∃ a, v = .ref a ∧ TbAt H a T := by
  unfold dTab at h
  cases h with
  | lst e q =>
    obtain ⟨es, rfl, r⟩ := of_ens q
    exact ⟨_, rfl, es, e, r⟩
theorem sameN {H : Hp} {p : Addr} {o : HO} (h : H p = none) : Same H (upd H p o) := fun b u q => by rw [upd_ne (ne_of_none q h)]; exact q

section
variable {X : Cx}
/-! ### // by a great divisor of either sign -/
theorem op_fdivX : OpR X (binaryOp .FloorDiv) (rI (fun _ j => j ≠ 0 ∧ j.natAbs.log2 < 9000) fun i j => .int (i.fdiv j)) :=
  opI fun _ _ _ _ _ _ _ hc q => floordiv_int hc.1 q (.inl (PyProof.noPylong_of_log2 hc.2))
theorem inR_abs {v : Int} (h : inR v) : v.natAbs < 2 ^ 100 := by
  obtain ⟨h1, h2⟩ := h
  unfold BIG at h1 h2
  omega
theorem inR_div {i j : Int} (h : inR j) (h0 : j ≠ 0) : j ≠ 0 ∧ j.natAbs.log2 < 9000 := ⟨h0, Nat.lt_of_lt_of_le (PySem.Flt.log2_lt_of (by decide) (inR_abs h)) (by decide)⟩
theorem inR_mul {i j : Int} (h : inR i) (h' : inR j) : CMulW i j := wide_mul (inR_abs h) (inR_abs h') (by decide) (by decide) (by decide)

/-! ### sorted of entries -/
theorem alike_en (p q : Place × Int) : PySem.W.alike (dEn p) (dEn q) = true := by
  obtain ⟨⟨a, b⟩, c⟩ := p
  obtain ⟨⟨a', b'⟩, c'⟩ := q
  simp [dEn, dPl, PySem.W.alike, PySem.W.alikeAll]
theorem each_of {H : Hp} : ∀ {es : List Addr} {T : Tab}, Paired (EnAt H) es T → PySem.W.EachIs (fun (v : Value) (b : Addr × (Place × Int)) => v = Value.ref b.1 ∧ EnAt H b.1 b.2) (es.map Value.ref) (es.zip T)
  | _, _, .nil => .nil
  | _, _, .cons h t => .cons ⟨rfl, h⟩ (each_of t)
theorem of_each {H : Hp} : ∀ {out : List Value} {bs : List (Addr × (Place × Int))}, PySem.W.EachIs (fun (v : Value) (b : Addr × (Place × Int)) => v = Value.ref b.1 ∧ EnAt H b.1 b.2) out bs → out = (bs.map (·.1)).map Value.ref ∧ Paired (EnAt H) (bs.map (·.1)) (bs.map (·.2))
  | _, _, .nil => ⟨rfl, .nil⟩
  | _, _, .cons h t => by
    obtain ⟨e1, e2⟩ := of_each t
    exact ⟨by rw [h.1, e1]; rfl, .cons h.2 e2⟩
theorem zip_snd {H : Hp} : ∀ {es : List Addr} {T : Tab}, Paired (EnAt H) es T → (es.zip T).map (·.2) = T
  | _, _, .nil => rfl
  | _, _, .cons _ t => congrArg (_ :: ·) (zip_snd t)
theorem vals_refs' : ∀ es : List Addr, Vals (es.map V.ref) (es.map Value.ref)
  | [] => .nil
  | _ :: es => .cons rfl (vals_refs' es)
theorem depth_en (p : Place × Int) : (dEn p).depth ≤ 2 := by
  obtain ⟨⟨a, b⟩, c⟩ := p
  simp [dEn, dPl, PyData.depth, PyData.depthAll]
def rSortE : List V → Hp → VK → Prop := fun vs H Q => ∃ (a : Addr) (T : Tab), vs = [.ref a] ∧ TbAt H a T ∧ ∀ p H', H p = none → Same H H' → TbAt H' p (sortE T) → Q (.ref p) H'
theorem cr_sortE (hu : X.A.units + 64 < cLine) : CallR X (.builtin "sorted") rSortE := by
  intro pins s σ H xs us Q I r h
  obtain ⟨a, T, rfl, ⟨es, ha, hp⟩, q⟩ := h
  obtain rfl := Vals.ref1 r
  obtain ⟨hz, its, n, rv, hg⟩ := (show ObjOk X.prog X.w H s.heap a (.lst (es.map V.ref)) from I.hok a _ ha)
  have ei := refs_at rv
  subst ei
  have hT : es.length = T.length := Paired.length hp
  rw [List.length_map] at hz
  have hl : (es.zip T).length = es.length := by simp [hT]
  have er : PySem.W.EachIs (fun (v : Value) (b : Addr × (Place × Int)) => ∃ as, Reads s.heap v (dEn b.2) as) (es.map Value.ref) (es.zip T) :=
    (each_of hp).mono fun v b h => Dp.reads I (dEn b.2) (.ref b.1) v (At.dp _ _ (at_en h.2)) h.1
  refine PySem.W.sorted_data (enc := fun b : Addr × (Place × Int) => dEn b.2) (bs := es.zip T) (vs := es.map Value.ref) ⟨_, hg, rfl, n, rfl⟩ (each_of hp) er (PySem.W.AllAlike.of fun b b' => alike_en _ _) (PySem.W.Sortable.tuples fun b => ⟨_, _, rfl⟩)
    (by rw [hl]; exact hz) (fun b _ => ?_) fun out hlen hout => ?_
  · have := depth_en b.2
    show X.A.units + 2 + (dEn b.2).depth < cLine
    omega
  · obtain ⟨e1, e2⟩ := of_each hout
    have hfree : H (s.heap.objs.size + 1) = none := I.hok.fresh (Nat.le_succ _)
    have kS : ∀ b o, s.heap.get? b = some o → (sortedAll s.heap (es.map Value.ref) out.toArray).get? b = some o := fun b o e => sortedAll_old e
    obtain ⟨eF, heF⟩ := sortedAll_at s.heap (es.map Value.ref) out.toArray
    have hmap : ((es.zip T).mergeSort (PySem.W.dataLe false fun b : Addr × (Place × Int) => dEn b.2)).map (·.2) = sortE T := by
      refine (PySem.W.sort_maps (s := PySem.W.dataLe false dEn) (fun b : Addr × (Place × Int) => b.2) (fun _ _ _ _ => rfl)).trans ?_
      rw [zip_snd hp]
      rfl
    rw [hmap] at e2
    generalize ((es.zip T).mergeSort (PySem.W.dataLe false fun b : Addr × (Place × Int) => dEn b.2)).map (·.1) = es' at e1 e2
    subst e1
    have hlen' : es'.length = es.length := by
      rw [List.length_map] at hlen
      rw [hlen, hl]
    have I2 : Inv X pins σ (upd H (s.heap.objs.size + 1) (.lst (es'.map V.ref))) { s with heap := sortedAll s.heap (es.map Value.ref) (es'.map Value.ref).toArray, toks := s.toks } :=
      I.laid kS (Nat.le_succ _) ⟨by rw [List.length_map, hlen']; exact hz, _, eF, vals_refs' es', heF⟩
    exact ⟨.ref (s.heap.objs.size + 1), _, I2, rfl, q _ _ hfree (sameN hfree) ⟨es', upd_same, ens_same (sameN hfree) e2⟩⟩
end
end FR

/-! FRC: dicts whose keys are places: list(d.items()), sorted(d.items()), dict(a table), for place, worth in d.items(). -/
namespace FR
open PySem PySem.Spec PyProof.Rows L2
section
variable {X : Cx} {pins : List (Addr × Obj)} {σ : L2.St} {H : Hp} {s : Shared}

/-- what stands in such a dict -/
theorem ents {a : Addr} {T : Tab} (I : Inv X pins σ H s) (ha : Rd H a (.dT (tkv T))) : (a == sysModules) = false ∧ T.length ≤ sizeLine ∧ ∃ (o : Obj) (es : Array DictEntry) (ep : Nat), s.heap.get? a = some o ∧ o.ExactDict ∧ o.data = .dict es ep ∧
    es.size = T.length ∧ ∀ (j : Nat) (p : Place × Int), T[j]? = some p → ∃ (en : DictEntry) (kq : Addr) (t : Tok), es[j]? = some en ∧ en.key = .ref kq ∧ en.val = .int p.2 t ∧ PlAt H kq p.1 := by
  obtain ⟨z, hd, xs', rel, o, es, ep, ho, hx, hdat, hes, _⟩ := (show ObjOk X.prog X.w H s.heap a (.dT (tkv T)) from ha.ok I.hok)
  have l1 : (tkv T).length = xs'.length := Paired.length rel
  rw [tkv_length] at l1 z
  refine ⟨hd, z, o, es, ep, ho, hx, hdat, ?_, fun j p hj => ?_⟩
  · have l2 : es.size = xs'.length := size_of_entries hes
    omega
  · have e : (tkv T)[j]? = some (pk p.1, V.int p.2) := by
      unfold tkv
      rw [List.getElem?_map, hj]
      rfl
    obtain ⟨x, hx', r1, r2, r3⟩ := L2.paired_get rel e
    obtain ⟨t, et⟩ := r3
    have q := entry_at hes j
    rw [hx'] at q
    refine ⟨_, x.2.1, t, q, rfl, et, ?_⟩
    exact r2

/-- pairs that were laid anew are tracked -/
theorem pairs_taken {T : Tab} {es : Array DictEntry} {as : List Addr} {h' : Heap} {tk : Nat} {H1 : Hp} (I : Inv X pins σ H s)
    (hent : ∀ (j : Nat) (p : Place × Int), T[j]? = some p → ∃ (en : DictEntry) (kq : Addr) (t : Tok), es[j]? = some en ∧ en.key = .ref kq ∧ en.val = .int p.2 t ∧ PlAt H kq p.1)
    (I1 : Inv X pins σ H1 { s with heap := h', toks := tk }) (m : Same H H1) (hl : as.length = T.length) (rise : as.Pairwise (· < ·)) (above : ∀ a ∈ as, s.heap.objs.size ≤ a ∧ H1 a = none)
    (pairs : ∀ (j : Nat) (a : Addr) (en : DictEntry), as[j]? = some a → es[j]? = some en → h'.get? a = some { cls := .type "tuple", data := .seq #[en.key, en.val] }) :
    ∃ H2, Inv X pins σ H2 { s with heap := h', toks := tk } ∧ Same H1 H2 ∧ Paired (EnAt H2) as T := by
  have nd : as.Nodup := List.Pairwise.imp (fun {a b} (h : a < b) => Nat.ne_of_lt h) rise
  obtain ⟨H2, I2, g, qt⟩ := L2.DX.takeT (P := fun b vs => ∃ (j : Nat) (p : Place × Int) (kq : Addr), as[j]? = some b ∧ T[j]? = some p ∧ vs = [.ref kq, .int p.2] ∧ PlAt H kq p.1) I as H1 I1 nd fun b hb => by
    obtain ⟨j, hj⟩ := List.mem_iff_getElem?.mp hb
    have hjl : j < T.length := by rw [← hl]; exact (List.getElem?_eq_some_iff.mp hj).1
    obtain ⟨en, kq, t, e1, e2, e3, e4⟩ := hent j T[j] (List.getElem?_eq_getElem hjl)
    have hg := pairs j b en hj e1
    rw [e2, e3] at hg
    refine ⟨(above b hb).1, (above b hb).2, [.ref kq, .int (T[j]).2], ⟨j, T[j], kq, hj, List.getElem?_eq_getElem hjl, rfl, e4⟩, fun H3 => ⟨(by show 2 ≤ sizeLine; decide), [Value.ref kq, Value.int (T[j]).2 t], .cons rfl (.cons ⟨t, rfl⟩ .nil), ⟨_, hg, rfl, 0, rfl⟩⟩⟩
  refine ⟨H2, I2, g, ?_⟩
  have key : ∀ (j : Nat) (b : Addr) (p : Place × Int), as[j]? = some b → T[j]? = some p → EnAt H2 b p := by
    intro j b p hj hp
    obtain ⟨vs, ⟨i, p', kq, i1, i2, ev, hk⟩, hH⟩ := qt b (List.mem_of_getElem? hj)
    have eij : j = i := (List.getElem?_inj (List.getElem?_eq_some_iff.mp hj).1 nd).mp (hj.trans i1.symm)
    subst eij
    have ep : p' = p := Option.some.inj (i2.symm.trans hp)
    subst ep
    rw [ev] at hH
    exact ⟨kq, hH, g _ _ (m _ _ hk)⟩
  clear qt pairs above rise nd I1 I2 hent
  induction as generalizing T with
  | nil =>
    match T, hl with
    | [], _ => exact .nil
  | cons a as ih =>
    match T, hl, key with
    | p :: T, hl, key => exact .cons (key 0 a p rfl rfl) (ih (by simpa using hl) fun j b q h1 h2 => key (j + 1) b q (by simpa using h1) (by simpa using h2))

/-! ### list(d.items()) -/
def rListIt : List V → Hp → VK → Prop := fun vs H Q => ∃ (p a : Addr) (T : Tab), vs = [.ref p] ∧ H p = some (L2.DX.itemsO p a) ∧ H a = some (.dT (tkv T)) ∧ ∀ l H', H l = none → Same H H' → TbAt H' l T → Q (.ref l) H'
theorem call_listIt (hc : X.calm = true) : CallR X (.type "list") rListIt := by
  intro pins s σ H xs us Q I r h
  obtain ⟨p, a, T, rfl, hp, ha, q⟩ := h
  obtain rfl := Vals.ref1 r
  have view : s.heap.IsItemsView p a := (show ObjOk X.prog X.w H s.heap p (L2.DX.itemsO p a) from I.hok p _ hp).1
  obtain ⟨hd, hz, o, es, ep, ho, hx, hdat, hsz, hent⟩ := ents I (.of ha)
  refine PySem.W.dil_call (es := es) (ep := ep) (I.ok.hd hc) view ⟨o, ho, hx, hdat⟩ (by omega) fun h' tk acc c as hk hS hl hG hacc => ?_
  have hf : H s.heap.objs.size = none := I.hok.fresh (Nat.le_refl _)
  have I1 : Inv X pins σ (upd H s.heap.objs.size (.lst (as.map V.ref))) { s with heap := h', toks := tk } :=
    I.laid (t' := tk) hk (Nat.le_refl _) ⟨by rw [List.length_map]; omega, as.map Value.ref, c, vals_refs' as, by rw [← hacc, Array.toArray_toList]; exact hS⟩
  obtain ⟨H2, I2, g, P⟩ := pairs_taken (T := T) (es := es) (as := as) I hent I1 (sameN hf) (by omega) hG.rise (fun b hb => ⟨Nat.le_of_lt (hG.above b hb), by
      rw [upd_ne (Nat.ne_of_gt (hG.above b hb))]
      exact I.hok.fresh (Nat.le_of_lt (hG.above b hb))⟩) fun j b en hj hen => by
    obtain ⟨hjl, e⟩ := hG.pairs j b hj
    have : es[j] = en := Option.some.inj ((Array.getElem?_eq_getElem hjl).symm.trans hen)
    rw [this] at e
    exact e
  exact ⟨.ref s.heap.objs.size, H2, I2, rfl, q _ _ hf ((sameN hf).trans g) ⟨as, g _ _ upd_same, P⟩⟩

/-! ### sorted(d.items()) -/
def rSortIt2 : List V → Hp → VK → Prop := fun vs H Q => ∃ (p a : Addr) (T : Tab), vs = [.ref p] ∧ H p = some (L2.DX.itemsO p a) ∧ H a = some (.dT (tkv T)) ∧ ∀ l H', H l = none → Same H H' → TbAt H' l (sortE T) → Q (.ref l) H'
theorem reads_en {h : Heap} {b kq : Addr} {p : Place × Int} {t : Tok} (hg : h.get? b = some { cls := .type "tuple", data := .seq #[Value.ref kq, Value.int p.2 t] })
    (hk : ∃ t1 t2, IsTup h kq #[Value.str p.1.1 t1, Value.int p.1.2 t2]) : Reads h (.ref b) (dEn p) [] := by
  obtain ⟨t1, t2, o, ho, hc, n, hd⟩ := hk
  have r1 : Reads h (.ref kq) (dPl p.1) [] := Reads.tuple (as := [] ++ ([] ++ [])) ho hc hd (.cons (.str _ _) (.cons (.int _ _) .nil))
  exact Reads.tuple (as := [] ++ ([] ++ [])) hg rfl rfl (.cons r1 (.cons (.int _ _) .nil))
theorem pl_obj {kq : Addr} {p : Place} (I : Inv X pins σ H s) (h : PlAt H kq p) : ∃ t1 t2, IsTup s.heap kq #[Value.str p.1 t1, Value.int p.2 t2] := by
  obtain ⟨_, its, rv, ht⟩ := (show ObjOk X.prog X.w H s.heap kq (.tup [.str p.1, .int p.2]) from I.hok kq _ h)
  cases rv with
  | cons r1 r2 =>
    cases r2 with
    | cons r3 r4 =>
      cases r4
      obtain ⟨t1, rfl⟩ := r1
      obtain ⟨t2, rfl⟩ := r3
      exact ⟨t1, t2, ht⟩
theorem each_ix {α β : Type} {F : α → β → Prop} : ∀ {as : List α} {bs : List β}, as.length = bs.length → (∀ (j : Nat) (a : α) (b : β), as[j]? = some a → bs[j]? = some b → F a b) → PySem.W.EachIs F as bs
  | [], [], _, _ => .nil
  | [], _ :: _, h, _ => by simp at h
  | _ :: _, [], h, _ => by simp at h
  | a :: as, b :: bs, h, f => .cons (f 0 a b rfl rfl) (each_ix (by simpa using h) fun j x y h1 h2 => f (j + 1) x y (by simpa using h1) (by simpa using h2))
theorem each_out {as : List Addr} {T : Tab} : ∀ {out : List Value} {bs : List (Addr × (Place × Int))}, PySem.W.EachIs (fun (v : Value) (b : Addr × (Place × Int)) => v = Value.ref b.1 ∧ b ∈ as.zip T) out bs →
    out = (bs.map (·.1)).map Value.ref ∧ ∀ b ∈ bs, b ∈ as.zip T
  | _, _, .nil => ⟨rfl, fun _ h => nomatch h⟩
  | _, _, .cons h t => by
    obtain ⟨e1, e2⟩ := each_out t
    refine ⟨by rw [h.1, e1]; rfl, fun b hb => ?_⟩
    rcases List.mem_cons.mp hb with z | z
    · rw [z]; exact h.2
    · exact e2 b z
theorem paired_map {F : Addr → (Place × Int) → Prop} : ∀ {bs : List (Addr × (Place × Int))}, (∀ b ∈ bs, F b.1 b.2) → Paired F (bs.map (·.1)) (bs.map (·.2))
  | [], _ => .nil
  | b :: bs, h => .cons (h b (List.mem_cons_self ..)) (paired_map fun c hc => h c (List.mem_cons_of_mem _ hc))
theorem paired_zip {F : Addr → (Place × Int) → Prop} : ∀ {as : List Addr} {T : Tab}, Paired F as T → ∀ b ∈ as.zip T, F b.1 b.2
  | _, _, .nil, _, h => nomatch h
  | _, _, .cons q r, b, h => by
    rcases List.mem_cons.mp h with z | z
    · rw [z]; exact q
    · exact paired_zip r b z
theorem zip_map_snd : ∀ {as : List Addr} {T : Tab}, as.length = T.length → (as.zip T).map (·.2) = T
  | [], [], _ => rfl
  | _ :: as, _ :: T, h => congrArg (_ :: ·) (zip_map_snd (by simpa using h))
theorem cr_sortIt (hc : X.calm = true) (hu : X.A.units + 64 < cLine) : CallR X (.builtin "sorted") rSortIt2 := by
  intro pins s σ H xs us Q I r h
  obtain ⟨p, a, T, rfl, hp, ha, q⟩ := h
  obtain rfl := Vals.ref1 r
  have view : s.heap.IsItemsView p a := (show ObjOk X.prog X.w H s.heap p (L2.DX.itemsO p a) from I.hok p _ hp).1
  obtain ⟨hd, hz, o, es, ep, ho, hx, hdat, hsz, hent⟩ := ents I (.of ha)
  refine DT.sortedI (es := es) (ep := ep) (I.ok.hd hc) view ⟨o, ho, hx, hdat⟩ (by omega) fun h' tk as hk hlt hl hG => ?_
  have lT : as.length = T.length := by omega
  have hob : (h'.push { cls := .type "list", data := .seq (as.map Value.ref).toArray }).get? h'.objs.size = some (seqObj "list" (as.map Value.ref).toArray 0) := Heap.get?_push_size _ rfl
  have kb : ∀ b ob, s.heap.get? b = some ob → (h'.push { cls := .type "list", data := .seq (as.map Value.ref).toArray }).get? b = some ob := fun b ob e => Heap.get?_push_of_some _ (hk b ob e)
  have ne0 : ∀ b ob, h'.get? b = some ob → b ≠ h'.objs.size := fun b ob e => Nat.ne_of_lt (Heap.lt_size e)
  have ka : ∀ b ob, h'.get? b = some ob → (h'.push { cls := .type "list", data := .seq (as.map Value.ref).toArray }).get? b = some ob := fun b ob e => Heap.get?_push_of_some _ e
  have pr : ∀ (j : Nat) (b : Addr) (en : DictEntry), as[j]? = some b → es[j]? = some en → h'.get? b = some { cls := .type "tuple", data := .seq #[en.key, en.val] } := by
    intro j b en hj hen
    obtain ⟨e, he, hg⟩ := hG.pairs j b hj
    have : e = en := Option.some.inj (he.symm.trans hen)
    rw [this] at hg
    exact hg
  generalize hh2 : h'.push { cls := .type "list", data := .seq (as.map Value.ref).toArray } = h2 at hob kb ka ⊢
  have zl : (as.zip T).length = as.length := by simp [lT]
  have zix : ∀ (j : Nat) (v : Value) (b : Addr × (Place × Int)), (as.map Value.ref)[j]? = some v → (as.zip T)[j]? = some b → v = Value.ref b.1 ∧ as[j]? = some b.1 ∧ T[j]? = some b.2 := by
    intro j v b hv hb
    obtain ⟨h1, h2⟩ := List.getElem?_zip_eq_some.mp hb
    rw [List.getElem?_map, h1] at hv
    exact ⟨(Option.some.inj hv).symm, h1, h2⟩
  refine PySem.W.list_sort_data (s := { s with heap := h2, toks := tk }) (R := fun (v : Value) (b : Addr × (Place × Int)) => v = Value.ref b.1 ∧ b ∈ as.zip T) (enc := fun b : Addr × (Place × Int) => dEn b.2) (bs := as.zip T) (vs := as.map Value.ref) hob
    (each_ix (by rw [List.length_map, zl]) fun j v b hv hb => ⟨(zix j v b hv hb).1, List.mem_of_getElem? hb⟩)
    (each_ix (by rw [List.length_map, zl]) fun j v b hv hb => ?_) (PySem.W.AllAlike.of fun b b' => alike_en _ _) (PySem.W.Sortable.tuples fun b => ⟨_, _, rfl⟩)
    (by rw [zl]; omega) (fun b _ => ?_) fun out hlen hout => ?_
  · obtain ⟨rfl, h1, h2'⟩ := zix j v b hv hb
    obtain ⟨en, kq, t, e1, e2, e3, e4⟩ := hent j b.2 h2'
    have hg := pr j b.1 en h1 e1
    rw [e2, e3] at hg
    obtain ⟨t1, t2, ot, ho1, ho2⟩ := pl_obj I e4
    exact ⟨[], reads_en (ka _ _ hg) ⟨t1, t2, ot, kb _ _ ho1, ho2⟩, fun z => nomatch z⟩
  · have := depth_en b.2
    show X.A.units + 1 + 1 + (dEn b.2).depth < cLine
    omega
  · obtain ⟨e1, e2⟩ := each_out hout
    have hmap : ((as.zip T).mergeSort (PySem.W.dataLe false fun b : Addr × (Place × Int) => dEn b.2)).map (·.2) = sortE T := by
      refine (PySem.W.sort_maps (s := PySem.W.dataLe false dEn) (fun b : Addr × (Place × Int) => b.2) (fun _ _ _ _ => rfl)).trans ?_
      rw [zip_map_snd lT]
      rfl
    have hbl : ((as.zip T).mergeSort (PySem.W.dataLe false fun b : Addr × (Place × Int) => dEn b.2)).length = as.length := by rw [List.length_mergeSort, zl]
    generalize (as.zip T).mergeSort (PySem.W.dataLe false fun b : Addr × (Place × Int) => dEn b.2) = bs at e1 e2 hmap hbl
    have hn0 : H h'.objs.size = none := I.hok.fresh (Nat.le_of_lt hlt)
    have kF : ∀ b ob, b ≠ h'.objs.size → h2.get? b = some ob → (sortedHeap h2 h'.objs.size (as.map Value.ref) out.toArray).get? b = some ob := fun b ob hb e => (sortedHeap_old hb (Heap.lt_size e)).trans e
    have kS : ∀ b ob, s.heap.get? b = some ob → (sortedHeap h2 h'.objs.size (as.map Value.ref) out.toArray).get? b = some ob := fun b ob e => kF b ob (ne0 _ _ (hk b ob e)) (kb b ob e)
    obtain ⟨eF, heF⟩ := sortedHeap_at (vs := as.map Value.ref) (out := out.toArray) hob
    have I1 : Inv X pins σ (upd H h'.objs.size (.lst ((bs.map (·.1)).map V.ref))) { s with heap := sortedHeap h2 h'.objs.size (as.map Value.ref) out.toArray, toks := tk } :=
      I.laid (t' := tk) kS (Nat.le_of_lt hlt) ⟨by rw [List.length_map, List.length_map, hbl]; omega, out, eF, by rw [e1]; exact vals_refs' _, heF⟩
    obtain ⟨H2, I2, g, P⟩ := pairs_taken (T := T) (es := es) (as := as) I hent I1 (sameN hn0) lT hG.rise (fun b hb => by
        have hb1 := Nat.le_of_lt (hG.above b hb)
        refine ⟨hb1, ?_⟩
        rw [upd_ne (Nat.ne_of_lt (hG.there hb))]
        exact I.hok.fresh hb1) fun j b en hj hen => kF _ _ (ne0 _ _ (pr j b en hj hen)) (ka _ _ (pr j b en hj hen))
    have P2 : Paired (EnAt H2) (bs.map (·.1)) (bs.map (·.2)) := paired_map fun b hb => paired_zip P b (e2 b hb)
    rw [hmap] at P2
    exact ⟨.ref h'.objs.size, H2, I2, rfl, q _ _ hn0 ((sameN hn0).trans g) ⟨_, g _ _ upd_same, P2⟩⟩

/-! ### dict(a table) -/
def rDictT : List V → Hp → VK → Prop := fun vs H Q => ∃ (a : Addr) (T : Tab), vs = [.ref a] ∧ TbAt H a T ∧ (keysOf T).Nodup ∧ ∀ p, H p = none → Q (.ref p) (upd H p (.dT (tkv T)))
theorem paired_at {α β : Type} {F : α → β → Prop} : ∀ {xs : List α} {ys : List β}, Paired F xs ys → ∀ {i : Nat} {y : β}, ys[i]? = some y → ∃ x, xs[i]? = some x ∧ F x y
  | _, _, .nil, i, y, e => by simp at e
  | _, _, .cons q _, 0, y, e => by
    have : _ = y := Option.some.inj e
    subst this
    exact ⟨_, rfl, q⟩
  | _, _, .cons _ r, i + 1, y, e => by
    obtain ⟨x, h1, h2⟩ := paired_at r (i := i) (y := y) (by simpa using e)
    exact ⟨x, by simpa using h1, h2⟩
/-- the entries of a table as the library's dicts hold them -/
theorem tab_ents (I : Inv X pins σ H s) : ∀ {es : List Addr} {T : Tab}, Paired (EnAt H) es T → ∃ xs : List (List Key × Addr × Value), KT H (tkv T) xs ∧ xs.length = es.length ∧
    ∀ (j : Nat) (x : List Key × Addr × Value), xs[j]? = some x → ∃ e : Addr, es[j]? = some e ∧ IsTup s.heap e #[Value.ref x.2.1, x.2.2]
  | _, _, .nil => ⟨[], .nil, rfl, fun j x e => by simp at e⟩
  | _, _, .cons (a := e) (b := p) h t => by
    obtain ⟨xs, k, hl, f⟩ := tab_ents I t
    obtain ⟨q, h1, h2⟩ := h
    obtain ⟨_, its, rv, ht⟩ := (show ObjOk X.prog X.w H s.heap e (.tup [.ref q, .int p.2]) from I.hok e _ h1)
    cases rv with
    | cons r1 r2 =>
      cases r2 with
      | cons r3 r4 =>
        cases r4
        cases r1
        obtain ⟨t2, rfl⟩ := r3
        refine ⟨(pk p.1, q, Value.int p.2 t2) :: xs, .cons ⟨rfl, h2, ⟨t2, rfl⟩⟩ k, by simp [hl], fun j x hj => ?_⟩
        cases j with
        | zero =>
          have e' : _ = x := Option.some.inj hj
          subst e'
          exact ⟨e, rfl, ht⟩
        | succ j =>
          obtain ⟨e', g1, g2⟩ := f j x (by simpa using hj)
          exact ⟨e', by simpa using g1, g2⟩
theorem keys_kt : ∀ {T : Tab} {xs : List (List Key × Addr × Value)}, KT H (tkv T) xs → xs.map (·.1) = (keysOf T).map pk
  | [], _, h => by cases h; rfl
  | p :: T, _, h => by
    cases h with
    | cons q r =>
      have ih := keys_kt (T := T) r
      exact congr (congrArg List.cons q.1.symm) ih
theorem call_dictT (hc : X.calm = true) (hu : X.A.units + 64 < cLine) : CallR X (.type "dict") rDictT := by
  intro pins s σ H xs us Q I r h
  obtain ⟨a, T, rfl, ⟨es, ha, hp⟩, hnd, q⟩ := h
  obtain rfl := Vals.ref1 r
  obtain ⟨hz, its, n, rv, hg⟩ := (show ObjOk X.prog X.w H s.heap a (.lst (es.map V.ref)) from I.hok a _ ha)
  have ei := refs_at rv
  subst ei
  rw [List.length_map] at hz
  have hT : es.length = T.length := Paired.length hp
  obtain ⟨xs, kt, hl, hx⟩ := tab_ents I hp
  have nd : (xs.map (·.1)).Nodup := by
    rw [keys_kt kt]
    exact List.Pairwise.map _ (fun {x y} h e => h (pk_inj e)) hnd
  have hf : H s.heap.objs.size = none := I.hok.fresh (Nat.le_refl _)
  have hm : (s.heap.objs.size == sysModules) = false := beq_eq_false_iff_ne.mpr (Nat.ne_of_gt I.big)
  have lps : (xs.map fun x => ((Value.ref x.2.1, x.2.2) : Value × Value)).length = es.length := by rw [List.length_map, hl]
  refine call_dict_pairsH (knd := tupleKind (mixKind X.prog X.w)) (wr := []) (ps := xs) (n := _) (PairArg.list a (es.map Value.ref).toArray (fun j => es.getD j 0) (xs.map fun x => (Value.ref x.2.1, x.2.2))) (I.ok.hd hc) (by show X.A.units + 1 + 1 < cLine; omega)
    ⟨⟨_, n, hg, rfl, rfl, rfl⟩, ?_, fun j k v hj => ?_⟩ ⟨by rw [List.length_map], fun i key v hi => ?_⟩ (fun h' hk x hxm => ?_) (by rw [lps]; exact hz) fun h' tk hd' hk => ?_
  · show (es.map Value.ref).toArray.size = _
    rw [List.size_toArray, List.length_map, lps]
  · rw [List.getElem?_map] at hj
    cases e : xs[j]? with
    | none => rw [e] at hj; cases hj
    | some x =>
      rw [e] at hj
      have e2 := Option.some.inj hj
      obtain ⟨ea, g1, ot, g2, g3, n', g4⟩ := hx j x e
      have ek : Value.ref x.2.1 = k := congrArg Prod.fst e2
      have ev : x.2.2 = v := congrArg Prod.snd e2
      have eg : es.getD j 0 = ea := by rw [List.getD_eq_getElem?_getD, g1]; rfl
      show (es.map Value.ref).toArray[j]? = some (Value.ref (es.getD j 0)) ∧ PairAt s.heap (es.getD j 0) k v
      rw [eg, ← ek, ← ev]
      exact ⟨by simp [g1], .inl ⟨ot, g2, g3, n', g4⟩⟩
  · have hi' : (xs.map fun x => ((Value.ref x.2.1, x.2.2) : Value × Value))[i]? = some (key, v) := hi
    rw [List.getElem?_map] at hi'
    cases e : xs[i]? with
    | none => rw [e] at hi'; cases hi'
    | some x =>
      rw [e] at hi'
      have e2 := Option.some.inj hi'
      refine ⟨x.1, x.2.1, ?_, (congrArg Prod.fst e2).symm⟩
      have ev : x.2.2 = v := congrArg Prod.snd e2
      rw [← ev]
  · obtain ⟨j, hj⟩ := List.mem_iff_getElem?.mp hxm
    obtain ⟨kv, e1, e2, e3, e4⟩ := paired_at kt hj
    have k0 := key_of (P := X.prog) (w := X.w) I.hok e3
    rw [e2] at k0
    obtain ⟨o1, i1, n1, f1, f2, f3, f4⟩ := (show IsTupleKey (mixKind X.prog X.w) s.heap x.1 x.2.1 from k0)
    exact ⟨o1, i1, n1, hk _ _ (Nat.ne_of_lt (Heap.lt_size f1)) (fun z => nomatch z) f1, f2, f3, f4⟩
  · rw [storedAllH_nil_of_nodup xs nd] at hd'
    obtain ⟨o, es', ep, g1, g2, g3, g4, _, g5⟩ := hd'
    have k0 : ∀ b ob, s.heap.get? b = some ob → h'.get? b = some ob := fun b ob e => hk b ob (fun z => nomatch z) e
    refine ⟨.ref s.heap.objs.size, _, I.laid (t' := tk) (o := .dT (tkv T)) k0 (Nat.le_refl _) ⟨by rw [tkv_length]; omega, hm, xs, L2.Paired.mapP kt fun c d z => ⟨z.1, sameN hf _ _ z.2.1, z.2.2⟩, o, es', ep, g1, g2, g3, g4, g5⟩, rfl, q _ hf⟩
end
end FR

/-! FRD: for place, worth in d.items(), d a locked dict whose keys are places. -/
namespace FR
open PySem PySem.Spec PyProof.Rows L2
/-- each entry, a new pair of the key's own tuple and the worth -/
def ItT (d : Addr) (o : Obj) (T : Tab) : It where
  go := fun i H => H d = some (.frz o (.dT (tkv T))) ∧ i < T.length
  yld := fun i H x H' => ∃ (e kq : Addr) (p : Place × Int), T[i]? = some p ∧ x = .ref e ∧ H e = none ∧ PlAt H kq p.1 ∧ H' = upd H e (.tup [.ref kq, .int p.2])
  stop := fun i H => H d = some (.frz o (.dT (tkv T))) ∧ T.length ≤ i
section
variable {P : Program} {w : World} {K : PySem.W.Frag} {d : Addr} {o : Obj} {es : Array DictEntry} {ep : Nat}
theorem dict_same {o : Obj} {es es' : Array DictEntry} {ep ep' : Nat} (h : o.data = .dict es ep) (h' : o.data = .dict es' ep') : es' = es ∧ ep' = ep := by
  have e := h.symm.trans h'
  cases e
  exact ⟨rfl, rfl⟩
theorem turn_T {T : Tab} {elts : List Expr} {kk : Nat} {tpos : Pos} (it : Addr) (hod : o.data = .dict es ep) :
    Turn P w K (.Tuple elts kk tpos) (ItT d o T) [it] it (fun i h => ∃ ok ov, IsItemIter h it d i T.length ep ok ov) where
  mem := List.mem_singleton.mpr rfl
  obj := fun i h ⟨ok, ov, e⟩ b hb => by
    rw [List.mem_singleton.mp hb]
    exact ⟨_, e, fun v z => nomatch z⟩
  keep := fun i h h' ⟨ok, ov, e⟩ k => ⟨ok, ov, k it (List.mem_singleton.mpr rfl) _ e⟩
  item := by
    intro X hP hw hK hc i pins s σ H E I hf ⟨ok, ov, he⟩ ⟨hd, hi⟩
    subst hP hw hK
    obtain ⟨hs, hz, o', es', ep', ho, hx, hdat, hsz, hent⟩ := ents I (.inr ⟨_, hd⟩)
    have eo : o' = o := Option.some.inj (ho.symm.trans (I.hok d _ hd).1)
    subst eo
    obtain ⟨e1, e2⟩ := dict_same hod hdat
    subst e1 e2
    obtain ⟨en, kq, t, f1, f2, f3, f4⟩ := hent i T[i] (List.getElem?_eq_getElem hi)
    have hi' : i < es'.size := by omega
    have een : es'[i] = en := Option.some.inj ((Array.getElem?_eq_getElem hi').symm.trans f1)
    rw [← hsz] at he
    have hlt : it < s.heap.objs.size := Heap.lt_size he
    refine DT.nextI he ⟨o', ho, hx, hdat⟩ hi' fun h' hout hT hn hk => ?_
    rw [een, f2, f3] at hT
    refine ⟨_, rfl, wpAny_letOwnedTupleGo_items (s := { s with heap := h' }) hout fun h'' he' sb => ?_⟩
    have hT2 : h''.get? s.heap.objs.size = some { cls := .type "tuple", data := .seq #[Value.ref kq, Value.int (T[i]).2 t] } := (sb.2 _ (Nat.ne_of_gt hlt)).trans hT
    have new : ObjOk X.prog X.w (upd H s.heap.objs.size (.tup [.ref kq, .int (T[i]).2])) h'' s.heap.objs.size (.tup [.ref kq, .int (T[i]).2]) :=
      ⟨by show 2 ≤ sizeLine; decide, [Value.ref kq, Value.int (T[i]).2 t], .cons rfl (.cons ⟨t, rfl⟩ .nil), ⟨_, hT2, rfl, _, rfl⟩⟩
    have I1 : Inv X pins σ (upd H s.heap.objs.size (.tup [.ref kq, .int (T[i]).2])) { s with heap := h'' } :=
      I.turnedNew (t' := s.toks) (ch := [it]) (fun b ob hb e => (sb.2 b (fun z => hb (List.mem_singleton.mpr z))).trans (hk b ob (fun z => hb (List.mem_singleton.mpr z)) e)) hf (Nat.le_refl _) new
    refine ⟨.ref s.heap.objs.size, _, I1, rfl, ⟨s.heap.objs.size, kq, T[i], List.getElem?_eq_getElem hi, rfl, I.hok.fresh (Nat.le_refl _), f4, rfl⟩, ⟨es'[i].key, es'[i].val, ?_⟩, fun b hb => ?_⟩
    · rw [← hsz]; exact he'
    · rw [List.mem_singleton.mp hb, upd_ne (Nat.ne_of_lt hlt)]
      exact (hf it (List.mem_singleton.mpr rfl)).1
  done := by
    intro X hP hw hK hc i pins s σ H E I hf ⟨ok, ov, he⟩ ⟨hd, hi⟩
    subst hP hw hK
    obtain ⟨f0, f1, f2, f3, f4, f5⟩ := hf it (List.mem_singleton.mpr rfl)
    obtain ⟨hs, hz, o', es', ep', ho, hx, hdat, hsz, hent⟩ := ents I (.inr ⟨_, hd⟩)
    have eo : o' = o := Option.some.inj (ho.symm.trans (I.hok d _ hd).1)
    subst eo
    obtain ⟨e1, e2⟩ := dict_same hod hdat
    subst e1 e2
    rw [← hsz] at he
    exact DT.endI (I.ok.hd hc) he ⟨o', ho, hx, hdat⟩ (by omega) fun h' eb => ⟨rfl, I.turned (t' := s.toks) (fun b ob hb e => eb b ob hb e) f0 f1 f3 f4 f5⟩
  self := fun A i s Q E ⟨_, _, e⟩ h => PySem.W.kcp_self e h
end
def iItemsT (td : TE) : TI := fun σ H R => td σ H fun x H1 => ∃ d o T, x = .ref d ∧ H1 d = some (.frz o (.dT (tkv T))) ∧ R (ItT d o T) H1
section
variable {X : Cx} {e : Expr} {td : TE} {apos cpos : Pos}
theorem pi_itemsT {elts : List Expr} {kk : Nat} {tpos : Pos} (he : PE X e td) (hbase : attributeBase e "items" X.env (eval e X.env) = eval e X.env := by rfl) (hline : (apos.endLine == cpos.line) = true := by rfl) :
    PI X (.Tuple elts kk tpos) (.Call (.Attribute e "items" apos) [] [] cpos) (iItemsT td) := by
  refine ⟨fun pins s σ H R I h => ?_⟩
  refine wpAny_Call_method (T := "dict") (id := "dict.items") hbase rfl hline F.plainAttrs_dict F.slot_dict_items F.type_dict_items (thn (he.run pins s σ H _ I h) fun u s1 ⟨x, H1, I1, rx, d, o, T, ex, hd, q⟩ => ?_)
  subst ex
  obtain rfl : u = Value.ref d := rx
  obtain ⟨hs, hz, o', es, ep, ho, hx, hdat, hsz, hent⟩ := ents I1 (.inr ⟨_, hd⟩)
  have eo : o' = o := Option.some.inj (ho.symm.trans (I1.hok d _ hd).1)
  subst eo
  refine ⟨⟨o', ho, hx.1⟩, fun a ea => ?_, ?_⟩
  · cases ea
    exact ⟨o', ho, hx.2.1⟩
  have I2 : Inv X pins σ H1 { s1 with heap := s1.heap.push { cls := .type "dict_items", data := .fields #[.ref d] } } := I1.kept (t' := s1.toks) fun b ob q => Heap.get?_push_of_some _ q
  have fin : wpAny (model X.prog X.w) X.A (pyIter (.ref s1.heap.objs.size)) (PIE X pins σ (.Tuple elts kk tpos) R) X.xe { s1 with heap := s1.heap.push { cls := .type "dict_items", data := .fields #[.ref d] } } := by
    refine DT.iterI (d := d) (es := es) (ep := ep) ⟨_, Heap.get?_push_size _ rfl, rfl, rfl⟩ ⟨o', Heap.get?_push_of_some _ ho, hx, hdat⟩ (pi_one (tk := s1.toks) I2 _ (turn_T _ hdat) ⟨.none, .none, ?_⟩ q)
    rw [hsz]
    exact Heap.get?_push_size _ rfl
  show wpAny _ _ (callWith cpos (.builtin "dict.items") [.ref d] [] []) _ X.xe s1
  exact method_meetsIn F.slot_dict_items F.entry_dict_items rfl (PySem.evalArgs_none ⟨rfl, ⟨o', ho, hx.1⟩, F.args_dict_items_1 _, _, DT.meetsItems (es := es) (ep := ep) hs, ⟨o', ho, hx, hdat⟩, fin⟩)
end
/-- the walk of such entries, for for_it and lc_it -/
theorem walk_T {d : Addr} {o : Obj} {T : Tab} : Walk (ItT d o T) T.length (fun H => H d = some (.frz o (.dT (tkv T))))
    (fun i H x H' => ∃ (e kq : Addr) (p : Place × Int), T[i]? = some p ∧ x = .ref e ∧ H e = none ∧ PlAt H kq p.1 ∧ H' = upd H e (.tup [.ref kq, .int p.2])) :=
  ⟨fun _ _ hi h => ⟨h, hi⟩, fun _ h => ⟨h, Nat.le_refl _⟩, fun _ _ _ _ _ _ y => y⟩
end FR

/-! FRT: the text by places; what the walk asks of the top. -/
namespace FR
open PySem L2
def top (i : Nat) : Stmt := PySem.Challenge.pw_forerun_k23_whole_rows_done.main.body.getD i (.Pass ⟨0, 0, 0, 0⟩)
abbrev sLaid : Stmt := top 5
abbrev sStands : Stmt := top 6
abbrev sWorthy : Stmt := top 9
abbrev sComes : Stmt := top 12
abbrev sReck : Stmt := top 13
abbrev sInit : Stmt := inClass (top 15) 0
abbrev sOneRow : Stmt := top 16
abbrev sGone : Stmt := top 17
abbrev sAlone : Stmt := top 18
abbrev sCell : Stmt := top 20
abbrev sDraw : Stmt := top 21
abbrev sNames : Stmt := top 22
abbrev sNumber : Stmt := top 23
abbrev sPart : Stmt := top 24
abbrev sWord : Stmt := top 25
abbrev sTerm : Stmt := top 26
abbrev sSpot : Stmt := top 27
abbrev sRow : Stmt := top 28
abbrev sClosed : Stmt := top 29
abbrev sRows : Stmt := top 30
abbrev sTable : Stmt := top 31
abbrev sTwo : Stmt := top 32
abbrev sLWorth : Stmt := top 33
abbrev sLOne : Stmt := top 34
abbrev sThrough : Stmt := top 35
abbrev sWalked : Stmt := top 36
abbrev sCopied : Stmt := top 37
abbrev sPlain : Stmt := top 38
abbrev sLaw : Stmt := top 39
/-- a def of the module where it stands -/
structure DefAt (K : PySem.W.Frag) (mg : Str → Option Value) (x : Str) (st : Stmt) (ps : List Str) (f : Addr) (fd : FuncData) : Prop where
  F : Fun K x x st f fd
  m : mg x = some (.ref f)
  b : Binds K fd ps []
/-- an own class of error -/
structure ErrAt (K : PySem.W.Frag) (mg : Str → Option Value) (x : Str) (C : Addr) : Prop where
  g : mg x = some (.ref C)
  ex : PySem.W.excIn K C [.type "ValueError", .type "Exception", .type "BaseException", .type "object"] "ValueError.__new__" = true
  kp : PySem.W.keepIn K (.ref C) = true
  sb : PySem.W.subIn K (.ref C) (.type "BaseException") = some true
  ty : PySem.W.typeIn K (.ref C) = some (.type "type")
/-- the built-in names that stand for themselves -/
structure Blt (mg : Str → Option Value) : Prop where
  len : mg "len" = none
  range : mg "range" = none
  sorted : mg "sorted" = none
  isinstance : mg "isinstance" = none
  int : mg "int" = none
  bool : mg "bool" = none
  list : mg "list" = none
  tuple : mg "tuple" = none
  dict : mg "dict" = none
  str : mg "str" = none
theorem iteD {c : Prop} [Decidable c] {A B : Prop} (h1 : c → A) (h2 : ¬ c → B) : if decide c = true then A else B := by
  by_cases h : c
  · rw [if_pos (decide_eq_true h)]; exact h1 h
  · rw [if_neg (by simp [h])]; exact h2 h
theorem iteDT {c : Prop} [Decidable c] {A B : Prop} (h : c) (h1 : A) : if decide c = true then A else B := by rw [if_pos (decide_eq_true h)]; exact h1
theorem iteDF {c : Prop} [Decidable c] {A B : Prop} (h : ¬ c) (h2 : B) : if decide c = true then A else B := by rw [if_neg (by simp [h])]; exact h2
end FR

/-! FRE: the law's small helpers that draw. -/
namespace FR
open PySem L2
section
variable {P : Program} {w : World} {K : PySem.W.Frag} {mg : Str → Option Value} {base : Heap}
/-! ### _law_draw -/
def spDraw : Sp := fun vs H Q _ => ∃ c j : Int, vs = [.int c, .int j] ∧ 0 ≤ j ∧ j ≤ 1000 ∧ ∀ d : Int, 0 ≤ d → d ≤ 31250000 → Q (.int d) H
theorem scDraw : FnScope ["cell", "j", "far"] ["cell", "j"] (defScope sDraw) := ⟨rfl, rfl, rfl, by decide +kernel, rfl, by decide +kernel, by decide +kernel⟩
theorem ok_draw {f : Addr} {fd : FuncData} (D : DefAt K mg "_law_draw" sDraw ["cell", "j"] f fd) : FnOk P w K mg base CX0 1 f fd ["cell", "j"] spDraw := by
  refine D.F.ok scDraw (fun vs H Q E h => ?_) (fun cdv A outer s H vs Q E hr h => ?_)
  · obtain ⟨c, j, rfl, _⟩ := h
    rfl
  obtain ⟨c, j, rfl, hj0, hj1, k⟩ := h
  refine ⟨_, pss_cons (ps_set (i := 2) scDraw.nd rfl (.inl rfl) (pe_op op_mod (pe_op op_add (pe_op op_mul (pe_op op_mod (pv 0) pe_int) pe_int) (pe_op op_mul (pe_op op_mul (pe_op op_add (pv 1) pe_int) pe_int) pe_int)) pe_int))
    (pss_one (ps_ret (pe_op op_fdiv (pe_op op_mod (pe_op op_mul (pe_op op_mod (pe_op op_mul (pv 2) (pv 2)) pe_int) (pv 2)) pe_int) pe_int))), ?_⟩
  refine ⟨_, rfl, _, _, rfl, rfl, (by show (0 : Int) < 1000000007; decide), _, _, rfl, rfl, .inr ⟨by decide, by decide⟩, _, rfl, _, _, rfl, rfl, _, _, rfl, rfl, .inr ⟨by decide, by decide⟩, _, _, rfl, rfl, .inr ⟨by decide, by decide⟩, _, _, rfl, rfl, _, _, rfl, rfl, (by show (0 : Int) < 1000000009; decide), ?_⟩
  generalize hx : (c % 1000000007 * 6700417 + (j + 1) * 104729 * 65537) % 1000000009 = x
  have h0 : 0 ≤ x := by omega
  have h1 : x < 1000000009 := by omega
  refine ⟨_, rfl, _, rfl, _, _, rfl, rfl, .inl ⟨by omega, by omega⟩, _, _, rfl, rfl, (by show (0 : Int) < 1000000009; decide), _, rfl, _, _, rfl, rfl, .inr ⟨by omega, by omega⟩, _, _, rfl, rfl, (by show (0 : Int) < 1000000009; decide), _, _, rfl, rfl, ⟨by decide, by decide⟩, ?_⟩
  refine k _ ?_ ?_
  · omega
  · omega
/-! ### _law_cell_at -/
def spCell (K : PySem.W.Frag) : Sp := fun vs H Q _ => ∃ (a : Addr) (ns : List Int) (k : Int), vs = [.ref a, .int k] ∧ SqL K H a (ns.map V.int) ∧ 0 ≤ k ∧ ∀ z : Int, Q (.int z) H
theorem scCell : FnScope ["script", "k"] ["script", "k"] (defScope sCell) := ⟨rfl, rfl, rfl, by decide +kernel, rfl, by decide +kernel, by decide +kernel⟩
theorem ok_cell {f : Addr} {fd : FuncData} (D : DefAt K mg "_law_cell_at" sCell ["script", "k"] f fd) (B : Blt mg) : FnOk P w K mg base CX0 1 f fd ["script", "k"] (spCell K) := by
  refine D.F.ok scCell (fun vs H Q E h => ?_) (fun cdv A outer s H vs Q E hr h => ?_)
  · obtain ⟨a, ns, k, rfl, _⟩ := h
    rfl
  obtain ⟨a, ns, k, rfl, hS, h0, q⟩ := h
  refine ⟨_, pss_cons (ps_if (pt_cmpR op_lt (pv 1) (pe_callB call_len_seq (by rfl) B.len PySem.boot_len (pa_cons (pv 0) pa_nil)) (nomark _)) (pss_one (ps_ret (pe_ix ix_list (pv 0) (pv 1) (fun _ _ => rfl)))) pss_nil) (pss_one (ps_ret pe_int)), ?_⟩
  refine ⟨_, rfl, _, rfl, a, _, rfl, .inl hS, _, _, rfl, rfl, _, rfl, ?_⟩
  refine iteD (fun c => ?_) (fun c => ?_)
  · rw [List.length_map] at c
    have hk : k.toNat < ns.length := by omega
    refine ⟨_, rfl, _, rfl, a, _, _, _, rfl, rfl, hS, at_of (j := k.toNat) (v := .int ns[k.toNat]) (by omega) (by rw [List.getElem?_map, List.getElem?_eq_getElem hk]; rfl), q _⟩
  · exact q 0
/-! ### _law_number -/
def spNumber : Sp := fun vs H Q _ => ∃ c j : Int, vs = [.int c, .int j] ∧ 0 ≤ j ∧ j ≤ 900 ∧ ∀ v : Int, inR v → Q (.int v) H
theorem scNumber : FnScope ["cell", "j"] ["cell", "j"] (defScope sNumber) := ⟨rfl, rfl, rfl, by decide +kernel, rfl, by decide +kernel, by decide +kernel⟩
theorem ok_number {f fD : Addr} {fd fdD : FuncData} (D : DefAt K mg "_law_number" sNumber ["cell", "j"] f fd) (DD : DefAt K mg "_law_draw" sDraw ["cell", "j"] fD fdD) : FnOk P w K mg base CX0 2 f fd ["cell", "j"] spNumber := by
  have GD : FnOk P w K mg base CX0 1 fD fdD ["cell", "j"] spDraw := ok_draw DD
  refine D.F.ok scNumber (fun vs H Q E h => ?_) (fun cdv A outer s H vs Q E hr h => ?_)
  · obtain ⟨c, j, rfl, _⟩ := h
    rfl
  obtain ⟨c, j, rfl, hj0, hj1, k⟩ := h
  refine ⟨_, pss_cons (ps_if (pt_cmpR op_eq (pe_op op_mod (pe_call GD hr rfl DD.m DD.F.kp DD.b .nil pass0 (pa_cons (pv 0) (pa_cons (pv 1) pa_nil))) pe_int) pe_int (nomark _))
      (pss_one (ps_ret (pe_op op_sub (pe_op op_mod (pe_op op_add (pe_op op_mul (pe_op op_mul (pe_op op_mod (pv 0) (pe_op op_pow pe_int pe_int)) (pe_op op_add (pv 1) pe_int)) pe_int) (pv 1)) (pe_op op_add (pe_op op_mul pe_int (pe_op op_pow pe_int pe_int)) pe_int)) (pe_op op_pow pe_int pe_int)))) pss_nil)
    (pss_one (ps_ret (pe_op op_sub (pe_op op_mod (pe_call GD hr rfl DD.m DD.F.kp DD.b .nil pass0 (pa_cons (pv 0) (pa_cons (pe_op op_add (pv 1) pe_int) pa_nil))) pe_int) pe_int))), ?_⟩
  refine ⟨_, rfl, _, rfl, c, j, rfl, hj0, by omega, fun d hd0 hd1 => ?_⟩
  refine ⟨_, _, rfl, rfl, (by show (0 : Int) < 9; decide), rfl, _, rfl, ?_⟩
  refine iteD (fun _ => ?_) (fun _ => ?_)
  · refine ⟨_, rfl, _, _, rfl, rfl, ⟨by decide, by decide, by decide⟩, _, _, rfl, rfl, (by show (0 : Int) < 10 ^ (40 : Int).toNat; decide), _, rfl, _, _, rfl, rfl, _, _, rfl, rfl, .inr ⟨by omega, by omega⟩, _, _, rfl, rfl, .inr ⟨by decide, by decide⟩, _, rfl, _, _, rfl, rfl,
      _, _, rfl, rfl, ⟨by decide, by decide, by decide⟩, _, _, rfl, rfl, .inl ⟨by decide, by decide⟩, _, _, rfl, rfl, _, _, rfl, rfl, (by show (0 : Int) < 2 * 10 ^ (30 : Int).toNat + 1; decide), _, _, rfl, rfl, ⟨by decide, by decide, by decide⟩, _, _, rfl, rfl, ?_⟩
    refine k _ ?_
    have e : (10 : Int) ^ (30 : Int).toNat = BIG := by decide
    rw [e]
    generalize c % 10 ^ (40 : Int).toNat * (j + 2) * 1000003 + j = x
    have hB : (0 : Int) < BIG := by decide
    have h1 := Int.emod_nonneg x (show (2 * BIG + 1 : Int) ≠ 0 by omega)
    have h2 := Int.emod_lt_of_pos x (show (0 : Int) < 2 * BIG + 1 by omega)
    unfold inR
    omega
  · refine ⟨_, rfl, _, rfl, _, _, rfl, rfl, c, j + 1, rfl, by omega, by omega, fun d2 hd20 hd21 => ?_⟩
    refine ⟨_, _, rfl, rfl, (by show (0 : Int) < 7; decide), _, _, rfl, rfl, ?_⟩
    refine k _ ?_
    have hB : (10 : Int) < BIG := by decide
    unfold inR
    omega
end
end FR

/-! FRF: the law's parts, words, terms, spots, rows. -/
namespace FR
open PySem L2
/-! ### rows as data -/
mutual
def dRow : DRow → PyData
  | .take sh e sl => .tuple [.str "take", .str sh, dTerm e, .str sl]
  | .give sh e f => .tuple [.str "give", .str sh, dTerm e, dTerm f]
  | .letr sl e => .tuple [.str "let", .str sl, dTerm e]
  | .say e => .tuple [.str "say", dTerm e]
  | .off e => .tuple [.str "off", dTerm e]
  | .iff e a b => .tuple [.str "if", dTerm e, .list (dRows a), .list (dRows b)]
def dRows : List DRow → List PyData
  | [] => []
  | r :: rs => dRow r :: dRows rs
end
def StrsAt (H : Hp) (a : Addr) (ss : List Str) : Prop := H a = some (.lst (ss.map V.str))
theorem StrsAt.same {H H' : Hp} {a : Addr} {ss : List Str} (s : Same H H') (h : StrsAt H a ss) : StrsAt H' a ss := s _ _ h
theorem StrsAt.get {ss : List Str} {i : Int} (h0 : 0 ≤ i) (h1 : i < (ss.length : Int)) : ∃ s, s ∈ ss ∧ atI (ss.map V.str) i = some (.str s) := by
  have hk : i.toNat < ss.length := by omega
  exact ⟨ss[i.toNat], List.getElem_mem hk, at_of (j := i.toNat) (by omega) (by rw [List.getElem?_map, List.getElem?_eq_getElem hk]; rfl)⟩
/-- names that are no words of terms -/
def NamesOk (ss : List Str) : Prop := ss ≠ [] ∧ ss.length ≤ 100 ∧ ∀ s ∈ ss, s ∉ doers
def partOk (ss : List Str) : Key → Prop
  | .inl v => inR v
  | .inr s => s ∈ ss
theorem wf_part {ss : List Str} (h : NamesOk ss) {k : Key} (hk : partOk ss k) {t : Term} {n : Nat} (ht : wfT t (n + 1)) : wfT (k :: t) n := by
  cases k with
  | inl v => exact ⟨hk, ht⟩
  | inr s => exact .inr ⟨h.2.2 s hk, ht⟩
theorem wf_word {w : Str} (h : w ∈ doers) {t : Term} {n : Nat} (ht : wfT t (n + 1)) : wfT (Sum.inr w :: t) (n + 2) := .inl ⟨h, by omega, ht⟩
theorem wf_append : ∀ {t u : Term} {n : Nat}, wfT t n → wfT u 1 → wfT (t ++ u) n
  | [], u, n, h, hu => by
    have e : n = 1 := h
    subst e
    exact hu
  | .inl i :: t, u, n, h, hu => ⟨h.1, wf_append h.2 hu⟩
  | .inr s :: t, u, n, h, hu => by
    rcases h with ⟨a, b, c⟩ | ⟨a, c⟩
    · exact .inl ⟨a, b, wf_append c hu⟩
    · exact .inr ⟨a, wf_append c hu⟩
theorem lenOf {ss : List Str} : ((ss.map V.str).length : Int) = (ss.length : Int) := by rw [List.length_map]
section
variable {P : Program} {w : World} {K : PySem.W.Frag} {mg : Str → Option Value} {base : Heap}
/-! ### _law_part -/
def spPart : Sp := fun vs H Q _ => ∃ (c j : Int) (a : Addr) (ss : List Str), vs = [.int c, .int j, .ref a] ∧ 0 ≤ j ∧ j ≤ 800 ∧ StrsAt H a ss ∧ NamesOk ss ∧ ∀ k : Key, partOk ss k → Q (kV k) H
theorem scPart : FnScope ["cell", "j", "slots"] ["cell", "j", "slots"] (defScope sPart) := ⟨rfl, rfl, rfl, by decide +kernel, rfl, by decide +kernel, by decide +kernel⟩
theorem ok_part {f fD fN : Addr} {fd fdD fdN : FuncData} (D : DefAt K mg "_law_part" sPart ["cell", "j", "slots"] f fd) (DD : DefAt K mg "_law_draw" sDraw ["cell", "j"] fD fdD) (DN : DefAt K mg "_law_number" sNumber ["cell", "j"] fN fdN) (B : Blt mg) :
    FnOk P w K mg base CX0 3 f fd ["cell", "j", "slots"] spPart := by
  have GD : FnOk P w K mg base CX0 1 fD fdD ["cell", "j"] spDraw := ok_draw DD
  have GN : FnOk P w K mg base CX0 2 fN fdN ["cell", "j"] spNumber := ok_number DN DD
  refine D.F.ok scPart (fun vs H Q E h => ?_) (fun cdv A outer s H vs Q E hr h => ?_)
  · obtain ⟨c, j, a, ss, rfl, _⟩ := h
    rfl
  obtain ⟨c, j, a, ss, rfl, hj0, hj1, hS, hN, k⟩ := h
  have hr1 : Room 1 _ := hr.mono (by decide)
  refine ⟨_, pss_cons (ps_if (pt_cmpR op_eq (pe_op op_mod (pe_call GD hr1 rfl DD.m DD.F.kp DD.b .nil pass0 (pa_cons (pv 0) (pa_cons (pe_op op_add (pv 1) pe_int) pa_nil))) pe_int) pe_int (nomark _))
      (pss_one (ps_ret (pe_ix ix_list (pv 2) (pe_op op_modN (pe_call GD hr1 rfl DD.m DD.F.kp DD.b .nil pass0 (pa_cons (pv 0) (pa_cons (pe_op op_add (pv 1) pe_int) pa_nil))) (pe_callB call_len_seq (by rfl) B.len PySem.boot_len (pa_cons (pv 2) pa_nil))) (fun _ _ => rfl)))) pss_nil)
    (pss_one (ps_ret (pe_call GN hr rfl DN.m DN.F.kp DN.b .nil pass0 (pa_cons (pv 0) (pa_cons (pv 1) pa_nil))))), ?_⟩
  refine ⟨_, rfl, _, rfl, _, _, rfl, rfl, c, j + 5, rfl, by omega, by omega, fun d hd0 hd1 => ?_⟩
  refine ⟨_, _, rfl, rfl, (by show (0 : Int) < 2; decide), rfl, _, rfl, ?_⟩
  have hpos : 0 < ss.length := List.length_pos_iff.mpr hN.1
  refine iteD (fun _ => ?_) (fun _ => ?_)
  · refine ⟨_, rfl, _, rfl, _, rfl, _, _, rfl, rfl, c, j + 6, rfl, by omega, by omega, fun d2 h0 h1 => ?_⟩
    refine ⟨_, rfl, a, _, rfl, .inl (SqL.of hS), _, _, rfl, rfl, (by show ((ss.map V.str).length : Int) ≠ 0; rw [lenOf]; omega), ?_⟩
    have e : d2.fmod ((ss.map V.str).length : Int) = d2 % (ss.length : Int) := by rw [lenOf, Int.fmod_eq_emod_of_nonneg _ (by omega)]
    obtain ⟨s1, hs, hat⟩ := StrsAt.get (ss := ss) (i := d2 % (ss.length : Int)) (Int.emod_nonneg _ (by omega)) (Int.emod_lt_of_pos _ (by omega))
    exact ⟨a, ss.map V.str, _, .str s1, rfl, rfl, SqL.of hS, (by rw [e]; exact hat), k (.inr s1) hs⟩
  · refine ⟨_, rfl, _, rfl, c, j, rfl, hj0, by omega, fun v hv => k (.inl v) hv⟩
/-! ### _law_word -/
def wordsL : List Str := ["plus", "minus", "times", "over", "rest", "under", "same", "plus", "minus"]
theorem words_doers : ∀ s ∈ wordsL, s ∈ doers := by decide +kernel
def spWord : Sp := fun vs H Q _ => ∃ (c j : Int), vs = [.int c, .int j] ∧ 0 ≤ j ∧ j ≤ 800 ∧ ∀ (s : Str) (H' : Hp), s ∈ doers → Same H H' → Q (.str s) H'
theorem scWord : FnScope ["cell", "j", "words"] ["cell", "j"] (defScope sWord) := ⟨rfl, rfl, rfl, by decide +kernel, rfl, by decide +kernel, by decide +kernel⟩
theorem ok_word {f fD : Addr} {fd fdD : FuncData} (D : DefAt K mg "_law_word" sWord ["cell", "j"] f fd) (DD : DefAt K mg "_law_draw" sDraw ["cell", "j"] fD fdD) : FnOk P w K mg base CX0 2 f fd ["cell", "j"] spWord := by
  have GD : FnOk P w K mg base CX0 1 fD fdD ["cell", "j"] spDraw := ok_draw DD
  refine D.F.ok scWord (fun vs H Q E h => ?_) (fun cdv A outer s H vs Q E hr h => ?_)
  · obtain ⟨c, j, rfl, _⟩ := h
    rfl
  obtain ⟨c, j, rfl, hj0, hj1, k⟩ := h
  refine ⟨_, pss_cons (ps_set (i := 2) scWord.nd rfl (.inl rfl) (pe_lst (pa_cons pe_str (pa_cons pe_str (pa_cons pe_str (pa_cons pe_str (pa_cons pe_str (pa_cons pe_str (pa_cons pe_str (pa_cons pe_str (pa_cons pe_str pa_nil)))))))))))
    (pss_one (ps_ret (pe_ix ix_list (pv 2) (pe_op op_mod (pe_call GD hr rfl DD.m DD.F.kp DD.b .nil pass0 (pa_cons (pv 0) (pa_cons (pv 1) pa_nil))) pe_int) (fun _ _ => rfl)))), ?_⟩
  refine ⟨(by show 9 ≤ sizeLine; decide), fun p hp => ?_⟩
  refine ⟨_, rfl, _, rfl, _, rfl, c, j, rfl, hj0, by omega, fun d h0 h1 => ?_⟩
  refine ⟨_, _, rfl, rfl, (by show (0 : Int) < 9; decide), ?_⟩
  obtain ⟨s1, hs, hat⟩ := StrsAt.get (ss := wordsL) (i := d % 9) (by omega) (by show d % 9 < 9; omega)
  exact ⟨p, wordsL.map V.str, _, _, rfl, rfl, SqL.of upd_same, hat, k s1 _ (words_doers s1 hs) (sameN hp)⟩
end
end FR

/-! FRG: the law's terms, spots, rows. -/
namespace FR
open PySem L2
section
variable {P : Program} {w : World} {K : PySem.W.Frag} {mg : Str → Option Value} {base : Heap}
/-! ### _law_term -/
def TermAt (H : Hp) (a : Addr) (t : Term) : Prop := H a = some (.tup (t.map kV))
def spTermB (m : Int) : Sp := fun vs H Q _ => ∃ (c j : Int) (a : Addr) (ss : List Str), vs = [.int c, .int j, .ref a] ∧ 0 ≤ j ∧ j ≤ m ∧ StrsAt H a ss ∧ NamesOk ss ∧ ∀ (q : Addr) (t : Term) (H' : Hp), wfE t → TermAt H' q t → Same H H' → Q (.ref q) H'
abbrev spTerm : Sp := spTermB 700
abbrev spSpot : Sp := spTermB 650
theorem scTerm : FnScope ["cell", "j", "slots", "kind", "one", "two", "three", "long", "k", "word"] ["cell", "j", "slots"] (defScope sTerm) := ⟨rfl, rfl, rfl, by decide +kernel, rfl, by decide +kernel, by decide +kernel⟩
def wordsS : List Str := ["plus", "minus", "under"]
theorem wordsS_doers : ∀ s ∈ wordsS, s ∈ doers := by decide +kernel
theorem ok_term {f fD fN fP fW : Addr} {fd fdD fdN fdP fdW : FuncData} (D : DefAt K mg "_law_term" sTerm ["cell", "j", "slots"] f fd) (DD : DefAt K mg "_law_draw" sDraw ["cell", "j"] fD fdD) (DN : DefAt K mg "_law_number" sNumber ["cell", "j"] fN fdN)
    (DP : DefAt K mg "_law_part" sPart ["cell", "j", "slots"] fP fdP) (DW : DefAt K mg "_law_word" sWord ["cell", "j"] fW fdW) (B : Blt mg) :
    FnOk P w K mg base CX0 4 f fd ["cell", "j", "slots"] spTerm := by
  have GD : FnOk P w K mg base CX0 1 fD fdD ["cell", "j"] spDraw := ok_draw DD
  have GP : FnOk P w K mg base CX0 3 fP fdP ["cell", "j", "slots"] spPart := ok_part DP DD DN B
  have GW : FnOk P w K mg base CX0 2 fW fdW ["cell", "j"] spWord := ok_word DW DD
  refine D.F.ok scTerm (fun vs H Q E h => ?_) (fun cdv A outer s H vs Q E hr h => ?_)
  · obtain ⟨c, j, a, ss, rfl, _⟩ := h
    rfl
  obtain ⟨c, j, a, ss, rfl, hj0, hj1, hS, hN, k⟩ := h
  have hr1 : Room 1 _ := hr.mono (by decide)
  have hr2 : Room 2 _ := hr.mono (by decide)
  have nd := scTerm.nd
  refine ⟨_, pss_cons (ps_set (i := 3) nd rfl (.inl rfl) (pe_op op_mod (pe_call GD hr1 rfl DD.m DD.F.kp DD.b .nil pass0 (pa_cons (pv 0) (pa_cons (pv 1) pa_nil))) pe_int))
    (pss_cons (ps_set (i := 4) nd rfl (.inl rfl) (pe_call GP hr rfl DP.m DP.F.kp DP.b .nil pass0 (pa_cons (pv 0) (pa_cons (pe_op op_add (pv 1) pe_int) (pa_cons (pv 2) pa_nil)))))
    (pss_cons (ps_set (i := 5) nd rfl (.inl rfl) (pe_call GP hr rfl DP.m DP.F.kp DP.b .nil pass0 (pa_cons (pv 0) (pa_cons (pe_op op_add (pv 1) pe_int) (pa_cons (pv 2) pa_nil)))))
    (pss_cons (ps_set (i := 6) nd rfl (.inl rfl) (pe_call GP hr rfl DP.m DP.F.kp DP.b .nil pass0 (pa_cons (pv 0) (pa_cons (pe_op op_add (pv 1) pe_int) (pa_cons (pv 2) pa_nil)))))
    (pss_cons (ps_if (pt_cmpR op_lt (pv 3) pe_int (nomark _)) (pss_one (ps_ret (pe_tup (pa_cons (pv 4) pa_nil)))) pss_nil)
    (pss_cons (ps_if (pt_cmpR op_lt (pv 3) pe_int (nomark _)) (pss_one (ps_ret (pe_tup (pa_cons (pv 4) (pa_cons (pv 5) (pa_cons (pe_call GW hr2 rfl DW.m DW.F.kp DW.b .nil pass0 (pa_cons (pv 0) (pa_cons (pe_op op_add (pv 1) pe_int) pa_nil))) pa_nil)))))) pss_nil)
    (pss_cons (ps_if (pt_cmpR op_lt (pv 3) pe_int (nomark _)) (pss_one (ps_ret (pe_tup (pa_cons (pv 4) (pa_cons (pv 5) (pa_cons (pe_call GW hr2 rfl DW.m DW.F.kp DW.b .nil pass0 (pa_cons (pv 0) (pa_cons (pe_op op_add (pv 1) pe_int) pa_nil))) (pa_cons (pv 6) (pa_cons (pe_call GW hr2 rfl DW.m DW.F.kp DW.b .nil pass0 (pa_cons (pv 0) (pa_cons (pe_op op_add (pv 1) pe_int) pa_nil))) pa_nil)))))))) pss_nil)
    (pss_cons (ps_if (pt_cmpR op_lt (pv 3) pe_int (nomark _)) (pss_one (ps_ret (pe_tup (pa_cons (pv 4) (pa_cons (pv 5) (pa_cons (pv 6) (pa_cons (pe_call GW hr2 rfl DW.m DW.F.kp DW.b .nil pass0 (pa_cons (pv 0) (pa_cons (pe_op op_add (pv 1) pe_int) pa_nil))) (pa_cons (pe_call GW hr2 rfl DW.m DW.F.kp DW.b .nil pass0 (pa_cons (pv 0) (pa_cons (pe_op op_add (pv 1) pe_int) pa_nil))) pa_nil)))))))) pss_nil)
    (pss_cons (ps_set (i := 7) nd rfl (.inl rfl) (pe_tup (pa_cons (pv 4) pa_nil)))
    (pss_cons (ps_for PassesOwn.never rfl (pi_range1 (by rfl) B.range (pa_cons (pe_op op_mod (pe_call GD hr1 rfl DD.m DD.F.kp DD.b .nil pass0 (pa_cons (pv 0) (pa_cons (pe_op op_add (pv 1) pe_int) pa_nil))) pe_int) pa_nil)) (pg_name (i := 8) nd rfl (.inl rfl))
      (pss_cons (ps_set (i := 9) nd rfl (.inl rfl) (pe_ix ix_list (pe_lst (pa_cons pe_str (pa_cons pe_str (pa_cons pe_str pa_nil)))) (pe_op op_mod (pe_call GD hr1 rfl DD.m DD.F.kp DD.b .nil pass0 (pa_cons (pv 0) (pa_cons (pe_op op_add (pe_op op_add (pv 1) pe_int) (pv 8)) pa_nil))) pe_int) (fun _ _ => rfl)))
      (pss_one (ps_set (i := 7) nd rfl (.inl rfl) (pe_op op_catT (pv 7) (pe_tup (pa_cons (pe_call GP hr rfl DP.m DP.F.kp DP.b .nil pass0 (pa_cons (pv 0) (pa_cons (pe_op op_add (pv 1) (pv 8)) (pa_cons (pv 2) pa_nil)))) (pa_cons (pv 9) pa_nil))))))))
    (pss_one (ps_ret (pv 7)))))))))))), ?_⟩
  -- kind, one, two, three
  refine ⟨_, rfl, _, rfl, c, j, rfl, hj0, by omega, fun d hd0 hd1 => ?_⟩
  refine ⟨_, _, rfl, rfl, (by show (0 : Int) < 16; decide), ?_⟩
  refine ⟨_, rfl, _, rfl, _, _, rfl, rfl, _, rfl, c, j + 1, a, ss, rfl, by omega, by omega, hS, hN, fun k1 h1 => ?_⟩
  refine ⟨_, rfl, _, rfl, _, _, rfl, rfl, _, rfl, c, j + 10, a, ss, rfl, by omega, by omega, hS, hN, fun k2 h2 => ?_⟩
  refine ⟨_, rfl, _, rfl, _, _, rfl, rfl, _, rfl, c, j + 20, a, ss, rfl, by omega, by omega, hS, hN, fun k3 h3 => ?_⟩
  have w1 : wfT [] 1 := rfl
  refine ⟨_, rfl, _, _, rfl, rfl, _, rfl, iteD (fun _ => ?_) (fun _ => ?_)⟩
  · refine ⟨_, rfl, (by show 1 ≤ sizeLine; decide), fun p hp => ?_⟩
    exact k p [k1] _ ⟨wf_part hN h1 w1, by simp⟩ upd_same (sameN hp)
  refine ⟨_, rfl, _, _, rfl, rfl, _, rfl, iteD (fun _ => ?_) (fun _ => ?_)⟩
  · refine ⟨_, rfl, _, rfl, _, rfl, _, rfl, _, _, rfl, rfl, c, j + 2, rfl, by omega, by omega, fun s1 H1 hs1 g1 => ?_⟩
    refine ⟨(by show 3 ≤ sizeLine; decide), fun p hp => ?_⟩
    exact k p [k1, k2, .inr s1] _ ⟨wf_part hN h1 (wf_part hN h2 (wf_word hs1 w1)), by simp⟩ upd_same (g1.trans (sameN hp))
  refine ⟨_, rfl, _, _, rfl, rfl, _, rfl, iteD (fun _ => ?_) (fun _ => ?_)⟩
  · refine ⟨_, rfl, _, rfl, _, rfl, _, rfl, _, _, rfl, rfl, c, j + 2, rfl, by omega, by omega, fun s1 H1 hs1 g1 => ?_⟩
    refine ⟨_, rfl, _, rfl, _, rfl, _, _, rfl, rfl, c, j + 3, rfl, by omega, by omega, fun s2 H2 hs2 g2 => ?_⟩
    refine ⟨(by show 5 ≤ sizeLine; decide), fun p hp => ?_⟩
    exact k p [k1, k2, .inr s1, k3, .inr s2] _ ⟨wf_part hN h1 (wf_part hN h2 (wf_word hs1 (wf_part hN h3 (wf_word hs2 w1)))), by simp⟩ upd_same (g1.trans (g2.trans (sameN hp)))
  refine ⟨_, rfl, _, _, rfl, rfl, _, rfl, iteD (fun _ => ?_) (fun _ => ?_)⟩
  · refine ⟨_, rfl, _, rfl, _, rfl, _, rfl, _, rfl, _, _, rfl, rfl, c, j + 2, rfl, by omega, by omega, fun s1 H1 hs1 g1 => ?_⟩
    refine ⟨_, rfl, _, rfl, _, _, rfl, rfl, c, j + 3, rfl, by omega, by omega, fun s2 H2 hs2 g2 => ?_⟩
    refine ⟨(by show 5 ≤ sizeLine; decide), fun p hp => ?_⟩
    exact k p [k1, k2, k3, .inr s1, .inr s2] _ ⟨wf_part hN h1 (wf_part hN h2 (wf_part hN h3 (wf_word hs1 (wf_word hs2 w1)))), by simp⟩ upd_same (g1.trans (g2.trans (sameN hp)))
  -- long = (one,)
  refine ⟨_, rfl, (by show 1 ≤ sizeLine; decide), fun p hp => ?_⟩
  refine ⟨_, rfl, _, rfl, _, _, rfl, rfl, c, j + 4, rfl, by omega, by omega, fun e he0 he1 => ?_⟩
  refine ⟨_, _, rfl, rfl, (by show (0 : Int) < 13; decide), e % 13, rfl, by omega, by omega, ?_⟩
  refine for_range (lo := 0) (n := (e % 13).toNat) (fun i σ H2 => ∃ (q : Addr) (t : Term) (v8 v9 : Option V), σ = [some (.int c), some (.int j), some (.ref a), some (.int (d % 16)), some (kV k1), some (kV k2), some (kV k3), some (.ref q), v8, v9] ∧ wfT t 0 ∧ t.length ≤ 1 + 2 * i ∧ t ≠ [] ∧ TermAt H2 q t ∧ Same H H2)
    ⟨p, [k1], none, none, rfl, wf_part hN h1 w1, by simp, by simp, upd_same, sameN hp⟩ ?_ ?_
  · rintro i σ H2 hi ⟨q, t, v8, v9, rfl, ht, hl, hne, hq, g2⟩
    have hi13 : i < 13 := by omega
    refine ⟨(by show 3 ≤ sizeLine; decide), fun p2 hp2 => ?_⟩
    refine ⟨_, rfl, _, rfl, _, _, rfl, rfl, _, rfl, _, _, rfl, rfl, c, j + 30 + (0 + (i : Int)), rfl, by omega, by omega, fun e2 h0 h1' => ?_⟩
    refine ⟨_, _, rfl, rfl, (by show (0 : Int) < 3; decide), ?_⟩
    obtain ⟨s1, hs, hat⟩ := StrsAt.get (ss := wordsS) (i := e2 % 3) (by omega) (by show e2 % 3 < 3; omega)
    refine ⟨p2, wordsS.map V.str, _, _, rfl, rfl, SqL.of upd_same, hat, ?_⟩
    have g3 : Same H (upd H2 p2 (.lst (wordsS.map V.str))) := g2.trans (sameN hp2)
    refine ⟨_, rfl, _, rfl, _, rfl, _, rfl, _, _, rfl, rfl, _, rfl, c, j + (0 + (i : Int)), a, ss, rfl, by omega, by omega, hS.same g3, hN, fun k4 h4 => ?_⟩
    refine ⟨_, rfl, (by show 2 ≤ sizeLine; decide), fun p3 hp3 => ?_⟩
    have hq2 : TermAt (upd H2 p2 (.lst (wordsS.map V.str))) q t := sameN hp2 _ _ hq
    refine ⟨q, p3, t.map kV, _, rfl, rfl, SqT.of (sameN hp3 _ _ hq2), SqT.of upd_same, by simp [hne], by rw [List.length_map]; show t.length + 2 ≤ sizeLine; rw [sizeLine_eq]; omega, (fun z => nomatch z), fun _ p4 hp4 => ?_⟩
    refine ⟨p4, t ++ [k4, .inr s1], _, _, rfl, wf_append ht (wf_part hN h4 (wf_word (wordsS_doers s1 hs) w1)), by simp; omega, by simp, ?_, g3.trans ((sameN hp3).trans (sameN hp4))⟩
    show upd _ p4 _ p4 = _
    rw [upd_same, List.map_append]
    rfl
  · rintro σ H2 ⟨q, t, v8, v9, rfl, ht, hl, hne, hq, g2⟩
    exact ⟨_, rfl, k q t H2 ⟨ht, by omega⟩ hq g2⟩
end
end FR

/-! FRH: the law's spots and rows. -/
namespace FR
open PySem L2
section
variable {P : Program} {w : World} {K : PySem.W.Frag} {mg : Str → Option Value} {base : Heap}
/-! ### _law_spot -/
theorem scSpot : FnScope ["cell", "j", "slots"] ["cell", "j", "slots"] (defScope sSpot) := ⟨rfl, rfl, rfl, by decide +kernel, rfl, by decide +kernel, by decide +kernel⟩
theorem small_in {v : Int} (h : -100 ≤ v) (h' : v ≤ 100) : inR v := by
  have hB : (100 : Int) < BIG := by decide
  unfold inR
  omega
theorem ok_spot {f fD fT : Addr} {fd fdD fdT : FuncData} (D : DefAt K mg "_law_spot" sSpot ["cell", "j", "slots"] f fd) (DD : DefAt K mg "_law_draw" sDraw ["cell", "j"] fD fdD) (GD : FnOk P w K mg base CX0 1 fD fdD ["cell", "j"] spDraw)
    (DT : DefAt K mg "_law_term" sTerm ["cell", "j", "slots"] fT fdT) (GT : FnOk P w K mg base CX0 4 fT fdT ["cell", "j", "slots"] spTerm) :
    FnOk P w K mg base CX0 5 f fd ["cell", "j", "slots"] spSpot := by
  refine D.F.ok scSpot (fun vs H Q E h => ?_) (fun cdv A outer s H vs Q E hr h => ?_)
  · obtain ⟨c, j, a, ss, rfl, _⟩ := h
    rfl
  obtain ⟨c, j, a, ss, rfl, hj0, hj1, hS, hN, k⟩ := h
  have hr1 : Room 1 _ := hr.mono (by decide)
  refine ⟨_, pss_cons (ps_if (pt_cmpR op_eq (pe_op op_mod (pe_call GD hr1 rfl DD.m DD.F.kp DD.b .nil pass0 (pa_cons (pv 0) (pa_cons (pv 1) pa_nil))) pe_int) pe_int (nomark _))
      (pss_one (ps_ret (pe_call GT hr rfl DT.m DT.F.kp DT.b .nil pass0 (pa_cons (pv 0) (pa_cons (pe_op op_add (pv 1) pe_int) (pa_cons (pv 2) pa_nil)))))) pss_nil)
    (pss_one (ps_ret (pe_tup (pa_cons (pe_op op_sub (pe_op op_mod (pe_call GD hr1 rfl DD.m DD.F.kp DD.b .nil pass0 (pa_cons (pv 0) (pa_cons (pe_op op_add (pv 1) pe_int) pa_nil))) pe_int) pe_int) pa_nil)))), ?_⟩
  refine ⟨_, rfl, _, rfl, c, j, rfl, hj0, by omega, fun d hd0 hd1 => ?_⟩
  refine ⟨_, _, rfl, rfl, (by show (0 : Int) < 4; decide), rfl, _, rfl, iteD (fun _ => ?_) (fun _ => ?_)⟩
  · exact ⟨_, rfl, _, rfl, _, _, rfl, rfl, _, rfl, c, j + 1, a, ss, rfl, by omega, by omega, hS, hN, k⟩
  · refine ⟨_, rfl, _, rfl, _, _, rfl, rfl, c, j + 2, rfl, by omega, by omega, fun e h0 h1 => ?_⟩
    refine ⟨_, _, rfl, rfl, (by show (0 : Int) < 4; decide), _, _, rfl, rfl, (by show 1 ≤ sizeLine; decide), fun p hp => ?_⟩
    exact k p [.inl (e % 4 - 1)] _ ⟨⟨small_in (by omega) (by omega), rfl⟩, by simp⟩ upd_same (sameN hp)
/-! ### _law_row -/
/-- a row that opens no block -/
def flatR : DRow → Prop
  | .iff _ _ _ => False
  | _ => True
def spRow : Sp := fun vs H Q _ => ∃ (c : Int) (a b : Addr) (ss hs : List Str), vs = [.int c, .ref a, .ref b] ∧ StrsAt H a ss ∧ NamesOk ss ∧ ss.length = 4 ∧ StrsAt H b hs ∧ hs.length = 3 ∧ ∀ (q : V) (r : DRow) (H' : Hp), wfR r 0 → flatR r → At H' q (dRow r) → Same H H' → Q q H'
theorem scRow : FnScope ["cell", "slots", "shelves", "kind", "shelf", "slot"] ["cell", "slots", "shelves"] (defScope sRow) := ⟨rfl, rfl, rfl, by decide +kernel, rfl, by decide +kernel, by decide +kernel⟩
theorem same_doer : ("same" : Str) ∈ doers := by decide +kernel
theorem ok_row {f fD fN fT fS : Addr} {fd fdD fdN fdT fdS : FuncData} (D : DefAt K mg "_law_row" sRow ["cell", "slots", "shelves"] f fd) (DD : DefAt K mg "_law_draw" sDraw ["cell", "j"] fD fdD) (GD : FnOk P w K mg base CX0 1 fD fdD ["cell", "j"] spDraw)
    (DN : DefAt K mg "_law_number" sNumber ["cell", "j"] fN fdN) (GN : FnOk P w K mg base CX0 2 fN fdN ["cell", "j"] spNumber)
    (DT : DefAt K mg "_law_term" sTerm ["cell", "j", "slots"] fT fdT) (GT : FnOk P w K mg base CX0 4 fT fdT ["cell", "j", "slots"] spTerm)
    (DS : DefAt K mg "_law_spot" sSpot ["cell", "j", "slots"] fS fdS) (GS : FnOk P w K mg base CX0 5 fS fdS ["cell", "j", "slots"] spSpot) :
    FnOk P w K mg base CX0 6 f fd ["cell", "slots", "shelves"] spRow := by
  refine D.F.ok scRow (fun vs H Q E h => ?_) (fun cdv A outer s H vs Q E hr h => ?_)
  · obtain ⟨c, a, b, ss, hs, rfl, _⟩ := h
    rfl
  obtain ⟨c, a, b, ss, hs, rfl, hS, hN, l4, hB, l3, k⟩ := h
  have hr1 : Room 1 _ := hr.mono (by decide)
  have hr2 : Room 2 _ := hr.mono (by decide)
  have hr4 : Room 4 _ := hr.mono (by decide)
  have nd := scRow.nd
  refine ⟨_, pss_cons (ps_set (i := 3) nd rfl (.inl rfl) (pe_op op_mod (pe_call GD hr1 rfl DD.m DD.F.kp DD.b .nil pass0 (pa_cons (pv 0) (pa_cons pe_int pa_nil))) pe_int))
    (pss_cons (ps_set (i := 4) nd rfl (.inl rfl) (pe_ix ix_list (pv 2) (pe_op op_mod (pe_call GD hr1 rfl DD.m DD.F.kp DD.b .nil pass0 (pa_cons (pv 0) (pa_cons pe_int pa_nil))) pe_int) (fun _ _ => rfl)))
    (pss_cons (ps_set (i := 5) nd rfl (.inl rfl) (pe_ix ix_list (pv 1) (pe_op op_mod (pe_call GD hr1 rfl DD.m DD.F.kp DD.b .nil pass0 (pa_cons (pv 0) (pa_cons pe_int pa_nil))) pe_int) (fun _ _ => rfl)))
    (pss_cons (ps_if (pt_cmpR op_lt (pv 3) pe_int (nomark _)) (pss_one (ps_ret (pe_tup (pa_cons pe_str (pa_cons (pv 4) (pa_cons (pe_call GS hr rfl DS.m DS.F.kp DS.b .nil pass0 (pa_cons (pv 0) (pa_cons pe_int (pa_cons (pv 1) pa_nil)))) (pa_cons (pv 5) pa_nil))))))) pss_nil)
    (pss_cons (ps_if (pt_cmpR op_lt (pv 3) pe_int (nomark _)) (pss_one (ps_ret (pe_tup (pa_cons pe_str (pa_cons (pv 4) (pa_cons (pe_call GS hr rfl DS.m DS.F.kp DS.b .nil pass0 (pa_cons (pv 0) (pa_cons pe_int (pa_cons (pv 1) pa_nil)))) (pa_cons (pe_call GT hr4 rfl DT.m DT.F.kp DT.b .nil pass0 (pa_cons (pv 0) (pa_cons pe_int (pa_cons (pv 1) pa_nil)))) pa_nil))))))) pss_nil)
    (pss_cons (ps_if (pt_cmpR op_lt (pv 3) pe_int (nomark _)) (pss_one (ps_ret (pe_tup (pa_cons pe_str (pa_cons (pv 5) (pa_cons (pe_call GT hr4 rfl DT.m DT.F.kp DT.b .nil pass0 (pa_cons (pv 0) (pa_cons pe_int (pa_cons (pv 1) pa_nil)))) pa_nil)))))) pss_nil)
    (pss_cons (ps_if (pt_cmpR op_eq (pv 3) pe_int (nomark _)) (pss_one (ps_ret (pe_tup (pa_cons pe_str (pa_cons (pe_tup (pa_cons (pe_ix ix_list (pv 1) (pe_op op_mod (pe_call GD hr1 rfl DD.m DD.F.kp DD.b .nil pass0 (pa_cons (pv 0) (pa_cons pe_int pa_nil))) pe_int) (fun _ _ => rfl))
        (pa_cons (pe_call GN hr2 rfl DN.m DN.F.kp DN.b .nil pass0 (pa_cons (pv 0) (pa_cons pe_int pa_nil))) (pa_cons pe_str pa_nil)))) pa_nil))))) pss_nil)
    (pss_one (ps_ret (pe_tup (pa_cons pe_str (pa_cons (pe_call GT hr4 rfl DT.m DT.F.kp DT.b .nil pass0 (pa_cons (pv 0) (pa_cons pe_int (pa_cons (pv 1) pa_nil)))) pa_nil))))))))))), ?_⟩
  refine ⟨_, rfl, c, 0, rfl, by decide, by decide, fun d hd0 hd1 => ?_⟩
  refine ⟨_, _, rfl, rfl, (by show (0 : Int) < 16; decide), ?_⟩
  refine ⟨_, rfl, _, rfl, c, 160, rfl, by decide, by decide, fun d2 h0 h1 => ?_⟩
  refine ⟨_, _, rfl, rfl, (by show (0 : Int) < 3; decide), ?_⟩
  obtain ⟨sh, _, hat⟩ := StrsAt.get (ss := hs) (i := d2 % 3) (by omega) (by omega)
  refine ⟨b, _, _, _, rfl, rfl, SqL.of hB, hat, ?_⟩
  refine ⟨_, rfl, _, rfl, c, 161, rfl, by decide, by decide, fun d3 h0' h1' => ?_⟩
  refine ⟨_, _, rfl, rfl, (by show (0 : Int) < 4; decide), ?_⟩
  obtain ⟨sl, _, hat2⟩ := StrsAt.get (ss := ss) (i := d3 % 4) (by omega) (by omega)
  refine ⟨a, _, _, _, rfl, rfl, SqL.of hS, hat2, ?_⟩
  refine ⟨_, rfl, _, _, rfl, rfl, _, rfl, iteD (fun _ => ?_) (fun _ => ?_)⟩
  · refine ⟨_, rfl, _, rfl, _, rfl, c, 20, a, ss, rfl, by decide, by decide, hS, hN, fun q t H1 ht hq g1 => ?_⟩
    refine ⟨_, rfl, (by show 4 ≤ sizeLine; decide), fun p hp => ?_⟩
    exact k _ (.take sh t sl) _ ht trivial (.tup upd_same (.cons (.str _) (.cons (.str _) (.cons (at_term (sameN hp _ _ hq)) (.cons (.str _) .nil))))) (g1.trans (sameN hp))
  refine ⟨_, rfl, _, _, rfl, rfl, _, rfl, iteD (fun _ => ?_) (fun _ => ?_)⟩
  · refine ⟨_, rfl, _, rfl, _, rfl, c, 20, a, ss, rfl, by decide, by decide, hS, hN, fun q t H1 ht hq g1 => ?_⟩
    refine ⟨_, rfl, _, rfl, c, 80, a, ss, rfl, by decide, by decide, hS.same g1, hN, fun q2 t2 H2 ht2 hq2 g2 => ?_⟩
    refine ⟨(by show 4 ≤ sizeLine; decide), fun p hp => ?_⟩
    exact k _ (.give sh t t2) _ ⟨ht, ht2⟩ trivial (.tup upd_same (.cons (.str _) (.cons (.str _) (.cons (at_term (sameN hp _ _ (g2 _ _ hq))) (.cons (at_term (sameN hp _ _ hq2)) .nil))))) (g1.trans (g2.trans (sameN hp)))
  refine ⟨_, rfl, _, _, rfl, rfl, _, rfl, iteD (fun _ => ?_) (fun _ => ?_)⟩
  · refine ⟨_, rfl, _, rfl, _, rfl, c, 80, a, ss, rfl, by decide, by decide, hS, hN, fun q t H1 ht hq g1 => ?_⟩
    refine ⟨(by show 3 ≤ sizeLine; decide), fun p hp => ?_⟩
    exact k _ (.letr sl t) _ ht trivial (.tup upd_same (.cons (.str _) (.cons (.str _) (.cons (at_term (sameN hp _ _ hq)) .nil)))) (g1.trans (sameN hp))
  refine ⟨_, rfl, rfl, _, rfl, iteD (fun _ => ?_) (fun _ => ?_)⟩
  · refine ⟨_, rfl, _, rfl, c, 162, rfl, by decide, by decide, fun d4 h0'' h1'' => ?_⟩
    refine ⟨_, _, rfl, rfl, (by show (0 : Int) < 4; decide), ?_⟩
    obtain ⟨s4, hs4, hat4⟩ := StrsAt.get (ss := ss) (i := d4 % 4) (by omega) (by omega)
    refine ⟨a, _, _, _, rfl, rfl, SqL.of hS, hat4, ?_⟩
    refine ⟨_, rfl, c, 81, rfl, by decide, by decide, fun v hv => ?_⟩
    refine ⟨(by show 3 ≤ sizeLine; decide), fun p hp => ?_⟩
    refine ⟨(by show 2 ≤ sizeLine; decide), fun p2 hp2 => ?_⟩
    have hw : wfT [Sum.inr s4, Sum.inl v, Sum.inr "same"] 0 := .inr ⟨hN.2.2 s4 hs4, hv, wf_word same_doer rfl⟩
    have hq : (upd H p (.tup (([Sum.inr s4, Sum.inl v, Sum.inr "same"] : Term).map kV))) p = some (.tup (([Sum.inr s4, Sum.inl v, Sum.inr "same"] : Term).map kV)) := upd_same
    exact k _ (.off [.inr s4, .inl v, .inr "same"]) _ ⟨hw, by simp⟩ trivial (.tup upd_same (.cons (.str _) (.cons (at_term (sameN hp2 _ _ hq)) .nil))) ((sameN hp).trans (sameN hp2))
  · refine ⟨_, rfl, _, rfl, c, 80, a, ss, rfl, by decide, by decide, hS, hN, fun q t H1 ht hq g1 => ?_⟩
    refine ⟨(by show 2 ≤ sizeLine; decide), fun p hp => ?_⟩
    exact k _ (.say t) _ ht trivial (.tup upd_same (.cons (.str _) (.cons (at_term (sameN hp _ _ hq)) .nil))) (g1.trans (sameN hp))
end
end FR

/-! FRI: the law's names. -/
namespace FR
open PySem L2
def cl (s : Str) : List Nat := s.cps.toList
def consS : Str := "zyxwvtsrqpnmlkjhgfdcb"
def allS : Str := "zyxwvutsrqponmlkjihgfedcba"
def Cons (s : Str) : Prop := ∀ c ∈ cl s, c ∈ cl consS
theorem cl_app (a b : Str) : cl (a ++ b) = cl a ++ cl b := by
  show (a.cps ++ b.cps).toList = a.cps.toList ++ b.cps.toList
  simp
theorem cl_len (a : Str) : (cl a).length = a.length := by
  show a.cps.toList.length = a.cps.size
  simp
theorem len_app (a b : Str) : (a ++ b).length = a.length + b.length := by
  rw [← cl_len, cl_app, List.length_append, cl_len, cl_len]
theorem doers_vowel : ∀ d ∈ doers, ¬ Cons d := by
  unfold Cons
  decide +kernel
theorem doers_short : ∀ d ∈ doers, d.length ≠ 6 := by decide +kernel
theorem cons_no {s : Str} (h : Cons s) : s ∉ doers := fun m => doers_vowel s m h
theorem six_no {s : Str} (h : s.length = 6) : s ∉ doers := fun m => doers_short s m h
theorem cut_sub {z : Str} {lo hi : Option Int} : ∀ c ∈ cl (cutS z lo hi), c ∈ cl z := by
  intro c hc
  unfold cutS cl at hc
  rw [List.toList_toArray] at hc
  exact List.mem_of_mem_drop (List.mem_of_mem_take hc)
theorem cut_to (z : Str) (n : Nat) : (cutS z none (some (n : Int))).length = min n z.length := by
  rw [← cl_len]
  unfold cutS cl
  rw [List.toList_toArray, HT.sIx_none, HT.sIx_nat, List.length_take, List.drop_zero, Array.length_toList]
  show min (min n z.cps.size - 0) z.cps.size = min n z.cps.size
  omega
theorem cut_from (z : Str) (n : Nat) : (cutS z (some (n : Int)) none).length = z.length - n := by
  rw [← cl_len]
  unfold cutS cl
  rw [List.toList_toArray, HT.sIx_none, HT.sIx_nat, List.length_take, List.length_drop, Array.length_toList]
  show min (z.cps.size - min n z.cps.size) (z.cps.size - min n z.cps.size) = z.cps.size - n
  omega
theorem cons_sub {a b : Str} (h : Cons b) (hs : ∀ c ∈ cl a, c ∈ cl b) : Cons a := fun c hc => h c (hs c hc)
theorem cons_app {a b : Str} (ha : Cons a) (hb : Cons b) : Cons (a ++ b) := fun c hc => by
  rw [cl_app] at hc
  rcases List.mem_append.mp hc with z | z
  · exact ha c z
  · exact hb c z
theorem cons_one {c : Nat} (h : c ∈ cl consS) : Cons ⟨#[c]⟩ := fun x hx => by
  have : x = c := by simpa [cl] using hx
  rw [this]
  exact h
theorem one_len (c : Nat) : Str.length ⟨#[c]⟩ = 1 := rfl
theorem cl_one (c : Nat) : cl ⟨#[c]⟩ = [c] := rfl
theorem sign_at {z : Str} {i : Int} (h0 : 0 ≤ i) (h1 : i < (z.length : Int)) : ∃ c, c ∈ cl z ∧ atI z.cps.toList i = some c := by
  have hl : (cl z).length = z.length := cl_len z
  have hk : i.toNat < (cl z).length := by omega
  refine ⟨(cl z)[i.toNat], List.getElem_mem hk, ?_⟩
  have e : i = ((i.toNat : Nat) : Int) := by omega
  have q : atI (cl z) ((i.toNat : Nat) : Int) = some (cl z)[i.toNat] := atI_nat (List.getElem?_eq_getElem hk)
  rw [← e] at q
  exact q
def rot (sg : Str) (t : Int) : Str := cutS sg (some t) none ++ cutS sg none (some t)
theorem rot_ok {sg : Str} {t : Int} (t0 : 0 ≤ t) (t1 : t ≤ (sg.length : Int)) : (rot sg t).length = sg.length ∧ ∀ x ∈ cl (rot sg t), x ∈ cl sg := by
  obtain ⟨n, rfl⟩ : ∃ n : Nat, t = (n : Int) := ⟨t.toNat, by omega⟩
  have lc1 := cut_from sg n
  have lc2 := cut_to sg n
  refine ⟨?_, fun x hx => ?_⟩
  · unfold rot
    rw [len_app]
    omega
  · unfold rot at hx
    rw [cl_app] at hx
    rcases List.mem_append.mp hx with q | q
    · exact cut_sub x q
    · exact cut_sub x q
theorem small_line {n : Nat} (h : n ≤ 1000) : n ≤ sizeLine := Nat.le_of_lt (small1000 h)
section
variable {P : Program} {w : World} {K : PySem.W.Frag} {mg : Str → Option Value} {base : Heap}
def spNames : Sp := fun vs H Q _ => ∃ (c many : Int), vs = [.int c, .int many] ∧ 1 ≤ many ∧ many ≤ 6 ∧ ∀ (a : Addr) (ss : List Str) (H' : Hp), StrsAt H' a ss → NamesOk ss → (ss.length : Int) = many → Same H H' → Q (.ref a) H'
abbrev namesN : List Str := ["cell", "many", "size", "signs", "shorter", "stem", "k", "at", "turn"]
theorem scNames : FnScope namesN ["cell", "many"] (defScope sNames) := ⟨rfl, rfl, rfl, by decide +kernel, rfl, by decide +kernel, by decide +kernel⟩
/-- what is known of size, signs, shorter -/
def GoodN (z : Int) (sg : Str) (b : Bool) : Prop := 1 ≤ z ∧ z ≤ 6 ∧ 10 ≤ sg.length ∧ sg.length ≤ 100 ∧ (b = true → z = 6 ∧ Cons sg) ∧ (z = 6 ∨ Cons sg)
theorem len_consS : consS.length = 21 := by decide +kernel
theorem len_allS : allS.length = 26 := by decide +kernel
theorem cons_consS : Cons consS := fun _ h => h
theorem ok_names {f fD : Addr} {fd fdD : FuncData} (D : DefAt K mg "_law_names" sNames ["cell", "many"] f fd) (DD : DefAt K mg "_law_draw" sDraw ["cell", "j"] fD fdD) (GD : FnOk P w K mg base CX0 1 fD fdD ["cell", "j"] spDraw) (B : Blt mg) :
    FnOk P w K mg base CX0 2 f fd ["cell", "many"] spNames := by
  refine D.F.ok scNames (fun vs H Q E h => ?_) (fun cdv A outer s H vs Q E hr h => ?_)
  · obtain ⟨c, many, rfl, _⟩ := h
    rfl
  obtain ⟨c, many, rfl, hm1, hm6, k⟩ := h
  have nd := scNames.nd
  refine ⟨_, pss_cons (ps_set (i := 2) nd rfl (.inl rfl) (pe_op op_add pe_int (pe_op op_mod (pe_call GD hr rfl DD.m DD.F.kp DD.b .nil pass0 (pa_cons (pv 0) (pa_cons pe_int pa_nil))) pe_int)))
    (pss_cons (ps_set (i := 3) nd rfl (.inr rfl) pe_str)
    (pss_cons (ps_set (i := 4) nd rfl (.inl rfl) (pe_cmpR op_eq (pe_op op_mod (pe_call GD hr rfl DD.m DD.F.kp DD.b .nil pass0 (pa_cons (pv 0) (pa_cons pe_int pa_nil))) pe_int) pe_int (nomark _)))
    (C8.pss_cut (ps_if (pt_val (pv 4)) (pss_one (ps_set (i := 2) nd rfl (.inl rfl) pe_int))
      (pss_one (ps_if (pt_cmpR op_eq (pv 2) pe_int (nomark _)) (pss_one (ps_set (i := 3) nd rfl (.inr rfl) pe_str)) pss_nil)))
    (pss_cons (ps_set (i := 5) nd rfl (.inr rfl) pe_str)
    (pss_cons (ps_for PassesOwn.never rfl (pi_range1 (by rfl) B.range (pa_cons (pv 2) pa_nil)) (pg_name (i := 6) nd rfl (.inl rfl))
      (pss_one (ps_set (i := 5) nd rfl (.inr rfl) (pe_op op_add_str (pv 5) (pe_ix ix_str (pv 3) (pe_op op_mod (pe_call GD hr rfl DD.m DD.F.kp DD.b .nil pass0 (pa_cons (pv 0) (pa_cons (pe_op op_add pe_int (pv 6)) pa_nil))) (pe_callB call_len_str (by rfl) B.len PySem.boot_len (pa_cons (pv 3) pa_nil))) (fun _ _ => rfl))))))
    (pss_cons (ps_if (pt_val (pv 4)) (pss_one (ps_ret (pe_lc (own := [("k", 6)]) (g := gName 6) (tt := tYes) rfl nd (pi_range1 (by rfl) B.range (pa_cons (pv 1) pa_nil)) (blkOk_by (N := namesN) (sc := defScope sNames) (by decide +kernel))
        (fun _ _ _ _ _ => pg_name (i := 6) nd rfl (Or.inl rfl)) (fun _ _ _ _ _ => pts_nil) (fun _ _ _ _ _ => pe_slice sl_str (pv 5) po_none (po_some (pe_op op_sub pe_int (pv 6))))))) pss_nil)
    (pss_cons (ps_set (i := 7) nd rfl (.inr rfl) (pe_op op_mod (pe_call GD hr rfl DD.m DD.F.kp DD.b .nil pass0 (pa_cons (pv 0) (pa_cons pe_int pa_nil))) (pv 2)))
    (pss_cons (ps_set (i := 8) nd rfl (.inl rfl) (pe_op op_mod (pe_call GD hr rfl DD.m DD.F.kp DD.b .nil pass0 (pa_cons (pv 0) (pa_cons pe_int pa_nil))) (pe_callB call_len_str (by rfl) B.len PySem.boot_len (pa_cons (pv 3) pa_nil))))
    (pss_cons (ps_set (i := 3) nd rfl (.inr rfl) (pe_op op_add_str (pe_slice sl_str (pv 3) (po_some (pv 8)) po_none) (pe_slice sl_str (pv 3) po_none (po_some (pv 8)))))
    (pss_one (ps_ret (pe_lc (own := [("k", 6)]) (g := gName 6) (tt := tYes) rfl nd (pi_range1 (by rfl) B.range (pa_cons (pv 1) pa_nil)) (blkOk_by (N := namesN) (sc := defScope sNames) (by decide +kernel))
        (fun _ _ _ _ _ => pg_name (i := 6) nd rfl (Or.inl rfl)) (fun _ _ _ _ _ => pts_nil)
        (fun _ _ _ _ _ => pe_op op_add_str (pe_op op_add_str (pe_slice sl_str (pv 5) po_none (po_some (pv 7))) (pe_ix ix_str (pv 3) (pv 6) (fun _ _ => rfl))) (pe_slice sl_str (pv 5) (po_some (pe_op op_add (pv 7) pe_int)) po_none)))))))))))))), ?_⟩
  -- size, signs, shorter
  refine ⟨_, rfl, c, 1, rfl, by decide, by decide, fun d hd0 hd1 => ?_⟩
  refine ⟨_, _, rfl, rfl, (by show (0 : Int) < 6; decide), _, _, rfl, rfl, ?_⟩
  refine ⟨_, rfl, c, 10, rfl, by decide, by decide, fun d2 h0 h1 => ?_⟩
  refine ⟨_, _, rfl, rfl, (by show (0 : Int) < 3; decide), rfl, ?_⟩
  generalize hb : decide (V.int (d2 % 3) = V.int 0) = b
  refine ⟨fun σ H2 => ∃ (z : Int) (sg : Str), GoodN z sg b ∧ H = H2 ∧ σ = [some (.int c), some (.int many), some (.int z), some (.str sg), some (.bl b), none, none, none, none], ?_, ?_⟩
  · refine ⟨_, rfl, _, rfl, ?_⟩
    cases b with
    | true =>
      refine iteT ?_
      exact ⟨6, consS, ⟨by decide, by decide, by rw [len_consS]; decide, by rw [len_consS]; decide, fun _ => ⟨rfl, cons_consS⟩, .inl rfl⟩, rfl, rfl⟩
    | false =>
      refine iteF ?_
      refine ⟨_, rfl, rfl, _, rfl, iteD (fun c6 => ?_) (fun c6 => ?_)⟩
      · have e6 : 1 + d % 6 = 6 := by
          have := V.int.inj c6
          exact this
        exact ⟨1 + d % 6, allS, ⟨by omega, by omega, by rw [len_allS]; decide, by rw [len_allS]; decide, (fun z => nomatch z), .inl e6⟩, rfl, rfl⟩
      · exact ⟨1 + d % 6, consS, ⟨by omega, by omega, by rw [len_consS]; decide, by rw [len_consS]; decide, (fun z => nomatch z), .inr cons_consS⟩, rfl, rfl⟩
  rintro σ H2 ⟨z, sg, ⟨z1, z6, l10, l100, gT, gO⟩, rfl, rfl⟩
  -- stem
  refine ⟨_, rfl, z, rfl, by omega, by omega, ?_⟩
  refine for_range (lo := 0) (n := z.toNat) (fun i σ H2 => ∃ (st : Str) (v6 : Option V), σ = [some (.int c), some (.int many), some (.int z), some (.str sg), some (.bl b), some (.str st), v6, none, none] ∧ st.length = i ∧ (∀ x ∈ cl st, x ∈ cl sg) ∧ H = H2)
    ⟨"", none, rfl, rfl, (fun _ h => nomatch h), rfl⟩ ?_ ?_
  · rintro i σ H2 hi ⟨st, v6, rfl, hl, hsub, rfl⟩
    refine ⟨_, rfl, _, rfl, _, rfl, _, rfl, _, _, rfl, rfl, c, 2 + (0 + (i : Int)), rfl, by omega, by omega, fun d3 h0' h1' => ?_⟩
    refine ⟨_, rfl, sg, rfl, small_line (by omega), _, _, rfl, rfl, (by show (0 : Int) < (sg.length : Int); omega), ?_⟩
    obtain ⟨x, hx, hat⟩ := sign_at (z := sg) (i := d3 % (sg.length : Int)) (Int.emod_nonneg _ (by omega)) (Int.emod_lt_of_pos _ (by omega))
    refine ⟨sg, _, x, rfl, rfl, small_line (by omega), hat, _, _, rfl, rfl, small_line (by rw [one_len]; omega), ?_⟩
    refine ⟨st ++ ⟨#[x]⟩, _, rfl, by rw [len_app, one_len, hl], fun y hy => ?_, rfl⟩
    rw [cl_app, cl_one] at hy
    rcases List.mem_append.mp hy with q | q
    · exact hsub y q
    · rw [List.mem_singleton.mp q]; exact hx
  · rintro σ H2 ⟨st, v6, rfl, hl, hsub, rfl⟩
    have hlz : st.length = z.toNat := hl
    refine ⟨_, rfl, b, rfl, ?_⟩
    cases b with
    | true =>
      refine iteT ?_
      obtain ⟨e6, hc⟩ := gT rfl
      have hcs : Cons st := cons_sub hc hsub
      refine ⟨_, rfl, many, rfl, by omega, by omega, fun Dd nD => ?_⟩
      refine lc_range (lo := 0) (n := many.toNat) (fun i H2 => Same H H2 ∧ ∃ ns : List Str, H2 Dd = some (.lst (ns.map V.str)) ∧ ns.length = i ∧ ∀ x ∈ ns, x ∉ doers) ⟨sameN nD, [], upd_same, rfl, fun _ h => nomatch h⟩ ?_ ?_
      · rintro i H2 hi ⟨g, ns, hD, hln, hno⟩
        refine ⟨rfl, ?_⟩
        refine ⟨_, rfl, _, rfl, _, _, rfl, rfl, _, rfl, st, rfl, small_line (by omega), ns.map V.str, hD, small1000 (by rw [List.length_map]; omega), ?_⟩
        refine ⟨fun bb oo eo => ?_, ns ++ [cutS st none (some (6 - (0 + (i : Int))))], ?_, by simp [hln], fun x hx => ?_⟩
        · by_cases hbD : bb = Dd
          · subst hbD; rw [nD] at eo; cases eo
          · rw [upd_ne hbD]; exact g bb oo eo
        · rw [upd_same, List.map_append]
          rfl
        · rcases List.mem_append.mp hx with q | q
          · exact hno x q
          · rw [List.mem_singleton.mp q]
            exact cons_no (cons_sub hcs cut_sub)
      · rintro H2 ⟨g, ns, hD, hln, hno⟩
        exact k Dd ns H2 hD ⟨fun e => (by rw [e] at hln; simp at hln; omega), by omega, hno⟩ (by omega) g
    | false =>
      refine iteF ?_
      refine ⟨_, rfl, c, 8, rfl, by decide, by decide, fun d4 h0' h1' => ?_⟩
      refine ⟨_, rfl, _, _, rfl, rfl, (by show (0 : Int) < z; omega), ?_⟩
      have a0 : 0 ≤ d4 % z := Int.emod_nonneg _ (by omega)
      have a1 : d4 % z < z := Int.emod_lt_of_pos _ (by omega)
      refine ⟨_, rfl, c, 9, rfl, by decide, by decide, fun d5 h0'' h1'' => ?_⟩
      refine ⟨_, rfl, sg, rfl, small_line (by omega), _, _, rfl, rfl, (by show (0 : Int) < (sg.length : Int); omega), ?_⟩
      have t0 : 0 ≤ d5 % (sg.length : Int) := Int.emod_nonneg _ (by omega)
      have t1 : d5 % (sg.length : Int) < (sg.length : Int) := Int.emod_lt_of_pos _ (by omega)
      refine ⟨_, rfl, _, rfl, _, rfl, sg, rfl, small_line (by omega), _, rfl, _, rfl, _, rfl, sg, rfl, small_line (by omega), ?_⟩
      obtain ⟨at', ha⟩ : ∃ n : Nat, d4 % z = (n : Int) := ⟨(d4 % z).toNat, by omega⟩
      obtain ⟨ls, ss2⟩ := rot_ok (sg := sg) (t := d5 % (sg.length : Int)) t0 (by omega)
      refine ⟨_, _, rfl, rfl, (by rw [← len_app]; show (rot sg (d5 % (sg.length : Int))).length ≤ sizeLine; exact small_line (by omega)), ?_⟩
      have la : (cutS st none (some (d4 % z))).length = min at' st.length := by rw [ha]; exact cut_to st at'
      have lb : (cutS st (some (d4 % z + 1)) none).length = st.length - (at' + 1) := by
        have eat : (at' : Int) + 1 = ((at' + 1 : Nat) : Int) := by omega
        rw [ha, eat]
        exact cut_from st (at' + 1)
      refine ⟨_, rfl, many, rfl, by omega, by omega, fun Dd nD => ?_⟩
      refine lc_range (lo := 0) (n := many.toNat) (fun i H2 => Same H H2 ∧ ∃ ns : List Str, H2 Dd = some (.lst (ns.map V.str)) ∧ ns.length = i ∧ ∀ x ∈ ns, x ∉ doers) ⟨sameN nD, [], upd_same, rfl, fun _ h => nomatch h⟩ ?_ ?_
      · rintro i H2 hi ⟨g, ns, hD, hln, hno⟩
        refine ⟨rfl, ?_⟩
        obtain ⟨x, hx, hatx⟩ := sign_at (z := rot sg (d5 % (sg.length : Int))) (i := 0 + (i : Int)) (by omega) (by omega)
        refine ⟨_, rfl, _, rfl, _, rfl, st, rfl, small_line (by omega), _, rfl, _, rfl, rot sg (d5 % (sg.length : Int)), _, x, rfl, rfl, small_line (by omega), hatx, _, _, rfl, rfl, (by show (cutS st none (some (d4 % z))).length + _ ≤ sizeLine; exact small_line (by rw [one_len]; omega)), ?_⟩
        refine ⟨_, rfl, _, rfl, _, _, rfl, rfl, _, rfl, st, rfl, small_line (by omega), _, _, rfl, rfl, ?_, ns.map V.str, hD, small1000 (by rw [List.length_map]; omega), ?_⟩
        · show (cutS st none (some (d4 % z)) ++ ⟨#[x]⟩).length + (cutS st (some (d4 % z + 1)) none).length ≤ sizeLine
          rw [len_app, one_len]
          exact small_line (by omega)
        refine ⟨fun bb oo eo => ?_, ns ++ [cutS st none (some (d4 % z)) ++ ⟨#[x]⟩ ++ cutS st (some (d4 % z + 1)) none], ?_, by simp [hln], fun y hy => ?_⟩
        · by_cases hbD : bb = Dd
          · subst hbD; rw [nD] at eo; cases eo
          · rw [upd_ne hbD]; exact g bb oo eo
        · rw [upd_same, List.map_append]
          rfl
        · rcases List.mem_append.mp hy with q | q
          · exact hno y q
          · rw [List.mem_singleton.mp q]
            rcases gO with e6 | hc
            · refine six_no ?_
              rw [len_app, len_app, one_len]
              omega
            · have hcs : Cons st := cons_sub hc hsub
              exact cons_no (cons_app (cons_app (cons_sub hcs cut_sub) (cons_one (hc x (ss2 x hx)))) (cons_sub hcs cut_sub))
      · rintro H2 ⟨g, ns, hD, hln, hno⟩
        exact k Dd ns H2 hD ⟨fun e => (by rw [e] at hln; simp at hln; omega), by omega, hno⟩ (by omega) g
end
end FR

/-! FRJ: the law's table. -/
namespace FR
open PySem L2
theorem sameU {H H1 : Hp} {d : Addr} {o : HO} (g : Same H H1) (h : H d = none) : Same H (upd H1 d o) := fun b u e => by
  by_cases hb : b = d
  · subst hb; rw [h] at e; cases e
  · rw [upd_ne hb]; exact g b u e
theorem sortE_perm (T : Tab) : (sortE T).Perm T := List.mergeSort_perm T _
theorem sortE_nodup {T : Tab} (h : (keysOf T).Nodup) : (keysOf (sortE T)).Nodup := by
  have e := (sortE_perm T).map (fun p : Place × Int => p.1)
  exact e.nodup_iff.mpr h
theorem sortE_mem {T : Tab} {p : Place × Int} : p ∈ sortE T ↔ p ∈ T := (sortE_perm T).mem_iff
theorem sortE_length (T : Tab) : (sortE T).length = T.length := (sortE_perm T).length_eq
def TabOk (T : Tab) : Prop := (keysOf T).Nodup ∧ ∀ p ∈ T, inR p.2
section
variable {P : Program} {w : World} {K : PySem.W.Frag} {mg : Str → Option Value} {base : Heap}
def spTable : Sp := fun vs H Q _ => ∃ (c : Int) (b : Addr) (hs : List Str), vs = [.int c, .ref b] ∧ StrsAt H b hs ∧ hs.length = 3 ∧ ∀ (a : Addr) (T : Tab) (H' : Hp), TbAt H' a T → TabOk T → T.length ≤ 8 → Same H H' → Q (.ref a) H'
theorem scTable : FnScope ["cell", "shelves", "worths", "k", "worth"] ["cell", "shelves"] (defScope sTable) := ⟨rfl, rfl, rfl, by decide +kernel, rfl, by decide +kernel, by decide +kernel⟩
theorem ok_table {f fD fN : Addr} {fd fdD fdN : FuncData} (D : DefAt K mg "_law_table" sTable ["cell", "shelves"] f fd) (DD : DefAt K mg "_law_draw" sDraw ["cell", "j"] fD fdD) (GD : FnOk P w K mg base CX0 1 fD fdD ["cell", "j"] spDraw)
    (DN : DefAt K mg "_law_number" sNumber ["cell", "j"] fN fdN) (GN : FnOk P w K mg base CX0 2 fN fdN ["cell", "j"] spNumber) (B : Blt mg) :
    FnOk P w K mg base CX0 3 f fd ["cell", "shelves"] spTable := by
  refine D.F.ok scTable (fun vs H Q E h => ?_) (fun cdv A outer s H vs Q E hr h => ?_)
  · obtain ⟨c, b, hs, rfl, _⟩ := h
    rfl
  obtain ⟨c, b, hs, rfl, hB, l3, k⟩ := h
  have hr1 : Room 1 _ := hr.mono (by decide)
  have nd := scTable.nd
  have hu := hu_of hr
  refine ⟨_, pss_cons (ps_set (i := 2) nd rfl (.inl rfl) pe_dnewT)
    (pss_cons (ps_for PassesOwn.never rfl (pi_range1 (by rfl) B.range (pa_cons (pe_op op_mod (pe_call GD hr1 rfl DD.m DD.F.kp DD.b .nil pass0 (pa_cons (pv 0) (pa_cons pe_int pa_nil))) pe_int) pa_nil)) (pg_name (i := 3) nd rfl (.inl rfl))
      (pss_cons (ps_set (i := 4) nd rfl (.inl rfl) (pe_call GN hr rfl DN.m DN.F.kp DN.b .nil pass0 (pa_cons (pv 0) (pa_cons (pe_op op_add pe_int (pe_op op_mul pe_int (pv 3))) pa_nil))))
      (pss_one (ps_if (pt_cmpR op_ne (pv 4) pe_int (nomark _)) (pss_one (ps_dput hu (pv 2) (pe_tup (pa_cons (pe_ix ix_list (pv 1) (pe_op op_mod (pe_call GD hr1 rfl DD.m DD.F.kp DD.b .nil pass0 (pa_cons (pv 0) (pa_cons (pe_op op_add pe_int (pv 3)) pa_nil))) pe_int) (fun _ _ => rfl))
          (pa_cons (pe_op op_sub (pe_op op_mod (pe_call GD hr1 rfl DD.m DD.F.kp DD.b .nil pass0 (pa_cons (pv 0) (pa_cons (pe_op op_add pe_int (pv 3)) pa_nil))) pe_int) pe_int) pa_nil))) (pv 4) rfl)) pss_nil))))
    (pss_one (ps_ret (pe_callB (cr_sortIt rfl hr.units) (by rfl) B.sorted (by decide +kernel) (pa_cons (pe_bm0 PySem.F.plainAttrs_dict PySem.F.slot_dict_items PySem.F.type_dict_items L2.DX.mt_itemsT (pv 2)) pa_nil))))), ?_⟩
  intro d hd
  refine ⟨_, rfl, c, 20, rfl, by decide, by decide, fun e he0 he1 => ?_⟩
  refine ⟨_, _, rfl, rfl, (by show (0 : Int) < 9; decide), e % 9, rfl, by omega, by omega, ?_⟩
  refine for_range (lo := 0) (n := (e % 9).toNat) (fun i σ H2 => ∃ (T : Tab) (v3 v4 : Option V), σ = [some (.int c), some (.ref b), some (.ref d), v3, v4] ∧ H2 d = some (.dT (tkv T)) ∧ TabOk T ∧ T.length ≤ i ∧ Same H H2)
    ⟨[], none, none, rfl, upd_same, ⟨List.nodup_nil, fun _ h => nomatch h⟩, Nat.le_refl _, sameN hd⟩ ?_ ?_
  · rintro i σ H2 hi ⟨T, v3, v4, rfl, hT, ok, hl, g⟩
    refine ⟨_, rfl, _, rfl, _, _, rfl, rfl, .inl ⟨by decide, by decide⟩, _, _, rfl, rfl, c, 30 + 3 * (0 + (i : Int)), rfl, by omega, by omega, fun v hv => ?_⟩
    refine ⟨_, rfl, rfl, _, rfl, ?_⟩
    refine ite2 (fun _ => ?_) (fun _ => ?_)
    · refine ⟨_, rfl, _, rfl, _, rfl, _, rfl, _, rfl, _, _, rfl, rfl, c, 60 + (0 + (i : Int)), rfl, by omega, by omega, fun d2 h0 h1 => ?_⟩
      refine ⟨_, _, rfl, rfl, (by show (0 : Int) < 3; decide), ?_⟩
      obtain ⟨sh, _, hat⟩ := StrsAt.get (ss := hs) (i := d2 % 3) (by omega) (by omega)
      refine ⟨b, _, _, _, rfl, rfl, SqL.of (hB.same g), hat, ?_⟩
      refine ⟨_, rfl, _, rfl, _, _, rfl, rfl, c, 70 + (0 + (i : Int)), rfl, by omega, by omega, fun d3 h0' h1' => ?_⟩
      refine ⟨_, _, rfl, rfl, (by show (0 : Int) < 4; decide), _, _, rfl, rfl, (by show 2 ≤ sizeLine; decide), fun p hp => ?_⟩
      have hne : d ≠ p := ne_of_none hT hp
      refine ⟨d, _, rfl, DPut.t (k := pk (sh, d3 % 4 - 1)) ((upd_ne hne).trans hT) upd_same (by rw [tkv_length]; exact small1000 (by omega)), ?_⟩
      refine ⟨aPut T (sh, d3 % 4 - 1) v, _, _, rfl, ?_, ⟨nodup_put ok.1 _ _, fun q hq => ?_⟩, Nat.le_trans (length_put _ _ _) (by omega), sameU (g.trans (sameN hp)) hd⟩
      · rw [upd_same, putK_t ok.1]
      · rcases mem_put hq with z | z
        · rw [z]; exact hv
        · exact ok.2 q z
    · exact ⟨T, _, _, rfl, hT, ok, by omega, g⟩
  · rintro σ H2 ⟨T, v3, v4, rfl, hT, ok, hl, g⟩
    refine ⟨_, rfl, .inr (.inr (.inl ⟨rfl, .inr ⟨_, hT⟩⟩)), d, _, rfl, rfl, hT, fun p hp => ?_⟩
    have hne : d ≠ p := ne_of_none hT hp
    refine ⟨p, d, T, rfl, upd_same, (upd_ne hne).trans hT, fun l H3 hl3 g3 hq => ?_⟩
    exact k l _ H3 hq ⟨sortE_nodup ok.1, fun q hq => ok.2 q (sortE_mem.mp hq)⟩ (by rw [sortE_length]; omega) (g.trans ((sameN hp).trans g3))
end
end FR

/-! FRK: the law's frames: what is still growing is hidden, what is finished stays. -/
namespace FR
open PySem L2
/-! ### the heap without what still grows -/
def hide (H : Hp) (M : List Addr) : Hp := fun b => if b ∈ M then none else H b
theorem hide_in {H : Hp} {M : List Addr} {b : Addr} (h : b ∈ M) : hide H M b = none := if_pos h
theorem hide_out {H : Hp} {M : List Addr} {b : Addr} (h : b ∉ M) : hide H M b = H b := if_neg h
theorem hide_sub {H : Hp} {M M' : List Addr} (h : ∀ b ∈ M', b ∈ M) : Same (hide H M) (hide H M') := fun b o e => by
  by_cases hb : b ∈ M
  · rw [hide_in hb] at e; cases e
  · rw [hide_out hb] at e
    rw [hide_out fun z => hb (h b z)]
    exact e
theorem hide_upd_in {H : Hp} {M : List Addr} {x : Addr} {o : HO} (h : x ∈ M) : hide (upd H x o) M = hide H M := by
  funext b
  by_cases hb : b ∈ M
  · rw [hide_in hb, hide_in hb]
  · rw [hide_out hb, hide_out hb, upd_ne fun e => hb (by rw [e]; exact h)]
theorem hide_same {H H' : Hp} {M : List Addr} (s : Same H H') : Same (hide H M) (hide H' M) := fun b o e => by
  by_cases hb : b ∈ M
  · rw [hide_in hb] at e; cases e
  · rw [hide_out hb] at e ⊢
    exact s b o e
theorem hide_le {H : Hp} {M : List Addr} : Same (hide H M) H := fun b o e => by
  by_cases hb : b ∈ M
  · rw [hide_in hb] at e; cases e
  · rw [hide_out hb] at e
    exact e
theorem hide_none {H : Hp} {M : List Addr} {b : Addr} (h : H b = none) : hide H M b = none := by
  by_cases hb : b ∈ M
  · exact hide_in hb
  · rw [hide_out hb]; exact h
/-! ### a frame -/
structure Fm where
  p : Addr
  e : Option (Addr × Term)
  b : Option (Addr × List DRow)
  r : Addr
  vs : List V
  rs : List DRow
def Fm.eV (f : Fm) : V := match f.e with
  | none => .non
  | some x => .ref x.1
def Fm.bV (f : Fm) : V := match f.b with
  | none => .non
  | some x => .ref x.1
structure FmAt (Hh H : Hp) (f : Fm) (d n : Nat) : Prop where
  o : H f.p = some (.lst [f.eV, f.bV, .ref f.r])
  rl : H f.r = some (.lst f.vs)
  ra : AtAll Hh f.vs (dRows f.rs)
  rw_ : wfRs f.rs d
  ln : f.vs.length ≤ n
  eo : ∀ q t, f.e = some (q, t) → Hh q = some (.tup (t.map kV)) ∧ wfE t
  bo : ∀ q bs, f.b = some (q, bs) → wfRs bs d ∧ At Hh (.ref q) (.list (dRows bs))
def pyF (S : List Fm) : List V := (S.map fun f => V.ref f.p).reverse
def adF : List Fm → List Addr
  | [] => []
  | f :: S => f.p :: f.r :: adF S
def StOk (Hh H : Hp) (n : Nat) : List Fm → Prop
  | [] => True
  | f :: S => FmAt Hh H f (5 - S.length) n ∧ (S ≠ [] → f.e ≠ none) ∧ StOk Hh H n S
/-- how many rows and open blocks there are -/
def tsF : List Fm → Nat
  | [] => 0
  | f :: S => szRs f.rs + (match f.b with
    | none => 0
    | some x => szRs x.2) + 1 + tsF S
structure FrAt (H0 H : Hp) (a : Addr) (S : List Fm) (n : Nat) : Prop where
  old : Same H0 H
  new : ∀ x ∈ a :: adF S, H0 x = none
  fr : H a = some (.lst (pyF S))
  nd : (a :: adF S).Nodup
  st : StOk (hide H (a :: adF S)) H n S
  ne : S ≠ []
  six : S.length ≤ 6
theorem FmAt.mono {Hh Hh' H H' : Hp} {f : Fm} {d n n' : Nat} (x : FmAt Hh H f d n) (s : Same Hh Hh') (h1 : H' f.p = H f.p) (h2 : H' f.r = H f.r) (hn : n ≤ n') : FmAt Hh' H' f d n' :=
  ⟨h1.trans x.o, h2.trans x.rl, AtAll.same s _ _ x.ra, x.rw_, Nat.le_trans x.ln hn, fun q t e => ⟨s _ _ (x.eo q t e).1, (x.eo q t e).2⟩, fun q bs e => ⟨(x.bo q bs e).1, At.same s _ _ (x.bo q bs e).2⟩⟩
theorem StOk.mono {Hh Hh' H H' : Hp} {n n' : Nat} (s : Same Hh Hh') (hn : n ≤ n') : ∀ {S : List Fm}, StOk Hh H n S → (∀ x ∈ adF S, H' x = H x) → StOk Hh' H' n' S
  | [], _, _ => trivial
  | f :: S, h, k => ⟨h.1.mono s (k _ (by simp [adF])) (k _ (by simp [adF])) hn, h.2.1, StOk.mono s hn h.2.2 fun x hx => k x (by simp [adF, hx])⟩
theorem adF_p {S : List Fm} {f : Fm} (h : f ∈ S) : f.p ∈ adF S := by
  induction S with
  | nil => cases h
  | cons g S ih =>
    rcases List.mem_cons.mp h with e | e
    · rw [e]; simp [adF]
    · simp [adF, ih e]
theorem pyF_cons (f : Fm) (S : List Fm) : pyF (f :: S) = pyF S ++ [V.ref f.p] := by
  unfold pyF
  rw [List.map_cons, List.reverse_cons]
theorem pyF_length (S : List Fm) : (pyF S).length = S.length := by
  unfold pyF
  rw [List.length_reverse, List.length_map]
theorem wfR_mono_aux : True := trivial
mutual
theorem wfR_mono : ∀ {r : DRow} {n m : Nat}, n ≤ m → wfR r n → wfR r m
  | .take _ _ _, _, _, _, h => by simpa [wfR] using h
  | .give _ _ _, _, _, _, h => by simpa [wfR] using h
  | .letr _ _, _, _, _, h => by simpa [wfR] using h
  | .say _, _, _, _, h => by simpa [wfR] using h
  | .off _, _, _, _, h => by simpa [wfR] using h
  | .iff _ a b, n, m, l, h => by
    simp only [wfR] at h ⊢
    exact ⟨h.1, by omega, wfRs_mono (by omega) h.2.2.1, wfRs_mono (by omega) h.2.2.2⟩
theorem wfRs_mono : ∀ {rs : List DRow} {n m : Nat}, n ≤ m → wfRs rs n → wfRs rs m
  | [], _, _, _, _ => by simp [wfRs]
  | r :: rs, n, m, l, h => by
    simp only [wfRs] at h ⊢
    exact ⟨wfR_mono l h.1, wfRs_mono l h.2⟩
end
theorem dRows_app : ∀ (a b : List DRow), dRows (a ++ b) = dRows a ++ dRows b
  | [], _ => rfl
  | r :: a, b => by
    show dRow r :: dRows (a ++ b) = dRow r :: (dRows a ++ dRows b)
    rw [dRows_app a b]
theorem wfRs_app : ∀ {a b : List DRow} {n : Nat}, wfRs a n → wfRs b n → wfRs (a ++ b) n
  | [], _, _, _, h => h
  | r :: a, b, n, h1, h2 => by
    simp only [wfRs, List.cons_append] at h1 ⊢
    exact ⟨h1.1, wfRs_app h1.2 h2⟩
theorem StOk.lists {Hh H : Hp} {n : Nat} : ∀ {S : List Fm}, StOk Hh H n S → ∀ y ∈ adF S, ∃ xs, H y = some (.lst xs)
  | [], _, _, h => nomatch h
  | f :: S, h, y, hy => by
    have hy' : y = f.p ∨ y = f.r ∨ y ∈ adF S := by simpa [adF] using hy
    rcases hy' with e | e | e
    · exact ⟨_, e ▸ h.1.o⟩
    · exact ⟨_, e ▸ h.1.rl⟩
    · exact StOk.lists h.2.2 y e
theorem FrAt.lists {H0 H : Hp} {a : Addr} {S : List Fm} {n : Nat} (x : FrAt H0 H a S n) : ∀ y ∈ a :: adF S, ∃ xs, H y = some (.lst xs) := fun y hy => by
  rcases List.mem_cons.mp hy with e | e
  · exact ⟨_, e ▸ x.fr⟩
  · exact x.st.lists y e
theorem FrAt.no_new {H0 H : Hp} {a y : Addr} {S : List Fm} {n : Nat} (x : FrAt H0 H a S n) (h : H y = none) : y ∉ a :: adF S := fun hy => by
  obtain ⟨xs, e⟩ := x.lists y hy
  rw [h] at e; cases e
theorem FrAt.no_tup {H0 H : Hp} {a y : Addr} {S : List Fm} {n : Nat} {vs : List V} (x : FrAt H0 H a S n) (h : H y = some (.tup vs)) : y ∉ a :: adF S := fun hy => by
  obtain ⟨xs, e⟩ := x.lists y hy
  rw [h] at e; cases e
/-- a row is added to the topmost frame -/
theorem FrAt.add {H0 H H1 : Hp} {a : Addr} {f : Fm} {S : List Fm} {n : Nat} {v : V} {r : DRow} (x : FrAt H0 H a (f :: S) n) (g : Same H H1) (hr : wfR r (5 - S.length)) (hv : At (hide H1 (a :: adF (f :: S))) v (dRow r)) :
    FrAt H0 (upd H1 f.r (.lst (f.vs ++ [v]))) a ({ f with vs := f.vs ++ [v], rs := f.rs ++ [r] } :: S) (n + 1) := by
  have hM : f.r ∈ a :: adF (f :: S) := by simp [adF]
  have hnd := x.nd
  have n1 : f.p ≠ f.r := fun e => by simp [adF, e] at hnd
  have n2 : a ≠ f.r := fun e => by simp [adF, e] at hnd
  have n3 : ∀ y ∈ adF S, y ≠ f.r := fun y hy e => by
    subst e
    simp [adF, hy] at hnd
  obtain ⟨x1, x2, x3⟩ := x.st
  have gh : Same (hide H (a :: adF (f :: S))) (hide (upd H1 f.r (.lst (f.vs ++ [v]))) (a :: adF (f :: S))) := by
    rw [hide_upd_in hM]
    exact hide_same g
  have keep : ∀ y o, y ≠ f.r → H y = some o → (upd H1 f.r (.lst (f.vs ++ [v]))) y = some o := fun y o hy e => by rw [upd_ne hy]; exact g y o e
  refine ⟨sameU (x.old.trans g) (x.new _ hM), x.new, keep _ _ n2 x.fr, x.nd, ⟨⟨keep _ _ n1 x1.o, upd_same, ?_, ?_, ?_, fun q t e => ⟨gh _ _ (x1.eo q t e).1, (x1.eo q t e).2⟩, fun q bs e => ⟨(x1.bo q bs e).1, At.same gh _ _ (x1.bo q bs e).2⟩⟩, x2, ?_⟩, fun z => (by cases z), x.six⟩
  · show AtAll _ (f.vs ++ [v]) (dRows (f.rs ++ [r]))
    rw [dRows_app]
    refine AtAll.append (AtAll.same gh _ _ x1.ra) (.cons ?_ .nil)
    rw [show adF ({ f with vs := f.vs ++ [v], rs := f.rs ++ [r] } :: S) = adF (f :: S) from rfl, hide_upd_in hM]
    exact hv
  · exact wfRs_app x1.rw_ (by simp only [wfRs]; exact ⟨hr, trivial⟩)
  · show (f.vs ++ [v]).length ≤ n + 1
    rw [List.length_append]
    have := x1.ln
    show f.vs.length + 1 ≤ n + 1
    omega
  · have t : ∀ (S' : List Fm), (∀ y ∈ adF S', y ∈ adF S) → StOk (hide H (a :: adF (f :: S))) H n S' → StOk (hide (upd H1 f.r (.lst (f.vs ++ [v]))) (a :: adF (f :: S))) (upd H1 f.r (.lst (f.vs ++ [v]))) (n + 1) S' := by
      intro S'
      induction S' with
      | nil => exact fun _ _ => trivial
      | cons f' S' ih =>
        intro hs h
        have p1 : (upd H1 f.r (.lst (f.vs ++ [v]))) f'.p = H f'.p := (keep _ _ (n3 _ (hs _ (by simp [adF]))) h.1.o).trans h.1.o.symm
        have p2 : (upd H1 f.r (.lst (f.vs ++ [v]))) f'.r = H f'.r := (keep _ _ (n3 _ (hs _ (by simp [adF]))) h.1.rl).trans h.1.rl.symm
        exact ⟨h.1.mono gh p1 p2 (Nat.le_succ n), h.2.1, ih (fun y hy => hs y (by simp [adF, hy])) h.2.2⟩
    exact t S (fun _ h => h) x3
/-- other things are made meanwhile -/
theorem StOk.same {Hh Hh' H H' : Hp} {n : Nat} (s : Same Hh Hh') (g : Same H H') : ∀ {S : List Fm}, StOk Hh H n S → StOk Hh' H' n S
  | [], _ => trivial
  | f :: S, h => ⟨h.1.mono s ((g _ _ h.1.o).trans h.1.o.symm) ((g _ _ h.1.rl).trans h.1.rl.symm) (Nat.le_refl n), h.2.1, StOk.same s g h.2.2⟩
theorem FrAt.same {H0 H H' : Hp} {a : Addr} {S : List Fm} {n : Nat} (x : FrAt H0 H a S n) (g : Same H H') : FrAt H0 H' a S n :=
  ⟨x.old.trans g, x.new, g _ _ x.fr, x.nd, x.st.same (hide_same g) g, x.ne, x.six⟩
theorem FrAt.more {H0 H : Hp} {a : Addr} {S : List Fm} {n n' : Nat} (x : FrAt H0 H a S n) (h : n ≤ n') : FrAt H0 H a S n' :=
  ⟨x.old, x.new, x.fr, x.nd, StOk.mono (fun _ _ e => e) h x.st (fun _ _ => rfl), x.ne, x.six⟩
/-- a frame is opened -/
theorem FrAt.push {H0 H : Hp} {a p r q : Addr} {t : Term} {S : List Fm} {n : Nat} (x : FrAt H0 H a S n) (h5 : S.length < 6) (hq : H q = some (.tup (t.map kV))) (ht : wfE t) (hqM : q ∉ a :: adF S)
    (hr : H r = none) (hp : upd H r (.lst []) p = none) :
    FrAt H0 (upd (upd (upd H r (.lst [])) p (.lst [.ref q, .non, .ref r])) a (.lst (pyF S ++ [.ref p]))) a (⟨p, some (q, t), none, r, [], []⟩ :: S) n := by
  have npr : p ≠ r := fun e => by rw [e, upd_same] at hp; cases hp
  have hp0 : H p = none := by rw [upd_ne npr] at hp; exact hp
  have nap : a ≠ p := ne_of_none x.fr hp0
  have nar : a ≠ r := ne_of_none x.fr hr
  have nqp : q ≠ p := ne_of_none hq hp0
  have nqr : q ≠ r := ne_of_none hq hr
  have all : ∀ y ∈ adF S, ∃ o, H y = some o := by
    have go : ∀ (S' : List Fm), StOk (hide H (a :: adF S)) H n S' → ∀ y ∈ adF S', ∃ o, H y = some o := by
      intro S'
      induction S' with
      | nil => exact fun _ y hy => nomatch hy
      | cons f S' ih =>
        intro h y hy
        have hy' : y = f.p ∨ y = f.r ∨ y ∈ adF S' := by simpa [adF] using hy
        rcases hy' with e | e | e
        · exact ⟨_, e ▸ h.1.o⟩
        · exact ⟨_, e ▸ h.1.rl⟩
        · exact ih h.2.2 y e
    exact go S x.st
  have np : p ∉ adF S := fun e => by
    obtain ⟨o, z⟩ := all p e
    rw [hp0] at z; cases z
  have nr : r ∉ adF S := fun e => by
    obtain ⟨o, z⟩ := all r e
    rw [hr] at z; cases z
  have hnd := x.nd
  have na : a ∉ adF S := (List.nodup_cons.mp hnd).1
  have nS := (List.nodup_cons.mp hnd).2
  have get : ∀ y, y ≠ a → y ≠ p → y ≠ r → (upd (upd (upd H r (.lst [])) p (.lst [.ref q, .non, .ref r])) a (.lst (pyF S ++ [.ref p]))) y = H y := fun y h1 h2 h3 => by rw [upd_ne h1, upd_ne h2, upd_ne h3]
  have gh : Same (hide H (a :: adF S)) (hide (upd (upd (upd H r (.lst [])) p (.lst [.ref q, .non, .ref r])) a (.lst (pyF S ++ [.ref p]))) (a :: p :: r :: adF S)) := fun y o e => by
    by_cases hy : y ∈ a :: adF S
    · rw [hide_in hy] at e; cases e
    · rw [hide_out hy] at e
      have y1 : y ≠ a := fun z => hy (by simp [z])
      have y2 : y ≠ p := ne_of_none e hp0
      have y3 : y ≠ r := ne_of_none e hr
      have y4 : y ∉ a :: p :: r :: adF S := by
        simp only [List.mem_cons, not_or]
        exact ⟨y1, y2, y3, fun z => hy (List.mem_cons_of_mem _ z)⟩
      rw [hide_out y4, get y y1 y2 y3]
      exact e
  have new0 : ∀ y, H y = none → H0 y = none := fun y e => Same.free x.old e
  refine ⟨?_, ?_, ?_, ?_, ⟨⟨?_, ?_, .nil, by simp [wfRs], Nat.zero_le _, ?_, fun _ _ e => nomatch e⟩, (fun _ e => nomatch e), ?_⟩, (fun z => nomatch z), (by show S.length + 1 ≤ 6; omega)⟩
  · exact sameU (sameU (sameU x.old (new0 r hr)) (new0 p hp0)) (x.new a (by simp))
  · intro y hy
    have hy' : y = a ∨ y = p ∨ y = r ∨ y ∈ adF S := by simpa [adF] using hy
    rcases hy' with e | e | e | e
    · rw [e]; exact x.new a (by simp)
    · rw [e]; exact new0 p hp0
    · rw [e]; exact new0 r hr
    · exact x.new y (by simp [e])
  · rw [upd_same, pyF_cons]
  · show (a :: p :: r :: adF S).Nodup
    simp only [List.nodup_cons, List.mem_cons, not_or]
    exact ⟨⟨nap, nar, na⟩, ⟨npr, np⟩, nr, nS⟩
  · rw [upd_ne (fun e => nap e.symm), upd_same]
    rfl
  · rw [upd_ne (fun e => nar e.symm), upd_ne (fun e => npr e.symm), upd_same]
  · intro q' t' e
    have e' : (q, t) = (q', t') := Option.some.inj e
    cases e'
    refine ⟨gh _ _ ?_, ht⟩
    rw [hide_out hqM]
    exact hq
  · refine StOk.mono gh (Nat.le_refl n) x.st fun y hy => ?_
    exact get y (fun e => na (e ▸ hy)) (fun e => np (e ▸ hy)) (fun e => nr (e ▸ hy))
/-- the first rows of the topmost frame are put aside -/
theorem FrAt.turn {H0 H : Hp} {a r : Addr} {f : Fm} {S : List Fm} {n : Nat} (x : FrAt H0 H a (f :: S) n) (hr : upd H f.p (.lst [f.eV, .ref f.r, .ref f.r]) r = none) :
    FrAt H0 (upd (upd (upd H f.p (.lst [f.eV, .ref f.r, .ref f.r])) r (.lst [])) f.p (.lst [f.eV, .ref f.r, .ref r])) a (⟨f.p, f.e, some (f.r, f.rs), r, [], []⟩ :: S) n := by
  have npr : r ≠ f.p := fun e => by rw [e, upd_same] at hr; cases hr
  have hr0 : H r = none := by rw [upd_ne npr] at hr; exact hr
  obtain ⟨x1, x2, x3⟩ := x.st
  have hnd := x.nd
  have nar : a ≠ r := ne_of_none x.fr hr0
  have nfr : f.r ≠ r := ne_of_none x1.rl hr0
  have h0 : a ∉ f.p :: f.r :: adF S ∧ (f.p :: f.r :: adF S).Nodup := List.nodup_cons.mp hnd
  have h1 : f.p ∉ f.r :: adF S ∧ (f.r :: adF S).Nodup := List.nodup_cons.mp h0.2
  have h2 : f.r ∉ adF S ∧ (adF S).Nodup := List.nodup_cons.mp h1.2
  have nap : a ≠ f.p := fun e => h0.1 (by simp [e])
  have n12 : f.p ≠ f.r := fun e => h1.1 (by simp [e])
  have narr : a ≠ f.r := fun e => h0.1 (by simp [e])
  have all : ∀ y ∈ adF S, ∃ o, H y = some o := by
    have go : ∀ (S' : List Fm), StOk (hide H (a :: adF (f :: S))) H n S' → ∀ y ∈ adF S', ∃ o, H y = some o := by
      intro S'
      induction S' with
      | nil => exact fun _ y hy => nomatch hy
      | cons f S' ih =>
        intro h y hy
        have hy' : y = f.p ∨ y = f.r ∨ y ∈ adF S' := by simpa [adF] using hy
        rcases hy' with e | e | e
        · exact ⟨_, e ▸ h.1.o⟩
        · exact ⟨_, e ▸ h.1.rl⟩
        · exact ih h.2.2 y e
    exact go S x3
  have nr : r ∉ adF S := fun e => by
    obtain ⟨o, z⟩ := all r e
    rw [hr0] at z; cases z
  have get : ∀ y, y ≠ f.p → y ≠ r → (upd (upd (upd H f.p (.lst [f.eV, .ref f.r, .ref f.r])) r (.lst [])) f.p (.lst [f.eV, .ref f.r, .ref r])) y = H y := fun y h1 h2 => by rw [upd_ne h1, upd_ne h2, upd_ne h1]
  have gh : Same (hide H (a :: adF (f :: S))) (hide (upd (upd (upd H f.p (.lst [f.eV, .ref f.r, .ref f.r])) r (.lst [])) f.p (.lst [f.eV, .ref f.r, .ref r])) (a :: f.p :: r :: adF S)) := fun y o e => by
    by_cases hy : y ∈ a :: adF (f :: S)
    · rw [hide_in hy] at e; cases e
    · rw [hide_out hy] at e
      have hy2 : y ≠ a ∧ y ≠ f.p ∧ y ≠ f.r ∧ y ∉ adF S := by simpa [adF] using hy
      have y3 : y ≠ r := ne_of_none e hr0
      have y4 : y ∉ a :: f.p :: r :: adF S := by
        simp only [List.mem_cons, not_or]
        exact ⟨hy2.1, hy2.2.1, y3, hy2.2.2.2⟩
      rw [hide_out y4, get y hy2.2.1 y3]
      exact e
  have hfr : (hide (upd (upd (upd H f.p (.lst [f.eV, .ref f.r, .ref f.r])) r (.lst [])) f.p (.lst [f.eV, .ref f.r, .ref r])) (a :: f.p :: r :: adF S)) f.r = some (.lst f.vs) := by
    have y4 : f.r ∉ a :: f.p :: r :: adF S := by
      simp only [List.mem_cons, not_or]
      exact ⟨narr.symm, n12.symm, nfr, h2.1⟩
    rw [hide_out y4, get _ n12.symm nfr]
    exact x1.rl
  refine ⟨?_, ?_, ?_, ?_, ⟨⟨?_, ?_, .nil, by simp [wfRs], Nat.zero_le _, ?_, ?_⟩, x2, ?_⟩, (fun z => nomatch z), x.six⟩
  · exact sameU (sameU (sameU x.old (x.new _ (by simp [adF]))) (Same.free x.old hr0)) (x.new _ (by simp [adF]))
  · intro y hy
    have hy' : y = a ∨ y = f.p ∨ y = r ∨ y ∈ adF S := by simpa [adF] using hy
    rcases hy' with e | e | e | e
    · rw [e]; exact x.new a (by simp)
    · rw [e]; exact x.new _ (by simp [adF])
    · rw [e]; exact Same.free x.old hr0
    · exact x.new y (by simp [adF, e])
  · rw [get _ nap nar]
    exact x.fr
  · show (a :: f.p :: r :: adF S).Nodup
    simp only [List.nodup_cons, List.mem_cons, not_or]
    exact ⟨⟨nap, nar, fun e => h0.1 (by simp [e])⟩, ⟨npr.symm, fun e => h1.1 (by simp [e])⟩, nr, h2.2⟩
  · show upd _ f.p _ f.p = _
    rw [upd_same]
    rfl
  · show upd _ f.p _ r = _
    rw [upd_ne npr, upd_same]
  · intro q' t' e
    exact ⟨gh _ _ (x1.eo q' t' e).1, (x1.eo q' t' e).2⟩
  · intro q' bs e
    have e' : (f.r, f.rs) = (q', bs) := Option.some.inj e
    cases e'
    exact ⟨x1.rw_, .lst hfr (AtAll.same gh _ _ x1.ra)⟩
  · refine StOk.mono gh (Nat.le_refl n) x3 fun y hy => ?_
    exact get y (fun e => h1.1 (by simp [← e, hy])) (fun e => nr (e ▸ hy))
/-- the topmost frame is taken away -/
theorem FrAt.pop {H0 H : Hp} {a : Addr} {f g : Fm} {S : List Fm} {n : Nat} (x : FrAt H0 H a (f :: g :: S) n) :
    FrAt H0 (upd H a (.lst (pyF (g :: S)))) a (g :: S) n ∧ (upd H a (.lst (pyF (g :: S)))) f.p = some (.lst [f.eV, f.bV, .ref f.r]) ∧
      FmAt (hide (upd H a (.lst (pyF (g :: S)))) (a :: adF (g :: S))) (upd H a (.lst (pyF (g :: S)))) f (5 - (g :: S).length) n ∧ hide (upd H a (.lst (pyF (g :: S)))) (a :: adF (g :: S)) f.r = some (.lst f.vs) := by
  obtain ⟨x1, x2, x3⟩ := x.st
  have h0 : a ∉ f.p :: f.r :: adF (g :: S) ∧ (f.p :: f.r :: adF (g :: S)).Nodup := List.nodup_cons.mp x.nd
  have h1 : f.p ∉ f.r :: adF (g :: S) ∧ (f.r :: adF (g :: S)).Nodup := List.nodup_cons.mp h0.2
  have h2 : f.r ∉ adF (g :: S) ∧ (adF (g :: S)).Nodup := List.nodup_cons.mp h1.2
  have hM : a ∈ a :: adF (g :: S) := by simp
  have gh : Same (hide H (a :: adF (f :: g :: S))) (hide (upd H a (.lst (pyF (g :: S)))) (a :: adF (g :: S))) := by
    rw [hide_upd_in hM]
    exact hide_sub fun y hy => by
      rcases List.mem_cons.mp hy with e | e
      · simp [e]
      · exact List.mem_cons_of_mem _ (List.mem_cons_of_mem _ (List.mem_cons_of_mem _ e))
  have nap : f.p ≠ a := fun e => h0.1 (by simp [← e])
  have nar : f.r ≠ a := fun e => h0.1 (by simp [← e])
  have f1 : FmAt (hide (upd H a (.lst (pyF (g :: S)))) (a :: adF (g :: S))) (upd H a (.lst (pyF (g :: S)))) f (5 - (g :: S).length) n := x1.mono gh (upd_ne nap) (upd_ne nar) (Nat.le_refl n)
  refine ⟨⟨sameU x.old (x.new a (by simp)), fun y hy => x.new y ?_, upd_same, ?_, StOk.mono gh (Nat.le_refl n) x3 fun y hy => upd_ne fun e => h0.1 (by simp [← e, hy]), (fun z => nomatch z), ?_⟩, f1.o, f1, ?_⟩
  · rcases List.mem_cons.mp hy with e | e
    · simp [e]
    · exact List.mem_cons_of_mem _ (List.mem_cons_of_mem _ (List.mem_cons_of_mem _ e))
  · exact List.nodup_cons.mpr ⟨fun e => h0.1 (by simp [e]), h2.2⟩
  · have := x.six
    simp only [List.length_cons] at this ⊢
    omega
  · rw [hide_out (by
      simp only [List.mem_cons, not_or]
      exact ⟨nar, h2.1⟩)]
    exact f1.rl
end FR

/-! FRL: the law's frames closed; the law's rows. -/
namespace FR
open PySem L2
section
variable {X : Cx}
/-- pop of a list whose last item is told -/
theorem mt_popL : MtM X "list.pop" (fun x vs H Q => ∃ l xs y, x = .ref l ∧ vs = [] ∧ H l = some (.lst (xs ++ [y])) ∧ Q y (upd H l (.lst xs))) := by
  intro pins s σ H x xs v us Q I rx rxs h
  obtain ⟨l, ys, y, rfl, rfl, hl, q⟩ := h
  refine mt_pop pins s σ H _ _ v us Q I rx rxs ⟨l, ys ++ [y], y, rfl, rfl, hl, ?_, ?_⟩
  · rw [List.length_append, List.getElem?_append_right (by simp)]
    simp
  · rw [List.dropLast_concat]
    exact q
end
theorem ix0 {a b c : V} : atI [a, b, c] (0 : Int) = some a := rfl
theorem ix1 {a b c : V} : atI [a, b, c] (1 : Int) = some b := rfl
theorem ix2 {a b c : V} : atI [a, b, c] (2 : Int) = some c := rfl
section
variable {P : Program} {w : World} {K : PySem.W.Frag} {mg : Str → Option Value} {base : Heap}
def spClosed : Sp := fun vs H Q _ => ∃ (H0 : Hp) (a : Addr) (S : List Fm) (n : Nat), vs = [.ref a] ∧ FrAt H0 H a S n ∧ 2 ≤ S.length ∧ n ≤ 500 ∧ ∀ (S' : List Fm) (H' : Hp), S'.length + 1 = S.length → tsF S' ≤ tsF S → FrAt H0 H' a S' (n + 1) → Q .non H'
theorem scClosed : FnScope ["frames", "frame"] ["frames"] (defScope sClosed) := ⟨rfl, rfl, rfl, by decide +kernel, rfl, by decide +kernel, by decide +kernel⟩
theorem ok_closed {f : Addr} {fd : FuncData} (D : DefAt K mg "_law_closed" sClosed ["frames"] f fd) : FnOk P w K mg base CX0 1 f fd ["frames"] spClosed := by
  refine D.F.ok scClosed (fun vs H Q E h => ?_) (fun cdv A outer s H vs Q E hr h => ?_)
  · obtain ⟨H0, a, S, n, rfl, _⟩ := h
    rfl
  obtain ⟨H0, a, S, n, rfl, x, h2, hn, k⟩ := h
  have nd := scClosed.nd
  refine ⟨_, pss_cons (ps_set (i := 1) nd rfl (.inl rfl) (pe_bm0 PySem.F.plainAttrs_list PySem.F.slot_list_pop PySem.F.type_list_pop mt_popL (pv 0)))
    (pss_one (ps_if (pt_cmp (pc_isN (pe_ix ix_list (pv 1) pe_int (fun _ _ => rfl))))
      (pss_one (ps_expr (pe_bm PySem.F.plainAttrs_list PySem.F.slot_list_append PySem.F.type_list_append mt_append (pe_ix ix_list (pe_ix ix_list (pv 0) (pe_un un_neg pe_int) (fun _ _ => rfl)) pe_int (fun _ _ => rfl))
        (pa_cons (pe_tup (pa_cons pe_str (pa_cons (pe_ix ix_list (pv 1) pe_int (fun _ _ => rfl)) (pa_cons (pe_ix ix_list (pv 1) pe_int (fun _ _ => rfl)) (pa_cons (pe_lst pa_nil) pa_nil))))) pa_nil))))
      (pss_one (ps_expr (pe_bm PySem.F.plainAttrs_list PySem.F.slot_list_append PySem.F.type_list_append mt_append (pe_ix ix_list (pe_ix ix_list (pv 0) (pe_un un_neg pe_int) (fun _ _ => rfl)) pe_int (fun _ _ => rfl))
        (pa_cons (pe_tup (pa_cons pe_str (pa_cons (pe_ix ix_list (pv 1) pe_int (fun _ _ => rfl)) (pa_cons (pe_ix ix_list (pv 1) pe_int (fun _ _ => rfl)) (pa_cons (pe_ix ix_list (pv 1) pe_int (fun _ _ => rfl)) pa_nil))))) pa_nil)))))), ?_⟩
  match S, h2, x, k with
  | f :: g :: S, h2, x, k =>
    obtain ⟨y, fo, fa, hr0⟩ := x.pop
    have six := x.six
    have six' : S.length + 2 ≤ 6 := six
    have fne : f.e ≠ none := x.st.2.1 (fun z => nomatch z)
    have hfr : H a = some (.lst (pyF (g :: S) ++ [V.ref f.p])) := by
      rw [x.fr, pyF_cons]
    refine ⟨_, rfl, .inl ⟨rfl, _, SqL.of hfr⟩, a, _, _, rfl, rfl, hfr, ?_⟩
    generalize hH1 : upd H a (.lst (pyF (g :: S))) = H1 at y fo fa hr0 ⊢
    have hga : H1 a = some (.lst (pyF S ++ [V.ref g.p])) := by
      rw [y.fr, pyF_cons]
    have gP := y.st.1.o
    have gR := y.st.1.rl
    have gL := y.st.1.ln
    obtain ⟨p, e, b, r, vs, rs⟩ := f
    cases e with
    | none => exact absurd rfl fne
    | some qt =>
      obtain ⟨q, t⟩ := qt
      obtain ⟨hq, ht⟩ := fa.eo q t rfl
      have hM1 : ∀ {z : Addr}, H1 z = none → z ∉ a :: adF (g :: S) := fun h => y.no_new h
      have hrs : At (hide H1 (a :: adF (g :: S))) (.ref r) (.list (dRows rs)) := .lst hr0 fa.ra
      have wrs : wfRs rs (5 - S.length - 1) := wfRs_mono (by simp only [List.length_cons]; omega) fa.rw_
      cases b with
      | none =>
        refine ⟨_, rfl, _, _, _, _, rfl, rfl, SqL.of fo, ix1, _, rfl, iteDT rfl ?_⟩
        refine ⟨_, rfl, _, rfl, _, _, _, _, rfl, rfl, SqL.of hga, atI_last _ _, _, _, _, _, rfl, rfl, SqL.of gP, ix2, .inl ⟨rfl, _, SqL.of gR⟩, ?_⟩
        refine ⟨_, rfl, _, _, _, _, rfl, rfl, SqL.of fo, ix0, _, rfl, _, _, _, _, rfl, rfl, SqL.of fo, ix2, (by show 0 ≤ sizeLine; decide), fun l hl => ?_⟩
        refine ⟨(by show 4 ≤ sizeLine; decide), fun tp htp => ?_⟩
        have g2 : Same H1 (upd (upd H1 l (.lst [])) tp (.tup [.str "if", .ref q, .ref r, .ref l])) := (sameN hl).trans (sameN htp)
        have ntl : l ≠ tp := fun e => by rw [e, upd_same] at htp; cases htp
        have htp1 : H1 tp = none := Same.free (sameN hl) htp
        refine ⟨g.r, g.vs, _, rfl, rfl, g2 _ _ gR, small1000 (by omega), ?_⟩
        refine k _ _ ?_ ?_ (y.add (r := .iff t rs []) g2 ⟨ht, by omega, wrs, by simp [wfRs]⟩ ?_)
        · rfl
        · simp only [tsF, szRs_app, szRs, szR]
          omega
        · refine .tup ?_ (.cons (.str _) (.cons (at_term (hide_same g2 _ _ hq)) (.cons (At.same (hide_same g2) _ _ hrs) (.cons (.lst (a := l) (xs := []) ?_ .nil) .nil))))
          · rw [hide_out (hM1 htp1), upd_same]
            rfl
          · rw [hide_out (hM1 hl), upd_ne ntl, upd_same]
      | some qb =>
        obtain ⟨q2, bs⟩ := qb
        obtain ⟨wbs, hbs⟩ := fa.bo q2 bs rfl
        have wbs' : wfRs bs (5 - S.length - 1) := wfRs_mono (by simp only [List.length_cons]; omega) wbs
        refine ⟨_, rfl, _, _, _, _, rfl, rfl, SqL.of fo, ix1, _, rfl, iteDF (fun z => nomatch z) ?_⟩
        refine ⟨_, rfl, _, rfl, _, _, _, _, rfl, rfl, SqL.of hga, atI_last _ _, _, _, _, _, rfl, rfl, SqL.of gP, ix2, .inl ⟨rfl, _, SqL.of gR⟩, ?_⟩
        refine ⟨_, rfl, _, _, _, _, rfl, rfl, SqL.of fo, ix0, _, rfl, _, _, _, _, rfl, rfl, SqL.of fo, ix1, _, rfl, _, _, _, _, rfl, rfl, SqL.of fo, ix2, ?_⟩
        refine ⟨(by show 4 ≤ sizeLine; decide), fun tp htp => ?_⟩
        have g2 : Same H1 (upd H1 tp (.tup [.str "if", .ref q, .ref q2, .ref r])) := sameN htp
        refine ⟨g.r, g.vs, _, rfl, rfl, g2 _ _ gR, small1000 (by omega), ?_⟩
        refine k _ _ ?_ ?_ (y.add (r := .iff t bs rs) g2 ⟨ht, by omega, wbs', wrs⟩ ?_)
        · rfl
        · simp only [tsF, szRs_app, szRs, szR]
          omega
        · refine .tup ?_ (.cons (.str _) (.cons (at_term (hide_same g2 _ _ hq)) (.cons (At.same (hide_same g2) _ _ hbs) (.cons (At.same (hide_same g2) _ _ hrs) .nil))))
          rw [hide_out (hM1 htp), upd_same]
          rfl
end
end FR

/-! FRM: the law's rows. -/
namespace FR
open PySem L2
/-- an if whose other way is shown once, from EL -/
def tIfC (c : TT) (t u : TS) : TS := fun D σ H => ∃ EL : Hp → Prop, (∀ H', EL H' → u D σ H') ∧ c σ H fun b H1 => if b = true then t D σ H1 else EL H1
theorem ps_ifC {X : Cx} {c : Expr} {a b : List Stmt} {tc : TT} {t u : TS} {pos : Pos} (hc : PT X c tc) (ha : PSs X a t) (hb : PSs X b u) : PS X (.If c a b pos) (tIfC tc t u) :=
  ⟨fun pins s σ H D I ⟨_, hel, h⟩ => wpAny_If (thn (hc.run pins s σ H _ I h) fun d s1 ⟨H1, I1, q1⟩ => match d, q1 with
    | true, q1 => ha.run pins s1 σ H1 D I1 q1
    | false, q1 => hb.run pins s1 σ H1 D I1 (hel H1 q1))⟩
section
variable {P : Program} {w : World} {K : PySem.W.Frag} {mg : Str → Option Value} {base : Heap}
def spRows : Sp := fun vs H Q _ => ∃ (c a b : Addr) (ns : List Int) (ss hs : List Str), vs = [.ref c, .ref a, .ref b] ∧ H c = some (.lst (ns.map V.int)) ∧ ns.length ≤ 120 ∧ StrsAt H a ss ∧ NamesOk ss ∧ ss.length = 4 ∧ StrsAt H b hs ∧ hs.length = 3 ∧
  ∀ (r : Addr) (rs : List DRow) (H' : Hp), wfRs rs 5 → At H' (.ref r) (.list (dRows rs)) → szRs rs ≤ ns.length → Same H H' → Q (.ref r) H'
theorem scRows : FnScope ["cells", "slots", "shelves", "frames", "cell", "kind"] ["cells", "slots", "shelves"] (defScope sRows) := ⟨rfl, rfl, rfl, by decide +kernel, rfl, by decide +kernel, by decide +kernel⟩
theorem sz_flat {r : DRow} (h : flatR r) : szR r = 1 := by cases r <;> simp [szR, flatR] at h ⊢
theorem flat_wf {r : DRow} (h : wfR r 0) (n : Nat) : wfR r n := wfR_mono (Nat.zero_le n) h
theorem FrAt.first {H : Hp} {a p r : Addr} (hr : H r = none) (hp : upd H r (.lst []) p = none) (ha : upd (upd H r (.lst [])) p (.lst [.non, .non, .ref r]) a = none) :
    FrAt H (upd (upd (upd H r (.lst [])) p (.lst [.non, .non, .ref r])) a (.lst [.ref p])) a [⟨p, none, none, r, [], []⟩] 0 := by
  have npr : p ≠ r := fun e => by rw [e, upd_same] at hp; cases hp
  have hp0 : H p = none := by rw [upd_ne npr] at hp; exact hp
  have nap : a ≠ p := fun e => by rw [e, upd_same] at ha; cases ha
  have nar : a ≠ r := fun e => by rw [e, upd_ne npr.symm, upd_same] at ha; cases ha
  have ha0 : H a = none := by rw [upd_ne nap, upd_ne nar] at ha; exact ha
  refine ⟨(sameN hr).trans ((sameN hp).trans (sameN ha)), fun x hx => ?_, upd_same, ?_, ⟨⟨?_, ?_, .nil, by simp [wfRs], Nat.le_refl _, (fun _ _ e => nomatch e), (fun _ _ e => nomatch e)⟩, (fun z => absurd rfl z), trivial⟩, (fun z => nomatch z), (by show 1 ≤ 6; decide)⟩
  · have hx' : x = a ∨ x = p ∨ x = r := by simpa [adF] using hx
    rcases hx' with e | e | e
    · rw [e]; exact ha0
    · rw [e]; exact hp0
    · rw [e]; exact hr
  · show [a, p, r].Nodup
    simp [nap, nar, npr]
  · show upd _ a _ p = _
    rw [upd_ne nap.symm, upd_same]
    rfl
  · show upd _ a _ r = _
    rw [upd_ne nar.symm, upd_ne npr.symm, upd_same]
/-- how long the list at a is -/
def lenAt (H : Hp) (a : Addr) : Nat := match H a with
  | some (.lst xs) => xs.length
  | _ => 0
theorem lenAt_of {H : Hp} {a : Addr} {xs : List V} (h : H a = some (.lst xs)) : lenAt H a = xs.length := by
  unfold lenAt
  rw [h]
theorem dRows_length : ∀ rs : List DRow, (dRows rs).length = rs.length
  | [] => rfl
  | r :: rs => congrArg (· + 1) (dRows_length rs)
mutual
/-- tuples, ints and texts alone -/
def tupOnly : PyData → Prop
  | .int _ => True
  | .str _ => True
  | .tuple ds => tupAll ds
  | _ => False
def tupAll : List PyData → Prop
  | [] => True
  | d :: ds => tupOnly d ∧ tupAll ds
end
mutual
theorem At.hideT {H : Hp} {M : List Addr} (hM : ∀ y ∈ M, ∃ xs, H y = some (.lst xs)) : ∀ (d : PyData) (v : V), tupOnly d → At H v d → At (hide H M) v d
  | .int _, _, _, h => by cases h; exact .int _
  | .str _, _, _, h => by cases h; exact .str _
  | .tuple ds, _, t, h => by
    cases h with
    | tup e q =>
      refine .tup ((hide_out fun z => ?_).trans e) (AtAll.hideT hM ds _ (by simpa [tupOnly] using t) q)
      obtain ⟨xs, e2⟩ := hM _ z
      rw [e] at e2
      cases e2
  | .list _, _, t, _ => by simp [tupOnly] at t
  | .none, _, t, _ => by simp [tupOnly] at t
  | .bool _, _, t, _ => by simp [tupOnly] at t
  | .dict _, _, t, _ => by simp [tupOnly] at t
theorem AtAll.hideT {H : Hp} {M : List Addr} (hM : ∀ y ∈ M, ∃ xs, H y = some (.lst xs)) : ∀ (ds : List PyData) (vs : List V), tupAll ds → AtAll H vs ds → AtAll (hide H M) vs ds
  | [], _, _, h => by cases h; exact .nil
  | d :: ds, _, t, h => by
    cases h with
    | cons q r =>
      have t' : tupOnly d ∧ tupAll ds := by simpa [tupAll] using t
      exact .cons (At.hideT hM d _ t'.1 q) (AtAll.hideT hM ds _ t'.2 r)
end
theorem tup_keys : ∀ t : Term, tupAll (t.map dK)
  | [] => by simp [tupAll]
  | k :: t => by
    simp only [List.map_cons, tupAll]
    refine ⟨?_, tup_keys t⟩
    cases k <;> simp [dK, tupOnly]
theorem tup_term (t : Term) : tupOnly (dTerm t) := by
  simp only [dTerm, tupOnly]
  exact tup_keys t
theorem tup_flat {r : DRow} (h : flatR r) : tupOnly (dRow r) := by
  cases r <;> simp [dRow, tupOnly, tupAll, tup_term, flatR] at h ⊢
theorem ok_rows {f fD fT fR fC : Addr} {fd fdD fdT fdR fdC : FuncData} (D : DefAt K mg "_law_rows" sRows ["cells", "slots", "shelves"] f fd) (DD : DefAt K mg "_law_draw" sDraw ["cell", "j"] fD fdD) (GD : FnOk P w K mg base CX0 1 fD fdD ["cell", "j"] spDraw)
    (DT : DefAt K mg "_law_term" sTerm ["cell", "j", "slots"] fT fdT) (GT : FnOk P w K mg base CX0 4 fT fdT ["cell", "j", "slots"] spTerm)
    (DR : DefAt K mg "_law_row" sRow ["cell", "slots", "shelves"] fR fdR) (GR : FnOk P w K mg base CX0 6 fR fdR ["cell", "slots", "shelves"] spRow)
    (DC : DefAt K mg "_law_closed" sClosed ["frames"] fC fdC) (GC : FnOk P w K mg base CX0 1 fC fdC ["frames"] spClosed) (B : Blt mg) :
    FnOk P w K mg base CX0 7 f fd ["cells", "slots", "shelves"] spRows := by
  refine D.F.ok scRows (fun vs H Q E h => ?_) (fun cdv A outer s H vs Q E hr h => ?_)
  · obtain ⟨c, a, b, ns, ss, hs, rfl, _⟩ := h
    rfl
  obtain ⟨c, a, b, ns, ss, hs, rfl, hc, h120, hS, hN, l4, hB, l3, k⟩ := h
  have nd := scRows.nd
  have hr1 : Room 1 _ := hr.mono (by decide)
  have hr4 : Room 4 _ := hr.mono (by decide)
  refine ⟨_, pss_cons (ps_set (i := 3) nd rfl (.inl rfl) (pe_lst (pa_cons (pe_lst (pa_cons pe_non (pa_cons pe_non (pa_cons (pe_lst pa_nil) pa_nil)))) pa_nil)))
    (pss_cons (ps_for PassesOwn.never rfl (pi_list (pv 0)) (pg_name (i := 4) nd rfl (.inl rfl))
      (pss_cons (ps_set (i := 5) nd rfl (.inl rfl) (pe_op op_mod (pe_call GD hr1 rfl DD.m DD.F.kp DD.b .nil pass0 (pa_cons (pv 4) (pa_cons pe_int pa_nil))) pe_int))
      (pss_one (ps_ifC (PW.pt (pw_and (pt_cmpR op_in_seq (pv 5) (pe_tup (pa_cons pe_int (pa_cons pe_int pa_nil))) (by rfl)) (pw_and1 (pt_cmpR op_lt (pe_callB call_len_seq (by rfl) B.len PySem.boot_len (pa_cons (pv 3) pa_nil)) pe_int (nomark _)))))
        (pss_one (ps_expr (pe_bm PySem.F.plainAttrs_list PySem.F.slot_list_append PySem.F.type_list_append mt_append (pv 3) (pa_cons (pe_lst (pa_cons (pe_call GT hr4 rfl DT.m DT.F.kp DT.b .nil pass0 (pa_cons (pv 4) (pa_cons pe_int (pa_cons (pv 1) pa_nil)))) (pa_cons pe_non (pa_cons (pe_lst pa_nil) pa_nil)))) pa_nil))))
        (pss_one (ps_ifC (PW.pt (pw_and (pt_cmpR op_eq (pv 5) pe_int (nomark _)) (pw_and (pt_cmpR op_gt (pe_callB call_len_seq (by rfl) B.len PySem.boot_len (pa_cons (pv 3) pa_nil)) pe_int (nomark _)) (pw_and1 (pt_cmp (pc_isN (pe_ix ix_list (pe_ix ix_list (pv 3) (pe_un un_neg pe_int) (fun _ _ => rfl)) pe_int (fun _ _ => rfl))))))))
          (pss_cons (ps_asg (pe_ix ix_list (pe_ix ix_list (pv 3) (pe_un un_neg pe_int) (fun _ _ => rfl)) pe_int (fun _ _ => rfl)) (pg_sub (pe_ix ix_list (pv 3) (pe_un un_neg pe_int) (fun _ _ => rfl)) pe_int set_list))
          (pss_one (ps_asg (pe_lst pa_nil) (pg_sub (pe_ix ix_list (pv 3) (pe_un un_neg pe_int) (fun _ _ => rfl)) pe_int set_list))))
          (pss_one (ps_ifC (PW.pt (pw_and (pt_cmpR op_eq (pv 5) pe_int (nomark _)) (pw_and1 (pt_cmpR op_gt (pe_callB call_len_seq (by rfl) B.len PySem.boot_len (pa_cons (pv 3) pa_nil)) pe_int (nomark _)))))
            (pss_one (ps_expr (pe_call GC hr1 rfl DC.m DC.F.kp DC.b .nil pass0 (pa_cons (pv 3) pa_nil))))
            (pss_one (ps_expr (pe_bm PySem.F.plainAttrs_list PySem.F.slot_list_append PySem.F.type_list_append mt_append (pe_ix ix_list (pe_ix ix_list (pv 3) (pe_un un_neg pe_int) (fun _ _ => rfl)) pe_int (fun _ _ => rfl)) (pa_cons (pe_call GR hr rfl DR.m DR.F.kp DR.b .nil pass0 (pa_cons (pv 4) (pa_cons (pv 1) (pa_cons (pv 2) pa_nil)))) pa_nil))))))))))))
    (pss_cons (ps_while PassesOwn.never (pt_cmpR op_gt (pe_callB call_len_seq (by rfl) B.len PySem.boot_len (pa_cons (pv 3) pa_nil)) pe_int (nomark _)) (pss_one (ps_expr (pe_call GC hr1 rfl DC.m DC.F.kp DC.b .nil pass0 (pa_cons (pv 3) pa_nil)))))
    (pss_one (ps_ret (pe_ix ix_list (pe_ix ix_list (pv 3) pe_int (fun _ _ => rfl)) pe_int (fun _ _ => rfl)))))), ?_⟩
  -- frames
  refine ⟨(by show 0 ≤ sizeLine; decide), fun r hr0 => ⟨(by show 3 ≤ sizeLine; decide), fun p hp => ⟨(by show 1 ≤ sizeLine; decide), fun fa hfa => ?_⟩⟩⟩
  have x0 := FrAt.first hr0 hp hfa
  refine ⟨_, rfl, c, rfl, ⟨_, SqL.of (x0.old _ _ hc)⟩, for_list (K := K) (a := c) (xs := ns.map V.int) (fun i σ H2 => ∃ (S : List Fm) (v4 v5 : Option V), σ = [some (.ref c), some (.ref a), some (.ref b), some (.ref fa), v4, v5] ∧ FrAt H H2 fa S i ∧ tsF S ≤ i + 1)
    ⟨_, none, none, rfl, x0, Nat.le_refl _⟩ (fun i σ H2 _ ⟨S, _, _, _, x, _⟩ => SqL.of (x.old _ _ hc)) ?_ ?_⟩
  · rintro i y σ H2 hi ⟨S, v4, v5, rfl, x, hts⟩
    have hil : i < (ns.map V.int).length := (List.getElem?_eq_some_iff.mp hi).1
    rw [List.length_map] at hil
    obtain ⟨z, rfl⟩ : ∃ z, y = V.int z := by
      rw [List.getElem?_map, List.getElem?_eq_getElem hil] at hi
      exact ⟨_, (Option.some.inj hi).symm⟩
    refine ⟨_, rfl, z, 0, rfl, by decide, by decide, fun d hd0 hd1 => ?_⟩
    refine ⟨_, _, rfl, rfl, (by show (0 : Int) < 16; decide), ?_⟩
    refine ⟨fun H3 => FrAt H H3 fa S i, ?_, ?_⟩
    rotate_left
    · have EL : ∀ H3, FrAt H H3 fa S i → FrAt H H3 fa S i := fun _ h => h
      refine ⟨_, rfl, (by show 2 ≤ sizeLine; decide), fun p12 h12 => ⟨p12, _, rfl, .inr (SqT.of upd_same), rfl, rfl, _, rfl, ?_⟩⟩
      replace x := x.same (sameN (o := .tup [.int 12, .int 13]) h12)
      generalize hH3 : upd H2 p12 (.tup [.int 12, .int 13]) = H3 at x ⊢
      have hfr := x.fr
      have hL := pyF_length S
      refine ite2 (fun _ => ?_) (fun _ => iteF (EL H3 x))
      refine ⟨_, rfl, fa, _, rfl, .inl (SqL.of hfr), _, _, rfl, rfl, _, rfl, iteD (fun c6 => ?_) (fun _ => EL H3 x)⟩
      refine ⟨_, rfl, .inl ⟨rfl, _, SqL.of hfr⟩, _, rfl, _, rfl, z, 80, a, ss, rfl, by decide, by decide, hS.same x.old, hN, fun q t H4 ht hq g4 => ?_⟩
      have x4 := x.same g4
      refine ⟨(by show 0 ≤ sizeLine; decide), fun r2 hr2 => ⟨(by show 3 ≤ sizeLine; decide), fun p2 hp2 => ?_⟩⟩
      have x6 := x4.push (r := r2) (p := p2) (by omega) hq ht (x4.no_tup hq) hr2 hp2
      refine ⟨fa, pyF S, _, rfl, rfl, sameN hp2 _ _ (sameN hr2 _ _ x4.fr), small1000 (by have := x.six; omega), ?_⟩
      exact ⟨_, _, _, rfl, x6.more (Nat.le_succ i), by simp only [tsF, szRs]; omega⟩
    clear x
    intro H3 x
    match S, x with
    | [], x => exact absurd rfl x.ne
    | f :: S, x =>
    have hfr : H3 fa = some (.lst (pyF S ++ [V.ref f.p])) := by rw [x.fr, pyF_cons]
    have hL : (pyF S ++ [V.ref f.p]).length = S.length + 1 := by rw [List.length_append, pyF_length]; rfl
    have fo := x.st.1.o
    have fr := x.st.1.rl
    have fl := x.st.1.ln
    refine ⟨fun H3' => H3 = H3', ?_, ?_⟩
    rotate_left
    · have EL : ∀ H3' : Hp, H3 = H3' → H3 = H3' := fun _ h => h
      refine ⟨_, rfl, rfl, _, rfl, iteD (fun _ => ?_) (fun _ => iteF (EL H3 rfl))⟩
      refine ⟨_, rfl, fa, _, rfl, .inl (SqL.of hfr), _, _, rfl, rfl, _, rfl, iteD (fun _ => ?_) (fun _ => iteF (EL H3 rfl))⟩
      refine ⟨_, rfl, _, rfl, _, _, _, _, rfl, rfl, SqL.of hfr, atI_last _ _, _, _, _, _, rfl, rfl, SqL.of fo, ix1, _, rfl, iteD (fun _ => ?_) (fun _ => EL H3 rfl)⟩
      refine ⟨_, rfl, _, rfl, _, _, _, _, rfl, rfl, SqL.of hfr, atI_last _ _, _, _, _, _, rfl, rfl, SqL.of fo, ix2, _, rfl, _, rfl, _, _, _, _, rfl, rfl, SqL.of hfr, atI_last _ _, f.p, _, _, 1, rfl, rfl, fo, rfl, ?_⟩
      have naf : fa ≠ f.p := fun e => by
        have := (List.nodup_cons.mp x.nd).1
        exact this (by simp [adF, e])
      have hfr2 : ∀ o, (upd H3 f.p o) fa = some (.lst (pyF S ++ [V.ref f.p])) := fun o => by rw [upd_ne naf]; exact hfr
      refine ⟨(by show 0 ≤ sizeLine; decide), fun r2 hr2 => ?_⟩
      have nr2 : f.p ≠ r2 := fun e => by rw [← e, upd_same] at hr2; cases hr2
      refine ⟨_, rfl, _, rfl, _, _, _, _, rfl, rfl, SqL.of (sameN hr2 _ _ (hfr2 _)), atI_last _ _, f.p, _, _, 2, rfl, rfl, (upd_ne nr2).trans upd_same, rfl, ?_⟩
      exact ⟨_, _, _, rfl, (x.turn hr2).more (Nat.le_succ i), by simp only [tsF, szRs] at hts ⊢; omega⟩
    rintro H3' rfl
    refine ⟨fun H3' => H3 = H3', ?_, ?_⟩
    rotate_left
    · have EL : ∀ H3' : Hp, H3 = H3' → H3 = H3' := fun _ h => h
      refine ⟨_, rfl, rfl, _, rfl, iteD (fun _ => ?_) (fun _ => iteF (EL H3 rfl))⟩
      refine ⟨_, rfl, fa, _, rfl, .inl (SqL.of hfr), _, _, rfl, rfl, _, rfl, iteD (fun c1 => ?_) (fun _ => EL H3 rfl)⟩
      refine ⟨_, rfl, H, fa, f :: S, i, rfl, x, by simp only [List.length_cons]; omega, by omega, fun S' H4 _ hl4 x4 => ?_⟩
      exact ⟨_, _, _, rfl, x4, by omega⟩
    rintro H3' rfl
    refine ⟨_, rfl, _, rfl, _, _, _, _, rfl, rfl, SqL.of hfr, atI_last _ _, _, _, _, _, rfl, rfl, SqL.of fo, ix2, .inl ⟨rfl, _, SqL.of fr⟩, ?_⟩
    refine ⟨_, rfl, _, rfl, _, rfl, z, a, b, ss, hs, rfl, hS.same x.old, hN, l4, hB.same x.old, l3, fun q r H4 hw hflat hq g4 => ?_⟩
    refine ⟨f.r, f.vs, q, rfl, rfl, g4 _ _ fr, small1000 (by omega), ?_⟩
    exact ⟨_, _, _, rfl, x.add g4 (flat_wf hw _) (At.hideT (x.same g4).lists _ _ (tup_flat hflat) hq), by simp only [tsF, szRs_app, szRs, sz_flat hflat] at hts ⊢; omega⟩
  · rintro σ H2 ⟨S, v4, v5, rfl, x, hts⟩
    rw [List.length_map] at hts
    have x6 := x.six
    rw [List.length_map] at x
    refine while_by (fun σ H3 => ∃ (S : List Fm) (n : Nat), σ = [some (.ref c), some (.ref a), some (.ref b), some (.ref fa), v4, v5] ∧ FrAt H H3 fa S n ∧ n + S.length ≤ 130 ∧ tsF S ≤ ns.length + 1) (fun _ H3 => lenAt H3 fa)
      ⟨S, _, rfl, x, by omega, hts⟩ ?_ ?_
    · rintro σ H3 ⟨S, n, rfl, x, hb, hts⟩
      have hfr := x.fr
      have hL := pyF_length S
      have x6 := x.six
      refine ⟨_, rfl, fa, _, rfl, .inl (SqL.of hfr), _, _, rfl, rfl, _, rfl, iteD (fun c1 => ?_) (fun c1 => ?_)⟩
      · refine ⟨_, rfl, H, fa, S, n, rfl, x, by omega, by omega, fun S' H4 hS' hl4 x4 => ?_⟩
        refine ⟨⟨S', n + 1, rfl, x4, by omega, by omega⟩, ?_⟩
        show lenAt H4 fa < lenAt H3 fa
        rw [lenAt_of hfr, lenAt_of x4.fr, pyF_length, pyF_length]
        omega
      · match S, x with
        | [], x => exact absurd rfl x.ne
        | [f], x =>
          have fo := x.st.1.o
          have fr := x.st.1.rl
          have hl := AtAll.length x.st.1.ra
          have fl := x.st.1.ln
          rw [dRows_length] at hl
          refine ⟨_, rfl, fa, _, _, _, rfl, rfl, SqL.of hfr, (rfl : atI (pyF [f]) (0 : Int) = some (V.ref f.p)), _, _, _, _, rfl, rfl, SqL.of fo, ix2, ?_⟩
          exact k f.r f.rs H3 x.st.1.rw_ (.lst fr (AtAll.same hide_le _ _ x.st.1.ra)) (by simp only [tsF] at hts; omega) x.old
        | f :: g :: S, x =>
          simp only [List.length_cons] at hL
          omega
    · rintro σ H3 Q1 Q2 m ⟨v, e1, p, ys, e2, hq, i, j, e3, e4, kk, e5, q⟩
      exact ⟨v, e1, p, ys, e2, hq, i, j, e3, e4, kk, e5, m _ _ q⟩
end
end FR

/-! FRN: is_worth, comes_to, reckoned. -/
namespace FR
open PySem L2
section
variable {P : Program} {w : World} {K : PySem.W.Frag} {mg : Str → Option Value} {base : Heap}
/-! ### is_worth -/
def spWorthy : Sp := fun vs H Q _ => ∃ i : Int, vs = [.int i] ∧ Q (.bl (decide (inR i))) H
theorem scWorthy : FnScope ["thing"] ["thing"] (defScope sWorthy) := ⟨rfl, rfl, rfl, by decide +kernel, rfl, by decide +kernel, by decide +kernel⟩
theorem b_int : bootBuiltins "int" = some (.type "int") := by decide +kernel
theorem b_bool : bootBuiltins "bool" = some (.type "bool") := by decide +kernel
theorem b_str : bootBuiltins "str" = some (.type "str") := by decide +kernel
theorem b_list : bootBuiltins "list" = some (.type "list") := by decide +kernel
theorem b_tuple : bootBuiltins "tuple" = some (.type "tuple") := by decide +kernel
theorem b_isi : bootBuiltins "isinstance" = some (.builtin "isinstance") := by decide +kernel
theorem dec_inR (i : Int) : (decide (-BIG ≤ i) && decide (i ≤ BIG)) = decide (inR i) := by
  by_cases h1 : -BIG ≤ i
  · by_cases h2 : i ≤ BIG
    · rw [decide_eq_true h1, decide_eq_true h2, decide_eq_true (show inR i from ⟨h1, h2⟩)]
      rfl
    · rw [decide_eq_false h2, decide_eq_false (fun z : inR i => h2 z.2), Bool.and_false]
  · rw [decide_eq_false h1, decide_eq_false (fun z : inR i => h1 z.1), Bool.false_and]
theorem ok_worthy {f : Addr} {fd : FuncData} (D : DefAt K mg "is_worth" sWorthy ["thing"] f fd) (B : Blt mg) {tM : Tok} (hM : mg "MOST" = some (.int BIG tM)) : FnOk P w K mg base CX0 1 f fd ["thing"] spWorthy := by
  refine D.F.ok scWorthy (fun vs H Q E h => ?_) (fun cdv A outer s H vs Q E hr h => ?_)
  · obtain ⟨i, rfl, _⟩ := h
    rfl
  obtain ⟨i, rfl, k⟩ := h
  refine ⟨_, pss_cons (ps_if (PW.pt (pw_or (pt_not (pt_val (pe_callB call_isi (by rfl) B.isinstance b_isi (pa_cons (pv 0) (pa_cons (pe_bltn (v := .ty "int") (by rfl) B.int b_int rfl) pa_nil)))))
      (pw_or1 (pt_val (pe_callB call_isi (by rfl) B.isinstance b_isi (pa_cons (pv 0) (pa_cons (pe_bltn (v := .ty "bool") (by rfl) B.bool b_bool rfl) pa_nil))))))) (pss_one (ps_ret pe_bl)) pss_nil)
    (pss_one (ps_ret (pe_chain op_le op_le (pe_un un_neg (pe_glob (v := .int BIG) (by rfl) hM ⟨tM, rfl⟩)) (pv 0) (pe_glob (v := .int BIG) (by rfl) hM ⟨tM, rfl⟩)))), ?_⟩
  refine ⟨_, rfl, _, _, _, _, true, rfl, .ty "int", .base (.int i), kit_ty (by decide +kernel), _, rfl, iteF ?_⟩
  refine ⟨_, rfl, _, _, _, _, false, rfl, .ty "bool", .base (.int i), kit_ty (by decide +kernel), _, rfl, iteF ?_⟩
  refine ⟨_, rfl, _, rfl, _, _, rfl, rfl, _, rfl, ?_⟩
  have e := dec_inR i
  refine ite2 (fun c => ?_) (fun c => ?_)
  · refine ⟨_, _, rfl, rfl, ?_⟩
    rw [show decide (-BIG ≤ i) = true from c, Bool.true_and] at e
    show Q (.bl (decide (i ≤ BIG))) H
    rw [e]
    exact k
  · rw [show decide (-BIG ≤ i) = false from Bool.eq_false_iff.mpr c, Bool.false_and] at e
    rw [← e] at k
    exact k
/-! ### comes_to -/
def spComes (CN : Addr) : Sp := fun vs H Q E => ∃ (d : Str) (a b : Int), vs = [.str d, .int a, .int b] ∧ inR a ∧ inR b ∧ (∀ v, comesTo d a b = .ok v → Q (.int v) H) ∧ (∀ e, comesTo d a b = .error e → e = .nought → E (.ref CN) none H)
theorem scComes : FnScope ["word", "first", "second"] ["word", "first", "second"] (defScope sComes) := ⟨rfl, rfl, rfl, by decide +kernel, rfl, by decide +kernel, by decide +kernel⟩
theorem vstr {a b : Str} (h : V.str a = V.str b) : a = b := V.str.inj h
theorem ok_comes {f CN : Addr} {fd : FuncData} (D : DefAt K mg "comes_to" sComes ["word", "first", "second"] f fd) (B : Blt mg) (N : ErrAt K mg "Nought" CN) : FnOk P w K mg base (L2.CX P w) 1 f fd ["word", "first", "second"] (spComes CN) := by
  refine D.F.okX scComes (fun vs H Q E h => ?_) (fun cdv A outer s H vs Q E hr h => ?_)
  · obtain ⟨d, a, b, rfl, _⟩ := h
    rfl
  obtain ⟨d, a, b, rfl, ha, hb, k, ke⟩ := h
  refine ⟨_, pss_cons (ps_if (pt_cmpR op_eq (pv 0) pe_str (nomark _)) (pss_one (ps_ret (pe_op op_add (pv 1) (pv 2)))) pss_nil)
    (pss_cons (ps_if (pt_cmpR op_eq (pv 0) pe_str (nomark _)) (pss_one (ps_ret (pe_op op_sub (pv 1) (pv 2)))) pss_nil)
    (pss_cons (ps_if (pt_cmpR op_eq (pv 0) pe_str (nomark _)) (pss_one (ps_ret (pe_op op_mulW (pv 1) (pv 2)))) pss_nil)
    (pss_cons (ps_if (pt_cmpR op_eq (pv 0) pe_str (nomark _)) (pss_one (ps_ret (pe_callTy call_int1 (by rfl) B.int b_int (pa_cons (pe_cmpR op_lt (pv 1) (pv 2) (nomark _)) pa_nil)))) pss_nil)
    (pss_cons (ps_if (pt_cmpR op_eq (pv 0) pe_str (nomark _)) (pss_one (ps_ret (pe_callTy call_int1 (by rfl) B.int b_int (pa_cons (pe_cmpR op_eq (pv 1) (pv 2) (nomark _)) pa_nil)))) pss_nil)
    (pss_cons (ps_if (pt_cmpR op_eq (pv 2) pe_int (nomark _)) (pss_one (ps_raise rfl (takes_of rfl rfl rfl rfl) (pmk_own PySem.F.excBase_ValueError N.ex N.g N.kp (raises_own N.sb N.ty) (by rfl)))) pss_nil)
    (pss_cons (ps_if (pt_cmpR op_eq (pv 0) pe_str (nomark _)) (pss_one (ps_ret (pe_op op_fdivX (pv 1) (pv 2)))) pss_nil)
    (pss_one (ps_ret (pe_op op_sub (pv 1) (pe_op op_mulW (pe_op op_fdivX (pv 1) (pv 2)) (pv 2))))))))))), ?_⟩
  refine ⟨_, rfl, rfl, _, rfl, iteD (fun c1 => ?_) (fun c1 => ?_)⟩
  · exact ⟨_, rfl, _, rfl, _, _, rfl, rfl, k _ (by unfold comesTo; rw [if_pos (vstr c1)])⟩
  replace c1 : ¬ d = "plus" := fun e => c1 (by rw [e])
  refine ⟨_, rfl, rfl, _, rfl, iteD (fun c2 => ?_) (fun c2 => ?_)⟩
  · exact ⟨_, rfl, _, rfl, _, _, rfl, rfl, k _ (by unfold comesTo; rw [if_neg c1, if_pos (vstr c2)])⟩
  replace c2 : ¬ d = "minus" := fun e => c2 (by rw [e])
  refine ⟨_, rfl, rfl, _, rfl, iteD (fun c3 => ?_) (fun c3 => ?_)⟩
  · exact ⟨_, rfl, _, rfl, _, _, rfl, rfl, inR_mul ha hb, k _ (by unfold comesTo; rw [if_neg c1, if_neg c2, if_pos (vstr c3)])⟩
  replace c3 : ¬ d = "times" := fun e => c3 (by rw [e])
  refine ⟨_, rfl, rfl, _, rfl, iteD (fun c4 => ?_) (fun c4 => ?_)⟩
  · refine ⟨_, rfl, _, rfl, _, _, rfl, rfl, .inr ⟨_, rfl, ?_⟩⟩
    refine k _ ?_
    unfold comesTo
    rw [if_neg c1, if_neg c2, if_neg c3, if_pos (vstr c4)]
    by_cases h : a < b <;> simp [h]
  replace c4 : ¬ d = "under" := fun e => c4 (by rw [e])
  refine ⟨_, rfl, rfl, _, rfl, iteD (fun c5 => ?_) (fun c5 => ?_)⟩
  · refine ⟨_, rfl, _, rfl, rfl, .inr ⟨_, rfl, ?_⟩⟩
    refine k _ ?_
    unfold comesTo
    rw [if_neg c1, if_neg c2, if_neg c3, if_neg c4, if_pos (vstr c5)]
    by_cases h : a = b <;> simp [h]
  replace c5 : ¬ d = "same" := fun e => c5 (by rw [e])
  refine ⟨_, rfl, rfl, _, rfl, iteD (fun c6 => ?_) (fun c6 => ?_)⟩
  · refine ke .nought ?_ rfl
    unfold comesTo
    rw [if_neg c1, if_neg c2, if_neg c3, if_neg c4, if_neg c5, if_pos (V.int.inj c6)]
  replace c6 : ¬ b = 0 := fun e => c6 (by rw [e])
  refine ⟨_, rfl, rfl, _, rfl, iteD (fun c7 => ?_) (fun c7 => ?_)⟩
  · refine ⟨_, rfl, _, rfl, _, _, rfl, rfl, inR_div (i := a) hb c6, k _ ?_⟩
    unfold comesTo
    rw [if_neg c1, if_neg c2, if_neg c3, if_neg c4, if_neg c5, if_neg c6, if_pos (vstr c7)]
  replace c7 : ¬ d = "over" := fun e => c7 (by rw [e])
  refine ⟨_, rfl, _, rfl, _, rfl, _, _, rfl, rfl, inR_div (i := a) hb c6, _, rfl, _, _, rfl, rfl, inR_mul (fdiv_in ha c6) hb, _, _, rfl, rfl, k _ ?_⟩
  unfold comesTo
  rw [if_neg c1, if_neg c2, if_neg c3, if_neg c4, if_neg c5, if_neg c6, if_neg c7]
end
end FR

/-! FRO: reckoned. -/
namespace FR
open PySem L2
def isDoer : Key → Bool
  | .inl _ => false
  | .inr s => decide (s ∈ doers)
theorem isDoer_of {k : Key} (h : isDoer k = true) : ∃ s, k = Sum.inr s ∧ s ∈ doers := by
  cases k with
  | inl i => cases h
  | inr s => exact ⟨s, rfl, of_decide_eq_true h⟩
theorem in_doers (k : Key) : inV (kV k) (doers.map V.str) = isDoer k := by
  cases k with
  | inl i => rfl
  | inr s =>
    have h : inV (kV (Sum.inr s : Key)) (doers.map V.str) = doers.any fun d => decide (d = s) := by
      show (doers.map V.str).any (fun y => eqV y (.str s)) = _
      rw [List.any_map]
      rfl
    rw [h, Bool.eq_iff_iff, List.any_eq_true]
    show _ ↔ decide (s ∈ doers) = true
    rw [decide_eq_true_iff]
    constructor
    · rintro ⟨d, hd, e⟩
      exact of_decide_eq_true e ▸ hd
    · intro hs
      exact ⟨s, hs, decide_eq_true rfl⟩
theorem flat_key (k : Key) : flatV (kV k) = true := by cases k <;> rfl
theorem flat_strs (l : List Str) : (l.map V.str).all flatV = true := by
  rw [List.all_map, List.all_eq_true]
  exact fun _ _ => rfl
theorem drop_at {α : Type} {l : List α} {i : Nat} {x : α} (h : l[i]? = some x) : l.drop i = x :: l.drop (i + 1) := by
  obtain ⟨hi, e⟩ := List.getElem?_eq_some_iff.mp h
  rw [List.drop_eq_getElem_cons hi, e]
def stV (st : List Int) : List V := st.reverse.map V.int
theorem stV_cons (v : Int) (st : List Int) : stV (v :: st) = stV st ++ [V.int v] := by
  unfold stV
  rw [List.reverse_cons, List.map_append]
  rfl
theorem stV_length (st : List Int) : (stV st).length = st.length := by
  unfold stV
  rw [List.length_map, List.length_reverse]
/-- what the top holds for terms -/
structure TopT (K : PySem.W.Frag) (mg : Str → Option Value) (CG CN : Addr) : Prop where
  G : ErrAt K mg "Great" CG
  N : ErrAt K mg "Nought" CN
  D : ∃ aD, mg "DOERS" = some (.ref aD) ∧ ∀ H : Hp, SqT K H aD (doers.map V.str)
  M : ∃ t, mg "MOST" = some (.int BIG t)
def errC (CG CN : Addr) : Why → Addr
  | .great => CG
  | _ => CN
section
variable {P : Program} {w : World} {K : PySem.W.Frag} {mg : Str → Option Value} {base : Heap}
def spReck (CG CN : Addr) : Sp := fun vs H Q E => ∃ (t d : Addr) (tm : Term) (σ : Slots), vs = [.ref t, .ref d] ∧ TermAt H t tm ∧ H d = some (.dK (skv σ)) ∧ wfT tm 0 ∧ tm.length ≤ 1000 ∧ slotsOk σ ∧ (∀ i H', worthT σ tm = .ok i → Same H H' → Q (.int i) H') ∧
  (∀ e H', worthT σ tm = .error e → Same H H' → E (.ref (errC CG CN e)) none H')
abbrev reckN : List Str := ["term", "slots", "parts", "part", "second", "worth"]
theorem scReck : FnScope reckN ["term", "slots"] (defScope sReck) := ⟨rfl, rfl, rfl, by decide +kernel, rfl, by decide +kernel, by decide +kernel⟩
theorem ok_reck {f fC fW CG CN : Addr} {fd fdC fdW : FuncData} (D : DefAt K mg "reckoned" sReck ["term", "slots"] f fd) (DC : DefAt K mg "comes_to" sComes ["word", "first", "second"] fC fdC) (DW : DefAt K mg "is_worth" sWorthy ["thing"] fW fdW) (B : Blt mg) (T : TopT K mg CG CN) :
    FnOk P w K mg base (L2.CX P w) 2 f fd ["term", "slots"] (spReck CG CN) := by
  obtain ⟨tM, hM⟩ := T.M
  obtain ⟨aD, mD, sD⟩ := T.D
  have GC : FnOk P w K mg base (L2.CX P w) 1 fC fdC ["word", "first", "second"] (spComes CN) := ok_comes DC B T.N
  have GW : FnOk P w K mg base CX0 1 fW fdW ["thing"] spWorthy := ok_worthy DW B hM
  refine D.F.okX scReck (fun vs H Q E h => ?_) (fun cdv A outer s H vs Q E hr h => ?_)
  · obtain ⟨t, d, tm, σ, rfl, _⟩ := h
    rfl
  obtain ⟨t, d, tm, σ, rfl, hT, hd, hw, hlen, hs, k, ke⟩ := h
  have nd := scReck.nd
  have hu := hu_of hr
  refine ⟨_, pss_cons (ps_set (i := 2) nd rfl (.inl rfl) (pe_lst pa_nil))
    (pss_cons (ps_for (passes_of rfl) rfl (pi_tup (pv 0)) (pg_name (i := 3) nd rfl (.inl rfl))
      (pss_one (ps_if (pt_cmpR op_in_seq (pv 3) (pe_glob (v := .ref aD) (by rfl) mD rfl) (by rfl))
        (pss_cons (ps_set (i := 4) nd rfl (.inl rfl) (pe_bm0 PySem.F.plainAttrs_list PySem.F.slot_list_pop PySem.F.type_list_pop mt_popL (pv 2)))
        (pss_cons (ps_set (i := 5) nd rfl (.inl rfl) (pe_callS GC hr rfl DC.m DC.F.kp DC.b (fun σ => passAt (takes_of rfl rfl rfl rfl) σ) (pa_cons (pv 3) (pa_cons (pe_bm0 PySem.F.plainAttrs_list PySem.F.slot_list_pop PySem.F.type_list_pop mt_popL (pv 2)) (pa_cons (pv 4) pa_nil)))))
        (pss_cons (ps_if (pt_not (pt_val (pe_call GW hr rfl DW.m DW.F.kp DW.b .nil pass0 (pa_cons (pv 5) pa_nil)))) (pss_one (ps_raise rfl (takes_of rfl rfl rfl rfl) (pmk_own PySem.F.excBase_ValueError T.G.ex T.G.g T.G.kp (raises_own T.G.sb T.G.ty) (by rfl)))) pss_nil)
        (pss_one (ps_expr (pe_bm PySem.F.plainAttrs_list PySem.F.slot_list_append PySem.F.type_list_append mt_append (pv 2) (pa_cons (pv 5) pa_nil)))))))
        (pss_one (ps_if (pt_val (pe_callB call_isi (by rfl) B.isinstance b_isi (pa_cons (pv 3) (pa_cons (pe_bltn (v := .ty "int") (by rfl) B.int b_int rfl) pa_nil))))
          (pss_one (ps_expr (pe_bm PySem.F.plainAttrs_list PySem.F.slot_list_append PySem.F.type_list_append mt_append (pv 2) (pa_cons (pv 3) pa_nil))))
          (pss_one (ps_expr (pe_bm PySem.F.plainAttrs_list PySem.F.slot_list_append PySem.F.type_list_append mt_append (pv 2) (pa_cons (pe_dget2 hu (pv 1) (pv 3) pe_int ⟨rfl, rfl, rfl, rfl⟩) pa_nil)))))))))
    (pss_one (ps_ret (pe_ix ix_list (pv 2) pe_int (fun _ _ => rfl))))), ?_⟩
  refine ⟨(by show 0 ≤ sizeLine; decide), fun p hp => ?_⟩
  refine ⟨_, rfl, t, rfl, ⟨_, SqT.of (sameN hp _ _ hT)⟩, for_tup (K := K) (a := t) (xs := tm.map kV) (fun i σ2 H2 => ∃ (st : List Int) (v3 v4 v5 : Option V), σ2 = [some (.ref t), some (.ref d), some (.ref p), v3, v4, v5] ∧
      H2 p = some (.lst (stV st)) ∧ evalT σ (tm.drop i) st = evalT σ tm [] ∧ wfT (tm.drop i) st.length ∧ (∀ v ∈ st, inR v) ∧ st.length ≤ i ∧ Same H H2)
    ⟨[], none, none, none, rfl, upd_same, by rw [List.drop_zero], by rw [List.drop_zero]; exact hw, (fun _ h => nomatch h), Nat.le_refl _, sameN hp⟩ (fun i σ2 H2 _ ⟨_, _, _, _, _, _, _, _, _, _, g⟩ => SqT.of (g _ _ hT)) ?_ ?_⟩
  · rintro i x σ2 H2 hi ⟨st, v3, v4, v5, rfl, hl, hev, hwf, hin, hil, g⟩
    have hi2 : i < tm.length := by
      have := (List.getElem?_eq_some_iff.mp hi).1
      rw [List.length_map] at this
      exact this
    obtain ⟨ky, hky, rfl⟩ : ∃ ky, tm[i]? = some ky ∧ x = kV ky := by
      rw [List.getElem?_map, List.getElem?_eq_getElem hi2] at hi
      exact ⟨_, List.getElem?_eq_getElem hi2, (Option.some.inj hi).symm⟩
    rw [drop_at hky] at hev hwf
    refine ⟨_, rfl, aD, _, rfl, .inr (sD _), flat_key ky, flat_strs doers, _, rfl, ?_⟩
    show if inV (kV ky) (doers.map V.str) = true then _ else _
    rw [in_doers]
    refine ite2 (fun hdo => ?_) (fun hno => ?_)
    · obtain ⟨sg, rfl, hmem⟩ := isDoer_of hdo
      obtain ⟨h2, hwf2⟩ : 2 ≤ st.length ∧ wfT (tm.drop (i + 1)) (st.length - 1) := by
        rcases hwf with ⟨_, a, b⟩ | ⟨a, _⟩
        · exact ⟨a, b⟩
        · exact absurd hmem a
      match st, h2, hl, hev, hwf2, hin, hil with
      | b :: a :: r, _, hl, hev, hwf2, hin, hil =>
        rw [stV_cons, stV_cons] at hl
        have ha : inR a := hin a (by simp)
        have hb : inR b := hin b (by simp)
        simp only [evalT, turnT, if_pos hmem] at hev
        refine ⟨_, rfl, .inl ⟨rfl, _, SqL.of hl⟩, p, _, _, rfl, rfl, hl, ?_⟩
        refine ⟨_, rfl, _, rfl, .inl ⟨rfl, _, SqL.of upd_same⟩, p, _, _, rfl, rfl, upd_same, _, rfl, ?_⟩
        rw [upd_upd]
        have hp0 : H p = none := hp
        have g2 : Same H (upd H2 p (.lst (stV r))) := sameU g hp0
        refine ⟨sg, a, b, rfl, ha, hb, fun v hv => ?_, fun e he hn => ?_⟩
        · refine ⟨_, rfl, v, rfl, _, rfl, ?_⟩
          have hw1 : worth1 sg a b = if inR v then .ok v else .error .great := by
            unfold worth1
            rw [hv]
          by_cases hvr : inR v
          · rw [if_pos hvr] at hw1
            rw [hw1] at hev
            refine ite2 (fun h => absurd h (by simp [hvr])) (fun _ => ?_)
            refine ⟨_, rfl, .inl ⟨rfl, _, SqL.of upd_same⟩, _, rfl, p, _, _, rfl, rfl, upd_same, small1000 (by rw [stV_length]; simp only [List.length_cons] at hil; omega), ?_⟩
            rw [upd_upd]
            refine ⟨v :: r, _, _, _, rfl, ?_, hev, hwf2, fun y hy => ?_, by simp only [List.length_cons] at hil ⊢; omega, sameU g hp0⟩
            · rw [upd_same, stV_cons]
            · rcases List.mem_cons.mp hy with z | z
              · rw [z]; exact hvr
              · exact hin y (by simp [z])
          · rw [if_neg hvr] at hw1
            rw [hw1] at hev
            refine ite2 (fun _ => ?_) (fun h => absurd (show (!decide (inR v)) = true by simp [hvr]) h)
            exact ke .great _ (by unfold worthT; rw [← hev]) g2
        · subst hn
          have hw1 : worth1 sg a b = .error .nought := by
            unfold worth1
            rw [he]
          rw [hw1] at hev
          exact ke .nought _ (by unfold worthT; rw [← hev]) g2
    · cases ky with
      | inl n =>
        refine ⟨_, rfl, _, _, _, _, true, rfl, .ty "int", .base (.int n), kit_ty (by decide +kernel), _, rfl, iteT ?_⟩
        refine ⟨_, rfl, .inl ⟨rfl, _, SqL.of hl⟩, _, rfl, p, _, _, rfl, rfl, hl, small1000 (by rw [stV_length]; omega), ?_⟩
        refine ⟨n :: st, _, _, _, rfl, ?_, hev, hwf.2, fun y hy => ?_, by simp only [List.length_cons]; omega, sameU g hp⟩
        · rw [upd_same, stV_cons]
          rfl
        · rcases List.mem_cons.mp hy with z | z
          · rw [z]; exact hwf.1
          · exact hin y z
      | inr sg =>
        have hmem : sg ∉ doers := fun h => hno (decide_eq_true h)
        have hwf2 : wfT (tm.drop (i + 1)) (st.length + 1) := by
          rcases hwf with ⟨a, _⟩ | ⟨_, b⟩
          · exact absurd a hmem
          · exact b
        simp only [evalT, turnT, if_neg hmem] at hev
        have hd2 := g _ _ hd
        refine ⟨_, rfl, _, _, _, _, false, rfl, .ty "int", .base (.str sg), kit_ty (by decide +kernel), _, rfl, iteF ?_⟩
        refine ⟨_, rfl, .inl ⟨rfl, _, SqL.of hl⟩, _, rfl, d, rfl, .inl ⟨_, .inl hd2⟩, _, rfl, _, DGet.k (k := Sum.inr sg) hd2, p, _, _, rfl, rfl, hl, small1000 (by rw [stV_length]; omega), ?_⟩
        refine ⟨slotOf σ sg :: st, _, _, _, rfl, ?_, hev, hwf2, fun y hy => ?_, by simp only [List.length_cons]; omega, sameU g hp⟩
        · rw [upd_same, stV_cons, valV_s]
          unfold slotOf
          cases aGet σ sg <;> rfl
        · rcases List.mem_cons.mp hy with z | z
          · rw [z]; exact slotOf_in hs sg
          · exact hin y z
  · rintro σ2 H2 ⟨st, v3, v4, v5, rfl, hl, hev, hwf, hin, hil, g⟩
    rw [List.length_map, List.drop_length] at hev hwf
    have h1 : st.length = 1 := hwf
    match st, h1, hl, hev with
    | [v], _, hl, hev =>
      refine ⟨_, rfl, p, _, _, _, rfl, rfl, SqL.of hl, (rfl : atI (stV [v]) (0 : Int) = some (V.int v)), ?_⟩
      exact k v H2 (by unfold worthT; rw [← hev]; rfl) g
end
end FR

/-! FRP: stands, laid_on. -/
namespace FR
open PySem L2
/-! ### == and != of lists and tuples that are alike -/
open PySem.SeqAt in
theorem eq_alike_tup {A : Around} {s : Shared} {a b : Value} {xs ys : List PyData} {as bs : List Addr} (ra : Reads s.heap a (.tuple xs) as) (rb : Reads s.heap b (.tuple ys) bs) (h : PySem.W.alikeAll xs ys = true) (hu : A.units + 64 < cLine) (hd : PyData.depthAll xs ≤ 60) :
    RcAt A s a b (PyData.eqvAll xs ys) ∧ RcNeAt A s a b (!PyData.eqvAll xs ys) := by
  cases ra with
  | @tuple l o vs n _ as₁ h1 h2 h3 h4 =>
    cases rb with
    | @tuple l' o' vs' n' _ bs₁ k1 k2 k3 k4 =>
      have n1 : vs.size = xs.length := by simpa using ReadsAll.length _ _ _ h4
      have n2 : vs'.size = ys.length := by simpa using ReadsAll.length _ _ _ k4
      have he : ∀ j (j1 : j < vs.size) (j2 : j < vs'.size), EqAt A.in1 s vs[j] vs'[j] (pairEq xs ys j) := by
        intro j j1 j2
        have q := PySem.W.eqAt_alikeAll xs ys A.in1 s vs.toList vs'.toList _ _ h4 k4 h (by show A.units + 1 + _ < cLine; omega) j (by simpa using j1) (by simpa using j2)
        simpa using q
      rw [← eqvAll_eq xs ys, ← n1, ← n2]
      exact ⟨RcAt.tuples ⟨_, h1, h2, _, h3⟩ ⟨_, k1, k2, _, k3⟩ (by omega) he, RcNeAt.tuples ⟨_, h1, h2, _, h3⟩ ⟨_, k1, k2, _, k3⟩ (by omega) he⟩
open PySem.SeqAt in
theorem eq_alike_lst {A : Around} {s : Shared} {a b : Value} {xs ys : List PyData} {as bs : List Addr} (ra : Reads s.heap a (.list xs) as) (rb : Reads s.heap b (.list ys) bs) (hl : xs.length = ys.length) (h : PySem.W.alikeAll xs ys = true) (hu : A.units + 64 < cLine) (hd : PyData.depthAll xs ≤ 60) :
    RcAt A s a b (PyData.eqvAll xs ys) ∧ RcNeAt A s a b (!PyData.eqvAll xs ys) := by
  cases ra with
  | @list l o vs n _ as₁ h1 h2 h3 h4 =>
    cases rb with
    | @list l' o' vs' n' _ bs₁ k1 k2 k3 k4 =>
      have n1 : vs.size = xs.length := by simpa using ReadsAll.length _ _ _ h4
      have n2 : vs'.size = ys.length := by simpa using ReadsAll.length _ _ _ k4
      have he : ∀ j (j1 : j < vs.size) (j2 : j < vs'.size), EqAt A.in1 s vs[j] vs'[j] (pairEq xs ys j) := by
        intro j j1 j2
        have q := PySem.W.eqAt_alikeAll xs ys A.in1 s vs.toList vs'.toList _ _ h4 k4 h (by show A.units + 1 + _ < cLine; omega) j (by simpa using j1) (by simpa using j2)
        simpa using q
      have hsz : vs.size = vs'.size := by omega
      rw [← eqvAll_same_length hl, ← n1]
      exact ⟨RcAt.lists ⟨_, h1, h2, _, h3⟩ ⟨_, k1, k2, _, k3⟩ hsz (by omega) he, RcNeAt.lists ⟨_, h1, h2, _, h3⟩ ⟨_, k1, k2, _, k3⟩ hsz (by omega) he⟩
section
variable {X : Cx}
/-- two tuples -/
theorem op_eqTup (hu : X.A.units + 64 < cLine) : OpR X (compareOp .Eq) (fun x y H Q => ∃ ds es, At H x (.tuple ds) ∧ At H y (.tuple es) ∧ PySem.W.alikeAll ds es = true ∧ PyData.depthAll ds ≤ 60 ∧ Q (.bl (PyData.eqvAll ds es)) H) := by
  intro pins s σ H x y v u Q I rx ry ⟨ds, es, hx, hy, ha, hd, q⟩
  obtain ⟨as, r1⟩ := Dp.reads I _ x v (At.dp _ _ hx) rx
  obtain ⟨bs, r2⟩ := Dp.reads I _ y u (At.dp _ _ hy) ry
  exact (eq_alike_tup r1 r2 ha hu hd).1 X.prog X.w _ _ ⟨.bl _, H, I, rfl, q⟩
theorem op_neTup (hu : X.A.units + 64 < cLine) : OpR X (compareOp .NotEq) (fun x y H Q => ∃ ds es, At H x (.tuple ds) ∧ At H y (.tuple es) ∧ PySem.W.alikeAll ds es = true ∧ PyData.depthAll ds ≤ 60 ∧ Q (.bl (!PyData.eqvAll ds es)) H) := by
  intro pins s σ H x y v u Q I rx ry ⟨ds, es, hx, hy, ha, hd, q⟩
  obtain ⟨as, r1⟩ := Dp.reads I _ x v (At.dp _ _ hx) rx
  obtain ⟨bs, r2⟩ := Dp.reads I _ y u (At.dp _ _ hy) ry
  exact (eq_alike_tup r1 r2 ha hu hd).2 X.prog X.w _ _ ⟨.bl _, H, I, rfl, q⟩
/-- two lists of one length -/
theorem op_neLst (hu : X.A.units + 64 < cLine) : OpR X (compareOp .NotEq) (fun x y H Q => ∃ ds es, At H x (.list ds) ∧ At H y (.list es) ∧ ds.length = es.length ∧ PySem.W.alikeAll ds es = true ∧ PyData.depthAll ds ≤ 60 ∧ Q (.bl (!PyData.eqvAll ds es)) H) := by
  intro pins s σ H x y v u Q I rx ry ⟨ds, es, hx, hy, hl, ha, hd, q⟩
  obtain ⟨as, r1⟩ := Dp.reads I _ x v (At.dp _ _ hx) rx
  obtain ⟨bs, r2⟩ := Dp.reads I _ y u (At.dp _ _ hy) ry
  exact (eq_alike_lst r1 r2 hl ha hu hd).2 X.prog X.w _ _ ⟨.bl _, H, I, rfl, q⟩
end
mutual
theorem At.alike {H : Hp} : ∀ (d : PyData) (v : V), At H v d → PySem.W.alike d d = true
  | .int _, _, _ => by simp [PySem.W.alike]
  | .str _, _, _ => by simp [PySem.W.alike]
  | .list ds, _, h => by
    cases h with
    | lst e q => simpa [PySem.W.alike] using AtAll.alike ds _ q
  | .tuple ds, _, h => by
    cases h with
    | tup e q => simpa [PySem.W.alike] using AtAll.alike ds _ q
  | .none, _, h => by cases h
  | .bool _, _, h => by cases h
  | .dict _, _, h => by cases h
theorem AtAll.alike {H : Hp} : ∀ (ds : List PyData) (vs : List V), AtAll H vs ds → PySem.W.alikeAll ds ds = true
  | [], _, _ => by simp [PySem.W.alikeAll]
  | d :: ds, _, h => by
    cases h with
    | cons q r =>
      simp only [PySem.W.alikeAll, Bool.and_eq_true]
      exact ⟨At.alike d _ q, AtAll.alike ds _ r⟩
end
theorem alike_pl (p q : Place) : PySem.W.alikeAll [.str p.1, .int p.2] [.str q.1, .int q.2] = true := by simp [PySem.W.alikeAll, PySem.W.alike]
theorem eqv_pl (p q : Place) : PyData.eqvAll [.str p.1, .int p.2] [.str q.1, .int q.2] = decide (p = q) := by
  obtain ⟨a, b⟩ := p
  obtain ⟨c, d⟩ := q
  have e1 : (a == c) = decide (a = c) := by
    rw [Bool.eq_iff_iff]
    simp
  have e2 : (b == d) = decide (b = d) := by
    rw [Bool.eq_iff_iff]
    simp
  simp [PyData.eqv, PyData.eqvAll, e1, e2]
theorem ens_at {H : Hp} {es : List Addr} {T : Tab} (h : Paired (EnAt H) es T) {i : Nat} {v : V} (hi : (es.map V.ref)[i]? = some v) : ∃ (e : Addr) (p : Place × Int), v = .ref e ∧ T[i]? = some p ∧ EnAt H e p := by
  rw [List.getElem?_map] at hi
  cases he : es[i]? with
  | none => rw [he] at hi; cases hi
  | some e =>
    rw [he] at hi
    obtain ⟨p, h1, h2⟩ := L2.paired_get h he
    exact ⟨e, p, (Option.some.inj hi).symm, h1, h2⟩
theorem aGet_cons (p : Place × Int) (T : Tab) (a : Place) : aGet (p :: T) a = if p.1 = a then some p.2 else aGet T a := rfl
section
variable {P : Program} {w : World} {K : PySem.W.Frag} {mg : Str → Option Value} {base : Heap}
/-! ### stands -/
def spStands : Sp := fun vs H Q _ => ∃ (a q : Addr) (T : Tab) (p : Place), vs = [.ref a, .ref q] ∧ TbAt H a T ∧ PlAt H q p ∧ Q (.int ((aGet T p).getD 0)) H
theorem scStands : FnScope ["table", "place", "one", "worth"] ["table", "place"] (defScope sStands) := ⟨rfl, rfl, rfl, by decide +kernel, rfl, by decide +kernel, by decide +kernel⟩
theorem ok_stands {f : Addr} {fd : FuncData} (D : DefAt K mg "stands" sStands ["table", "place"] f fd) : FnOk P w K mg base CX0 1 f fd ["table", "place"] spStands := by
  refine D.F.ok scStands (fun vs H Q E h => ?_) (fun cdv A outer s H vs Q E hr h => ?_)
  · obtain ⟨a, q, T, p, rfl, _⟩ := h
    rfl
  obtain ⟨a, q, T, p, rfl, ⟨es, ha, hes⟩, hq, k⟩ := h
  have nd := scStands.nd
  refine ⟨_, pss_cons (ps_for PassesOwn.never rfl (pi_list (pv 0)) (pg_tup rfl (pgs_cons (pg_name (i := 2) nd rfl (.inl rfl)) (pgs_cons (pg_name (i := 3) nd rfl (.inl rfl)) pgs_nil)))
      (pss_one (ps_if (pt_cmpR (op_eqTup hr.units) (pv 2) (pv 1) (nomark _)) (pss_one (ps_ret (pv 3))) pss_nil)))
    (pss_one (ps_ret pe_int)), ?_⟩
  refine ⟨_, rfl, a, rfl, ⟨_, SqL.of ha⟩, for_list (K := K) (a := a) (xs := es.map V.ref) (fun i σ H2 => ∃ (v2 v3 : Option V), σ = [some (.ref a), some (.ref q), v2, v3] ∧ H = H2 ∧ aGet (T.drop i) p = aGet T p)
    ⟨none, none, rfl, rfl, by rw [List.drop_zero]⟩ (fun i σ H2 _ ⟨_, _, _, e, _⟩ => e ▸ SqL.of ha) ?_ ?_⟩
  · rintro i x σ H2 hi ⟨v2, v3, rfl, rfl, hg⟩
    obtain ⟨e, pw, rfl, hT, qe, he1, he2⟩ := ens_at hes hi
    rw [drop_at hT, aGet_cons] at hg
    refine ⟨e, _, rfl, SqT.of he1, rfl, _, _, rfl, _, _, rfl, rfl, ?_⟩
    refine ⟨_, rfl, _, rfl, _, _, at_pl he2, at_pl hq, alike_pl _ _, (by simp [PyData.depthAll, PyData.depth]), _, rfl, ?_⟩
    rw [eqv_pl]
    refine iteD (fun c => ?_) (fun c => ?_)
    · rw [if_pos c] at hg
      refine ⟨_, rfl, ?_⟩
      rw [← hg] at k
      exact k
    · rw [if_neg c] at hg
      exact ⟨_, _, rfl, rfl, hg⟩
  · rintro σ H2 ⟨v2, v3, rfl, rfl, hg⟩
    have hl : (es.map V.ref).length = T.length := by rw [List.length_map]; exact Paired.length hes
    rw [hl, List.drop_length] at hg
    rw [← hg] at k
    exact k
end
end FR

/-! FRQ: laid_on. -/
namespace FR
open PySem L2
def nz (T : Tab) : Tab := T.filter fun p => decide (p.2 ≠ 0)
theorem nz_ok {T : Tab} (h : TabOk T) : TabOk (nz T) := by
  refine ⟨?_, fun p hp => h.2 p (List.mem_filter.mp hp).1⟩
  exact List.Nodup.sublist (List.Sublist.map (fun p : Place × Int => p.1) (List.filter_sublist (p := fun p : Place × Int => decide (p.2 ≠ 0)) (l := T))) h.1
theorem nz_length (T : Tab) : (nz T).length ≤ T.length := List.length_filter_le _ _
theorem small1000' {n : Nat} (h : n ≤ 10000) : n < sizeLine := Nat.lt_of_le_of_lt h (by decide)
theorem take_at {α : Type} {l : List α} {i : Nat} {x : α} (h : l[i]? = some x) : l.take (i + 1) = l.take i ++ [x] := by
  rw [List.take_add_one, h]
  rfl
theorem nz_snoc (T : Tab) (p : Place × Int) : nz (T ++ [p]) = if p.2 ≠ 0 then nz T ++ [p] else nz T := by
  unfold nz
  rw [List.filter_append]
  by_cases h : p.2 = 0
  · simp [h]
  · simp [h]
theorem aGet_at {T : Tab} (hn : (keysOf T).Nodup) {i : Nat} {p : Place × Int} (h : T[i]? = some p) : aGet T p.1 = some p.2 := by
  induction T generalizing i with
  | nil => simp at h
  | cons q T ih =>
    have hn' : q.1 ∉ keysOf T ∧ (keysOf T).Nodup := List.nodup_cons.mp hn
    cases i with
    | zero =>
      have e : q = p := Option.some.inj h
      rw [e, aGet_cons, if_pos rfl]
    | succ i =>
      have h' : T[i]? = some p := by simpa using h
      have hm : p.1 ∈ keysOf T := List.mem_map.mpr ⟨p, List.mem_of_getElem? h', rfl⟩
      rw [aGet_cons, if_neg (fun e => hn'.1 (by rw [e]; exact hm))]
      exact ih hn'.2 h'
theorem tkv_at {T : Tab} {i : Nat} {k : List Key} {v : V} (h : (tkv T)[i]? = some (k, v)) : ∃ p, T[i]? = some p ∧ k = pk p.1 ∧ v = .int p.2 := by
  unfold tkv at h
  rw [List.getElem?_map] at h
  cases e : T[i]? with
  | none => rw [e] at h; cases h
  | some p =>
    rw [e] at h
    have e2 := Option.some.inj h
    exact ⟨p, rfl, (congrArg Prod.fst e2).symm, (congrArg Prod.snd e2).symm⟩
theorem paired_snoc {α β : Type} {F : α → β → Prop} : ∀ {as : List α} {bs : List β} {a : α} {b : β}, Paired F as bs → F a b → Paired F (as ++ [a]) (bs ++ [b])
  | _, _, _, _, .nil, h => .cons h .nil
  | _, _, _, _, .cons q r, h => .cons q (paired_snoc r h)
/-- an item of a dict that is locked -/
theorem dget_frz {H : Hp} {d q : Addr} {od : Obj} {W : Tab} {p : Place} {w : Int} (h : H d = some (.frz od (.dT (tkv W)))) (hq : PlAt H q p) (hg : aGet W p = some w) : DGet H d (.ref q) (some (.int w)) :=
  .inr ⟨tkv W, pk p, q, .inr ⟨od, h⟩, rfl, hq, by rw [valV_t, hg]; rfl⟩
section
variable {P : Program} {w : World} {K : PySem.W.Frag} {mg : Str → Option Value} {base : Heap}
def spLaid : Sp := fun vs H Q _ => ∃ (a b : Addr) (T G : Tab), vs = [.ref a, .ref b] ∧ TbAt H a T ∧ TbAt H b G ∧ T.length + G.length ≤ 5000 ∧ (keysOf T).Nodup ∧ ∀ (l : Addr) (H' : Hp), TbAt H' l (sortE (nz (aMerge T G))) → Same H H' → Q (.ref l) H'
abbrev laidN : List Str := ["table", "gifts", "worths", "place", "worth"]
theorem scLaid : FnScope laidN ["table", "gifts"] (defScope sLaid) := ⟨rfl, rfl, rfl, by decide +kernel, rfl, by decide +kernel, by decide +kernel⟩
theorem ok_laid {f : Addr} {fd : FuncData} (D : DefAt K mg "laid_on" sLaid ["table", "gifts"] f fd) (B : Blt mg) : FnOk P w K mg base CX0 1 f fd ["table", "gifts"] spLaid := by
  refine D.F.ok scLaid (fun vs H Q E h => ?_) (fun cdv A outer s H vs Q E hr h => ?_)
  · obtain ⟨a, b, T, G, rfl, _⟩ := h
    rfl
  obtain ⟨a, b, T, G, rfl, hT, hG, hlen, hnd, k⟩ := h
  have nd := scLaid.nd
  have hu := hu_of hr
  refine ⟨_, pss_cons (ps_set (i := 2) nd rfl (.inr rfl) pe_dnewT)
    (pss_cons (ps_for PassesOwn.never rfl (pi_list (pv 0)) (pg_tup rfl (pgs_cons (pg_name (i := 3) nd rfl (.inl rfl)) (pgs_cons (pg_name (i := 4) nd rfl (.inl rfl)) pgs_nil))) (pss_one (ps_dput hu (pv 2) (pv 3) (pv 4) rfl)))
    (pss_cons (ps_for PassesOwn.never rfl (pi_list (pv 1)) (pg_tup rfl (pgs_cons (pg_name (i := 3) nd rfl (.inl rfl)) (pgs_cons (pg_name (i := 4) nd rfl (.inl rfl)) pgs_nil))) (pss_one (ps_dput hu (pv 2) (pv 3) (pv 4) rfl)))
    (pss_one (ps_ret (pe_callB (cr_sortE hr.units) (by rfl) B.sorted (by decide +kernel) (pa_cons (pe_lock (pe_lc (own := [("place", 3)]) (g := gName 3) (tt := tTest (tOp rNe (tDGet (tVar 2) (tVar 3)) (tC (.int 0)))) rfl nd (pi_keys (pv 2)) (blkOk_by (N := laidN) (sc := defScope sLaid) (by decide +kernel))
      (fun _ _ _ _ _ => pg_name (i := 3) nd rfl (Or.inl rfl)) (fun _ _ _ _ _ => pts_one (pt_cmpR op_ne (pe_dget hu (pv 2) (pv 3) (fun _ _ => rfl)) pe_int (nomark _)))
      (fun _ _ _ _ _ => pe_tup (pa_cons (pv 3) (pa_cons (pe_dget hu (pv 2) (pv 3) (fun _ _ => rfl)) pa_nil))))) pa_nil)))))), ?_⟩
  intro d hd
  obtain ⟨es, ha, hes⟩ := id hT
  obtain ⟨gs, hb, hgs⟩ := id hG
  have lT : (es.map V.ref).length = T.length := by rw [List.length_map]; exact Paired.length hes
  have lG : (gs.map V.ref).length = G.length := by rw [List.length_map]; exact Paired.length hgs
  -- the table's entries
  refine ⟨_, rfl, a, rfl, ⟨_, SqL.of (sameN hd _ _ ha)⟩, for_list (K := K) (a := a) (xs := es.map V.ref) (fun i σ H2 => ∃ (v3 v4 : Option V) (W : Tab), σ = [some (.ref a), some (.ref b), some (.ref d), v3, v4] ∧ H2 d = some (.dT (tkv W)) ∧ W = aMerge [] (T.take i) ∧ (keysOf W).Nodup ∧ W.length ≤ i ∧ Same H H2)
    ⟨none, none, [], rfl, upd_same, rfl, List.nodup_nil, Nat.le_refl _, sameN hd⟩ (fun i σ H2 _ ⟨_, _, _, _, _, _, _, _, g⟩ => SqL.of (g _ _ ha)) ?_ ?_⟩
  · rintro i x σ H2 hi ⟨v3, v4, W, rfl, hW, eW, nW, lW, g⟩
    obtain ⟨e, pw, rfl, hTi, qe, he1, he2⟩ := ens_at hes hi
    have hil := (List.getElem?_eq_some_iff.mp hi).1
    refine ⟨e, _, rfl, SqT.of (g _ _ he1), rfl, _, _, rfl, _, _, rfl, rfl, ?_⟩
    refine ⟨_, rfl, _, rfl, _, rfl, d, _, rfl, DPut.t (k := pk pw.1) hW (g _ _ he2) (by rw [tkv_length]; exact small1000' (by omega)), ?_⟩
    refine ⟨_, _, aPut W pw.1 pw.2, rfl, ?_, ?_, nodup_put nW _ _, Nat.le_trans (length_put _ _ _) (by omega), sameU g hd⟩
    · rw [upd_same, putK_t nW]
    · rw [take_at hTi, merge_snoc, ← eW]
  rintro σ H2 ⟨v3, v4, W, rfl, hW, eW, nW, lW, g⟩
  rw [lT, List.take_length, merge_empty hnd] at eW
  subst eW
  -- the gifts
  refine ⟨_, rfl, b, rfl, ⟨_, SqL.of (g _ _ hb)⟩, for_list (K := K) (a := b) (xs := gs.map V.ref) (fun i σ H2 => ∃ (v3 v4 : Option V) (W' : Tab), σ = [some (.ref a), some (.ref b), some (.ref d), v3, v4] ∧ H2 d = some (.dT (tkv W')) ∧ W' = aMerge W (G.take i) ∧ (keysOf W').Nodup ∧ W'.length ≤ W.length + i ∧ Same H H2)
    ⟨_, _, W, rfl, hW, rfl, nW, Nat.le_refl _, g⟩ (fun i σ H2 _ ⟨_, _, _, _, _, _, _, _, g⟩ => SqL.of (g _ _ hb)) ?_ ?_⟩
  · rintro i x σ H2 hi ⟨v3, v4, W', rfl, hW', eW', nW', lW', g⟩
    obtain ⟨e, pw, rfl, hTi, qe, he1, he2⟩ := ens_at hgs hi
    have hil := (List.getElem?_eq_some_iff.mp hi).1
    refine ⟨e, _, rfl, SqT.of (g _ _ he1), rfl, _, _, rfl, _, _, rfl, rfl, ?_⟩
    refine ⟨_, rfl, _, rfl, _, rfl, d, _, rfl, DPut.t (k := pk pw.1) hW' (g _ _ he2) (by rw [tkv_length]; exact small1000' (by omega)), ?_⟩
    refine ⟨_, _, aPut W' pw.1 pw.2, rfl, ?_, ?_, nodup_put nW' _ _, Nat.le_trans (length_put _ _ _) (by omega), sameU g hd⟩
    · rw [upd_same, putK_t nW']
    · rw [take_at hTi, merge_snoc, ← eW']
  rintro σ H2 ⟨v3, v4, W', rfl, hW', eW', nW', lW', g⟩
  rw [lG, List.take_length] at eW'
  -- the comprehension
  refine ⟨d, _, hW', trivial, fun od => ?_⟩
  refine ⟨_, rfl, d, od, rfl, .inr ⟨_, upd_same, fun Dd nD => ?_⟩⟩
  have ndD : d ≠ Dd := fun e => by rw [← e, upd_same] at nD; cases nD
  have nD2 : H2 Dd = none := by rw [upd_ne ndD.symm] at nD; exact nD
  have nD0 : H Dd = none := g.free nD2
  refine lc_it walk_keysT (fun i H3 => ∃ as : List Addr, H3 d = some (.frz od (.dT (tkv W'))) ∧ H3 Dd = some (.lst (as.map V.ref)) ∧ Paired (EnAt H3) as (nz (W'.take i)) ∧ (∀ x o, H2 x = some o → x ≠ d → H3 x = some o))
    ⟨[], (sameN nD) _ _ upd_same, upd_same, .nil, fun x o hx hxd => sameN nD _ _ ((upd_ne hxd).trans hx)⟩ (fun i H3 _ ⟨_, h, _⟩ => h) ?_ ?_
  · rintro i x H3 H3' hi ⟨as, hf, hDl, hP, kp⟩ ⟨rfl, kk, v, q, hkv, rfl, hq⟩
    obtain ⟨pw, hWi, rfl, rfl⟩ := tkv_at hkv
    have hq' : PlAt H3' q pw.1 := hq
    have hg := aGet_at nW' hWi
    have hget := dget_frz (H := H3') hf hq' hg
    have hla : as.length ≤ i := by
      rw [Paired.length hP]
      exact Nat.le_trans (nz_length _) (by rw [List.length_take]; omega)
    rw [tkv_length] at hi
    refine ⟨rfl, ?_⟩
    refine ⟨_, rfl, _, rfl, d, _, rfl, hget, rfl, _, rfl, ?_⟩
    refine ite2 (fun c => ?_) (fun c => ?_)
    · have c0 : pw.2 ≠ 0 := fun e => by
        rw [e] at c
        exact absurd c (by decide)
      refine ⟨_, rfl, _, rfl, _, rfl, d, _, rfl, hget, (by show 2 ≤ sizeLine; decide), fun tp htp => ?_⟩
      have g3 : Same H3' (upd H3' tp (.tup [.ref q, .int pw.2])) := sameN htp
      refine ⟨as.map V.ref, g3 _ _ hDl, small1000' (by rw [List.length_map]; omega), ?_⟩
      have nDd : d ≠ Dd := ndD
      refine ⟨as ++ [tp], (upd_ne nDd).trans (g3 _ _ hf), by rw [upd_same, List.map_append]; rfl, ?_, fun x o hx hxd => ?_⟩
      · rw [take_at hWi, nz_snoc, if_pos c0]
        have nt : tp ≠ Dd := fun e => by rw [e, hDl] at htp; cases htp
        have g4 : ∀ (y : Addr) (vs : List V), H3' y = some (.tup vs) → (upd (upd H3' tp (.tup [.ref q, .int pw.2])) Dd (.lst (as.map V.ref ++ [V.ref tp]))) y = some (.tup vs) := fun y vs hy => by
          have h1 : y ≠ Dd := fun e => by rw [e, hDl] at hy; cases hy
          rw [upd_ne h1]
          exact g3 _ _ hy
        refine paired_snoc (L2.Paired.mapP hP fun a b ⟨q', z1, z2⟩ => ⟨q', g4 _ _ z1, g4 _ _ z2⟩) ⟨q, (upd_ne nt).trans upd_same, g4 _ _ hq'⟩
      · have h1 : x ≠ Dd := ne_of_none hx nD2
        rw [upd_ne h1]
        exact g3 _ _ (kp x o hx hxd)
    · have c0 : pw.2 = 0 := Classical.not_not.mp fun e => c (by
        show (!decide (V.int pw.2 = V.int 0)) = true
        rw [decide_eq_false (fun z => e (V.int.inj z))]
        rfl)
      refine ⟨as, hf, hDl, ?_, kp⟩
      rw [take_at hWi, nz_snoc, if_neg (fun z => z c0)]
      exact hP
  · rintro H3 ⟨as, hf, hDl, hP, kp⟩
    rw [tkv_length, List.take_length] at hP
    refine ⟨hf, Dd, nz W', rfl, ⟨as, (upd_ne ndD.symm).trans hDl, L2.Paired.mapP hP fun a b ⟨q', z1, z2⟩ => ⟨q', ?_, ?_⟩⟩, fun l H4 _ g4 hl => ?_⟩
    · exact (upd_ne (ne_of z1 hf (fun z => nomatch z))).trans z1
    · exact (upd_ne (ne_of z2 hf (fun z => nomatch z))).trans z2
    · rw [eW'] at hl
      refine k l H4 hl fun x o hx => g4 _ _ ?_
      have hxd : x ≠ d := ne_of_none hx hd
      rw [upd_ne hxd]
      exact kp x o (g _ _ hx) hxd
end
end FR

/-! FRR: a dealing that is being done; one_row. -/
namespace FR
open PySem L2
def doF (g s f l : Addr) : List (Str × V) := putF "sayings" (.ref l) (putF "gifts" (.ref f) (putF "slots" (.ref s) (putF "ground" (.ref g) [])))
theorem ne_flds : ("ground" : Str) ≠ "slots" ∧ ("ground" : Str) ≠ "gifts" ∧ ("ground" : Str) ≠ "sayings" ∧ ("slots" : Str) ≠ "gifts" ∧ ("slots" : Str) ≠ "sayings" ∧ ("gifts" : Str) ≠ "sayings" := by decide +kernel
theorem doF_g (g s f l : Addr) : (doF g s f l).lookup ("ground" : Str) = some (.ref g) := by
  obtain ⟨n1, n2, n3, n4, n5, n6⟩ := ne_flds
  unfold doF
  rw [lookup_putF, if_neg n3, lookup_putF, if_neg n2, lookup_putF, if_neg n1, lookup_putF, if_pos rfl]
theorem doF_s (g s f l : Addr) : (doF g s f l).lookup ("slots" : Str) = some (.ref s) := by
  obtain ⟨n1, n2, n3, n4, n5, n6⟩ := ne_flds
  unfold doF
  rw [lookup_putF, if_neg n5, lookup_putF, if_neg n4, lookup_putF, if_pos rfl]
theorem doF_f (g s f l : Addr) : (doF g s f l).lookup ("gifts" : Str) = some (.ref f) := by
  obtain ⟨n1, n2, n3, n4, n5, n6⟩ := ne_flds
  unfold doF
  rw [lookup_putF, if_neg n6, lookup_putF, if_pos rfl]
theorem doF_l (g s f l : Addr) : (doF g s f l).lookup ("sayings" : Str) = some (.ref l) := by
  unfold doF
  rw [lookup_putF, if_pos rfl]
/-- a Doing stands at x: its ground at g, its slots at s, its gifts at f, its sayings at l -/
structure DoAt (C : Addr) (H : Hp) (x g s f l : Addr) (T : Tab) (st : DSt) : Prop where
  ob : ∃ dx, H x = some (.ins C dx (doF g s f l))
  gr : TbAt H g T
  sl : H s = some (.dK (skv st.slots))
  gi : H f = some (.dT (tkv st.gifts))
  sa : H l = some (.lst (st.said.map V.int))
  gl : g ≠ l
structure DoT (K : PySem.W.Frag) (mg : Str → Option Value) (C : Addr) : Prop where
  cl : Cls K C
  nG : NoAttr K C "ground"
  nS : NoAttr K C "slots"
  nF : NoAttr K C "gifts"
  nL : NoAttr K C "sayings"
  mg : mg "Doing" = some (.ref C)
theorem DoAt.same {C : Addr} {H H' : Hp} {x g s f l : Addr} {T : Tab} {st : DSt} (d : DoAt C H x g s f l T st) (h : Same H H') : DoAt C H' x g s f l T st :=
  ⟨let ⟨dx, e⟩ := d.ob; ⟨dx, h _ _ e⟩, d.gr.same h, h _ _ d.sl, h _ _ d.gi, h _ _ d.sa, d.gl⟩
/-- tables stay where a thing that is no part of them is written -/
theorem TbAt.upd {H : Hp} {a y : Addr} {T : Tab} {o : HO} (h : TbAt H a T) (hy : y ≠ a) (ht : ∀ xs, H y ≠ some (.tup xs)) : TbAt (L2.upd H y o) a T := by
  obtain ⟨es, h1, h2⟩ := h
  have k : ∀ (b : Addr) (xs : List V), H b = some (.tup xs) → L2.upd H y o b = some (.tup xs) := fun b xs e => by
    have hby : b ≠ y := fun z => ht xs (by rw [← z]; exact e)
    rw [upd_ne hby]
    exact e
  exact ⟨es, (upd_ne hy.symm).trans h1, L2.Paired.mapP h2 fun a b ⟨q, z1, z2⟩ => ⟨q, k _ _ z1, k _ _ z2⟩⟩
section
variable {C : Addr} {H : Hp} {x g s f l : Addr} {T : Tab} {st : DSt}
theorem DoAt.putSlot (d : DoAt C H x g s f l T st) (σ : Slots) : DoAt C (L2.upd H s (.dK (skv σ))) x g s f l T { st with slots := σ } := by
  obtain ⟨dx, e⟩ := d.ob
  obtain ⟨es, h1, h2⟩ := id d.gr
  refine ⟨⟨dx, (upd_ne (ne_of e d.sl (fun z => nomatch z))).trans e⟩, d.gr.upd (ne_of d.sl h1 (fun z => nomatch z)) (fun xs z => by rw [d.sl] at z; cases z), upd_same, (upd_ne (ne_of d.gi d.sl (fun z => nomatch z))).trans d.gi, (upd_ne (ne_of d.sa d.sl (fun z => nomatch z))).trans d.sa, d.gl⟩
theorem DoAt.putGift (d : DoAt C H x g s f l T st) (G : Tab) : DoAt C (L2.upd H f (.dT (tkv G))) x g s f l T { st with gifts := G } := by
  obtain ⟨dx, e⟩ := d.ob
  obtain ⟨es, h1, h2⟩ := id d.gr
  refine ⟨⟨dx, (upd_ne (ne_of e d.gi (fun z => nomatch z))).trans e⟩, d.gr.upd (ne_of d.gi h1 (fun z => nomatch z)) (fun xs z => by rw [d.gi] at z; cases z), (upd_ne (ne_of d.sl d.gi (fun z => nomatch z))).trans d.sl, upd_same, (upd_ne (ne_of d.sa d.gi (fun z => nomatch z))).trans d.sa, d.gl⟩
theorem DoAt.putSaid (d : DoAt C H x g s f l T st) (L : List Int) : DoAt C (L2.upd H l (.lst (L.map V.int))) x g s f l T { st with said := L } := by
  obtain ⟨dx, e⟩ := d.ob
  refine ⟨⟨dx, (upd_ne (ne_of e d.sa (fun z => nomatch z))).trans e⟩, d.gr.upd d.gl.symm (fun xs z => by rw [d.sa] at z; cases z), (upd_ne (ne_of d.sl d.sa (fun z => nomatch z))).trans d.sl, (upd_ne (ne_of d.gi d.sa (fun z => nomatch z))).trans d.gi, upd_same, d.gl⟩
end
/-- a row that is neither a block nor an off -/
def easyR : DRow → Prop
  | .iff _ _ _ => False
  | .off _ => False
  | _ => True
theorem tup1 {xs : List V} {i : Nat} {v : V} (h : xs[i]? = some v) : atI xs ((i : Nat) : Int) = some v := atI_nat h
section
variable {P : Program} {w : World} {K : PySem.W.Frag} {mg : Str → Option Value} {base : Heap}
/-! ### __init__ -/
def spInit (C : Addr) : Sp := fun vs H Q _ => ∃ (x a dx : Addr) (T : Tab), vs = [.ref x, .ref a] ∧ H x = some (.ins C dx []) ∧ TbAt H a T ∧
  ∀ (g s f l : Addr) (H' : Hp), H g = none → H s = none → H f = none → H l = none → DoAt C H' x g s f l T ⟨[], [], []⟩ → (∀ b o, H b = some o → b ≠ x → H' b = some o) → Q .non H'
theorem scInit : FnScope ["self", "ground"] ["self", "ground"] (defScope sInit) := ⟨rfl, rfl, rfl, by decide +kernel, rfl, by decide +kernel, by decide +kernel⟩
theorem ok_init {fn C : Addr} {fd : FuncData} (F : Fun K "__init__" "Doing.__init__" sInit fn fd) (T : DoT K mg C) (B : Blt mg) : FnOk P w K mg base CX0 1 fn fd ["self", "ground"] (spInit C) := by
  refine F.ok scInit (fun vs H Q E h => ?_) (fun cdv A outer sh H vs Q E hr h => ?_)
  · obtain ⟨x, a, dx, T, rfl, _⟩ := h
    rfl
  obtain ⟨x, a, dx, Tb, rfl, hx, ⟨es, ha, hes⟩, k⟩ := h
  refine ⟨_, pss_cons (ps_fld (pv 0) (pe_callTy call_list_of (by rfl) B.list b_list (pa_cons (pv 1) pa_nil)) rfl) (pss_cons (ps_fld (pv 0) pe_dnewK rfl) (pss_cons (ps_fld (pv 0) pe_dnewT rfl) (pss_one (ps_fld (pv 0) (pe_lst pa_nil) rfl)))), ?_⟩
  refine ⟨_, rfl, a, _, rfl, .inl (SqL.of ha), fun g hg => ?_⟩
  have nxg : x ≠ g := ne_of_none hx hg
  refine ⟨_, rfl, x, C, dx, [], rfl, (upd_ne nxg).trans hx, T.cl, T.nG, (by show 0 < 1000; decide), ?_⟩
  intro s hs
  have nxs : x ≠ s := fun e => by rw [← e, upd_same] at hs; cases hs
  have ngs : g ≠ s := fun e => by rw [← e, upd_ne nxg.symm, upd_same] at hs; cases hs
  have hs0 : H s = none := by rw [upd_ne nxs.symm, upd_ne ngs.symm] at hs; exact hs
  refine ⟨_, rfl, x, C, dx, _, rfl, (upd_ne nxs).trans upd_same, T.cl, T.nS, (by show 1 < 1000; decide), ?_⟩
  intro f hf
  have nxf : x ≠ f := fun e => by rw [← e, upd_same] at hf; cases hf
  have nsf : s ≠ f := fun e => by rw [← e, upd_ne nxs.symm, upd_same] at hf; cases hf
  have ngf : g ≠ f := fun e => by rw [← e, upd_ne nxg.symm, upd_ne ngs, upd_ne nxg.symm, upd_same] at hf; cases hf
  have hf0 : H f = none := by rw [upd_ne nxf.symm, upd_ne nsf.symm, upd_ne nxf.symm, upd_ne ngf.symm] at hf; exact hf
  refine ⟨_, rfl, x, C, dx, _, rfl, (upd_ne nxf).trans upd_same, T.cl, T.nF, (by show 2 < 1000; decide), ?_⟩
  refine ⟨(by show 0 ≤ sizeLine; decide), fun l hl => ?_⟩
  have nxl : x ≠ l := fun e => by rw [← e, upd_same] at hl; cases hl
  have nfl : f ≠ l := fun e => by rw [← e, upd_ne nxf.symm, upd_same] at hl; cases hl
  have nsl : s ≠ l := fun e => by rw [← e, upd_ne nxs.symm, upd_ne nsf, upd_ne nxs.symm, upd_same] at hl; cases hl
  have ngl : g ≠ l := fun e => by rw [← e, upd_ne nxg.symm, upd_ne ngf, upd_ne nxg.symm, upd_ne ngs, upd_ne nxg.symm, upd_same] at hl; cases hl
  have hl0 : H l = none := by rw [upd_ne nxl.symm, upd_ne nfl.symm, upd_ne nxl.symm, upd_ne nsl.symm, upd_ne nxl.symm, upd_ne ngl.symm] at hl; exact hl
  refine ⟨_, rfl, x, C, dx, _, rfl, (upd_ne nxl).trans upd_same, T.cl, T.nL, (by show 3 < 1000; decide), ?_⟩
  have kp : ∀ b o, H b = some o → b ≠ x → (L2.upd (L2.upd (L2.upd (L2.upd (L2.upd (L2.upd (L2.upd (L2.upd H g (.lst (es.map V.ref))) x (.ins C dx (putF "ground" (.ref g) []))) s (.dK [])) x (.ins C dx (putF "slots" (.ref s) (putF "ground" (.ref g) [])))) f (.dT [])) x (.ins C dx (putF "gifts" (.ref f) (putF "slots" (.ref s) (putF "ground" (.ref g) []))))) l (.lst [])) x (.ins C dx (doF g s f l))) b = some o := fun b o e hb => by
    rw [upd_ne hb, upd_ne (ne_of_none e hl0), upd_ne hb, upd_ne (ne_of_none e hf0), upd_ne hb, upd_ne (ne_of_none e hs0), upd_ne hb, upd_ne (ne_of_none e hg)]
    exact e
  refine k g s f l _ hg hs0 hf0 hl0 ⟨⟨dx, upd_same⟩, ⟨es, ?_, L2.Paired.mapP hes fun b p ⟨q, z1, z2⟩ => ⟨q, kp _ _ z1 (ne_of z1 hx (fun z => nomatch z)), kp _ _ z2 (ne_of z2 hx (fun z => nomatch z))⟩⟩, ?_, ?_, ?_, ngl⟩ kp
  · rw [upd_ne nxg.symm, upd_ne ngl, upd_ne nxg.symm, upd_ne ngf, upd_ne nxg.symm, upd_ne ngs, upd_ne nxg.symm, upd_same]
  · rw [upd_ne nxs.symm, upd_ne nsl, upd_ne nxs.symm, upd_ne nsf, upd_ne nxs.symm, upd_same]
    rfl
  · rw [upd_ne nxf.symm, upd_ne nfl, upd_ne nxf.symm, upd_same]
    rfl
  · rw [upd_ne nxl.symm, upd_same]
    rfl
end
end FR

/-! FRS: one_row. -/
namespace FR
open PySem L2
theorem i4_0 {a b c d : V} : atI [a, b, c, d] (0 : Int) = some a := rfl
theorem i4_1 {a b c d : V} : atI [a, b, c, d] (1 : Int) = some b := rfl
theorem i4_2 {a b c d : V} : atI [a, b, c, d] (2 : Int) = some c := rfl
theorem i4_3 {a b c d : V} : atI [a, b, c, d] (3 : Int) = some d := rfl
theorem i2_0 {a b : V} : atI [a, b] (0 : Int) = some a := rfl
theorem i2_1 {a b : V} : atI [a, b] (1 : Int) = some b := rfl
theorem ne_rows : ("give" : Str) ≠ "take" ∧ ("let" : Str) ≠ "take" ∧ ("let" : Str) ≠ "give" ∧ ("say" : Str) ≠ "take" ∧ ("say" : Str) ≠ "give" ∧ ("say" : Str) ≠ "let" ∧ ("off" : Str) ≠ "if" ∧ ("take" : Str) ≠ "if" ∧ ("take" : Str) ≠ "off" ∧ ("give" : Str) ≠ "if" ∧ ("give" : Str) ≠ "off" ∧
    ("let" : Str) ≠ "if" ∧ ("let" : Str) ≠ "off" ∧ ("say" : Str) ≠ "if" ∧ ("say" : Str) ≠ "off" := by decide +kernel
/-! ### what a row is in the heap -/
theorem of_take {H : Hp} {q : Addr} {sh sl : Str} {e : Term} (h : At H (.ref q) (dRow (.take sh e sl))) : ∃ t, H q = some (.tup [.str "take", .str sh, .ref t, .str sl]) ∧ TermAt H t e := by
  simp only [dRow] at h
  cases h with
  | tup e0 q =>
    cases q with
    | cons a q => cases q with
      | cons b q => cases q with
        | cons c q => cases q with
          | cons d q =>
            cases q; cases a; cases b; cases d
            obtain ⟨t, rfl, ht⟩ := of_term c
            exact ⟨t, e0, ht⟩
theorem of_give {H : Hp} {q : Addr} {sh : Str} {e f : Term} (h : At H (.ref q) (dRow (.give sh e f))) : ∃ t u, H q = some (.tup [.str "give", .str sh, .ref t, .ref u]) ∧ TermAt H t e ∧ TermAt H u f := by
  simp only [dRow] at h
  cases h with
  | tup e0 q =>
    cases q with
    | cons a q => cases q with
      | cons b q => cases q with
        | cons c q => cases q with
          | cons d q =>
            cases q; cases a; cases b
            obtain ⟨t, rfl, ht⟩ := of_term c
            obtain ⟨u, rfl, hu⟩ := of_term d
            exact ⟨t, u, e0, ht, hu⟩
theorem of_letr {H : Hp} {q : Addr} {sl : Str} {e : Term} (h : At H (.ref q) (dRow (.letr sl e))) : ∃ t, H q = some (.tup [.str "let", .str sl, .ref t]) ∧ TermAt H t e := by
  simp only [dRow] at h
  cases h with
  | tup e0 q =>
    cases q with
    | cons a q => cases q with
      | cons b q => cases q with
        | cons c q =>
          cases q; cases a; cases b
          obtain ⟨t, rfl, ht⟩ := of_term c
          exact ⟨t, e0, ht⟩
theorem of_say {H : Hp} {q : Addr} {e : Term} (h : At H (.ref q) (dRow (.say e))) : ∃ t, H q = some (.tup [.str "say", .ref t]) ∧ TermAt H t e := by
  simp only [dRow] at h
  cases h with
  | tup e0 q =>
    cases q with
    | cons a q => cases q with
      | cons b q =>
        cases q; cases a
        obtain ⟨t, rfl, ht⟩ := of_term b
        exact ⟨t, e0, ht⟩
theorem of_off {H : Hp} {q : Addr} {e : Term} (h : At H (.ref q) (dRow (.off e))) : ∃ t, H q = some (.tup [.str "off", .ref t]) ∧ TermAt H t e := by
  simp only [dRow] at h
  cases h with
  | tup e0 q =>
    cases q with
    | cons a q => cases q with
      | cons b q =>
        cases q; cases a
        obtain ⟨t, rfl, ht⟩ := of_term b
        exact ⟨t, e0, ht⟩
theorem of_iff {H : Hp} {q : Addr} {e : Term} {a b : List DRow} (h : At H (.ref q) (dRow (.iff e a b))) : ∃ t u v, H q = some (.tup [.str "if", .ref t, .ref u, .ref v]) ∧ TermAt H t e ∧ At H (.ref u) (.list (dRows a)) ∧ At H (.ref v) (.list (dRows b)) := by
  simp only [dRow] at h
  cases h with
  | tup e0 q =>
    cases q with
    | cons a q => cases q with
      | cons b q => cases q with
        | cons c q => cases q with
          | cons d q =>
            cases q; cases a
            obtain ⟨t, rfl, ht⟩ := of_term b
            cases c with
            | lst c1 c2 =>
              cases d with
              | lst d1 d2 => exact ⟨t, _, _, e0, ht, .lst c1 c2, .lst d1 d2⟩
theorem of_rowV {H : Hp} {v : V} {r : DRow} (h : At H v (dRow r)) : ∃ q, v = .ref q := by
  cases r <;> (simp only [dRow] at h; cases h; exact ⟨_, rfl⟩)
section
variable {P : Program} {w : World} {K : PySem.W.Frag} {mg : Str → Option Value} {base : Heap}
def spOneRow (C CG CN : Addr) : Sp := fun vs H Q E => ∃ (H0 : Hp) (q x g s f l : Addr) (T : Tab) (st : DSt) (r : DRow), vs = [.ref q, .ref x] ∧ Same H0 H ∧ H0 s = none ∧ H0 f = none ∧ H0 l = none ∧ At H0 (.ref q) (dRow r) ∧ DoAt C H x g s f l T st ∧ okS T st ∧ lenS st ≤ 3000 ∧ wfR r 0 ∧ easyR r ∧
  (∀ st' H', runB T r st = .ok st' → Same H0 H' → DoAt C H' x g s f l T st' → Q .non H') ∧ (∀ e H', runB T r st = .error e → (e = .great ∨ e = .nought) → Same H0 H' → E (.ref (errC CG CN e)) none H')
theorem scOneRow : FnScope ["row", "doing", "word", "place"] ["row", "doing"] (defScope sOneRow) := ⟨rfl, rfl, rfl, by decide +kernel, rfl, by decide +kernel, by decide +kernel⟩
theorem ok_oneRow {fn fR fS C CG CN : Addr} {fd fdR fdS : FuncData} (D : DefAt K mg "one_row" sOneRow ["row", "doing"] fn fd) (DR : DefAt K mg "reckoned" sReck ["term", "slots"] fR fdR) (GR : FnOk P w K mg base (L2.CX P w) 2 fR fdR ["term", "slots"] (spReck CG CN))
    (DS : DefAt K mg "stands" sStands ["table", "place"] fS fdS) (GS : FnOk P w K mg base CX0 1 fS fdS ["table", "place"] spStands) (T : DoT K mg C) :
    FnOk P w K mg base (L2.CX P w) 3 fn fd ["row", "doing"] (spOneRow C CG CN) := by
  refine D.F.okX scOneRow (fun vs H Q E h => ?_) (fun cdv A outer sh H vs Q E hr h => ?_)
  · obtain ⟨H0, q, x, g, s, f, l, Tb, st, r, rfl, _⟩ := h
    rfl
  obtain ⟨H0, q, x, g, s, f, l, Tb, st, r, rfl, g0, s0, f0, l0, hrow, d, ok, hlen, hw, he, k, ke⟩ := h
  have nd := scOneRow.nd
  have hu := hu_of hr
  have hr1 : Room 1 _ := hr.mono (by decide)
  obtain ⟨n1, n2, n3, n4, n5, n6, _⟩ := ne_rows
  refine ⟨_, pss_cons (ps_set (i := 2) nd rfl (.inl rfl) (pe_ix ix_tup (pv 0) pe_int (fun _ _ => rfl)))
    (pss_one (ps_if (pt_cmpR op_eq (pv 2) pe_str (nomark _))
      (pss_cons (ps_set (i := 3) nd rfl (.inl rfl) (pe_tup (pa_cons (pe_ix ix_tup (pv 0) pe_int (fun _ _ => rfl)) (pa_cons (pe_callS GR hr rfl DR.m DR.F.kp DR.b (fun σ => passAt (takes_of rfl rfl rfl rfl) σ) (pa_cons (pe_ix ix_tup (pv 0) pe_int (fun _ _ => rfl)) (pa_cons (pe_fld (pv 1) rfl) pa_nil))) pa_nil))))
      (pss_one (ps_if (pt_cmp (pc_din hu (pv 3) (pe_fld (pv 1) rfl)))
        (pss_one (ps_dput hu (pe_fld (pv 1) rfl) (pe_ix ix_tup (pv 0) pe_int (fun _ _ => rfl)) (pe_dget hu (pe_fld (pv 1) rfl) (pv 3) (fun _ _ => rfl)) rfl))
        (pss_one (ps_dput hu (pe_fld (pv 1) rfl) (pe_ix ix_tup (pv 0) pe_int (fun _ _ => rfl)) (pe_call GS hr1 rfl DS.m DS.F.kp DS.b .nil pass0 (pa_cons (pe_fld (pv 1) rfl) (pa_cons (pv 3) pa_nil))) rfl)))))
      (pss_one (ps_if (pt_cmpR op_eq (pv 2) pe_str (nomark _))
        (pss_cons (ps_set (i := 3) nd rfl (.inl rfl) (pe_tup (pa_cons (pe_ix ix_tup (pv 0) pe_int (fun _ _ => rfl)) (pa_cons (pe_callS GR hr rfl DR.m DR.F.kp DR.b (fun σ => passAt (takes_of rfl rfl rfl rfl) σ) (pa_cons (pe_ix ix_tup (pv 0) pe_int (fun _ _ => rfl)) (pa_cons (pe_fld (pv 1) rfl) pa_nil))) pa_nil))))
        (pss_one (ps_dput hu (pe_fld (pv 1) rfl) (pv 3) (pe_callS GR hr rfl DR.m DR.F.kp DR.b (fun σ => passAt (takes_of rfl rfl rfl rfl) σ) (pa_cons (pe_ix ix_tup (pv 0) pe_int (fun _ _ => rfl)) (pa_cons (pe_fld (pv 1) rfl) pa_nil))) rfl)))
        (pss_one (ps_if (pt_cmpR op_eq (pv 2) pe_str (nomark _))
          (pss_one (ps_dput hu (pe_fld (pv 1) rfl) (pe_ix ix_tup (pv 0) pe_int (fun _ _ => rfl)) (pe_callS GR hr rfl DR.m DR.F.kp DR.b (fun σ => passAt (takes_of rfl rfl rfl rfl) σ) (pa_cons (pe_ix ix_tup (pv 0) pe_int (fun _ _ => rfl)) (pa_cons (pe_fld (pv 1) rfl) pa_nil))) rfl))
          (pss_one (ps_expr (pe_bm PySem.F.plainAttrs_list PySem.F.slot_list_append PySem.F.type_list_append mt_append (pe_fld (pv 1) rfl) (pa_cons (pe_callS GR hr rfl DR.m DR.F.kp DR.b (fun σ => passAt (takes_of rfl rfl rfl rfl) σ) (pa_cons (pe_ix ix_tup (pv 0) pe_int (fun _ _ => rfl)) (pa_cons (pe_fld (pv 1) rfl) pa_nil))) pa_nil)))))))))), ?_⟩
  obtain ⟨dx, ob⟩ := d.ob
  have okσ := ok.1
  have ls : st.slots.length ≤ 3000 := by unfold lenS at hlen; omega
  have lg : st.gifts.length ≤ 3000 := by unfold lenS at hlen; omega
  have ll : st.said.length ≤ 3000 := by unfold lenS at hlen; omega
  cases r with
  | take shf e sl =>
    obtain ⟨t, hq0, ht0⟩ := of_take hrow
    have hq := g0 _ _ hq0
    refine ⟨_, rfl, q, _, _, _, rfl, rfl, SqT.of hq, i4_0, ?_⟩
    refine ⟨_, rfl, rfl, _, rfl, iteDT rfl ?_⟩
    refine ⟨_, rfl, q, _, _, _, rfl, rfl, SqT.of hq, i4_1, ?_⟩
    refine ⟨_, rfl, q, _, _, _, rfl, rfl, SqT.of hq, i4_2, ?_⟩
    refine ⟨_, rfl, x, C, dx, _, _, rfl, ob, T.cl, T.nS, doF_s _ _ _ _, ?_⟩
    refine ⟨t, s, e, st.slots, rfl, g0 _ _ ht0, d.sl, hw.1, Nat.le_trans hw.2 (by decide), okσ, fun n H1 hn g1 => ?_, fun er H1 her g1 => ?_⟩
    · refine ⟨(by show 2 ≤ sizeLine; decide), fun p hp => ?_⟩
      have g2 : Same H (L2.upd H1 p (.tup [.str shf, .int n])) := g1.trans (sameN hp)
      have d2 := d.same g2
      obtain ⟨dx2, ob2⟩ := d2.ob
      have hpl : PlAt (L2.upd H1 p (.tup [.str shf, .int n])) p (shf, n) := upd_same
      refine ⟨_, rfl, _, rfl, x, C, dx2, _, _, rfl, ob2, T.cl, T.nF, doF_f _ _ _ _, f, _, rfl, DGet.t (k := pk (shf, n)) d2.gi hpl, _, rfl, ?_⟩
      rw [valV_t]
      have run : ∀ v, seen Tb st.gifts (shf, n) = v → runB Tb (.take shf e sl) st = .ok { st with slots := aPut st.slots sl v } := fun v hv => by
        simp only [runB]
        rw [hn, ← hv]
      cases hg : aGet st.gifts (shf, n) with
      | some v =>
        refine iteT ?_
        refine ⟨_, rfl, x, C, dx2, _, _, rfl, ob2, T.cl, T.nF, doF_f _ _ _ _, _, rfl, f, .int v, rfl, .inr ⟨_, pk (shf, n), p, .inl d2.gi, rfl, hpl, by rw [valV_t, hg]; rfl⟩, ?_⟩
        refine ⟨_, rfl, x, C, dx2, _, _, rfl, ob2, T.cl, T.nS, doF_s _ _ _ _, _, rfl, q, _, _, _, rfl, rfl, SqT.of (g2 _ _ hq), i4_3, s, _, rfl, DPut.k (k := Sum.inr sl) d2.sl (by rw [skv_length]; exact small1000' (by omega)), ?_⟩
        rw [putK_s okσ.2]
        exact k _ _ (run v (by unfold seen; rw [hg]; rfl)) (sameU (g0.trans g2) s0) (d2.putSlot _)
      | none =>
        refine iteF ?_
        refine ⟨_, rfl, x, C, dx2, _, _, rfl, ob2, T.cl, T.nG, doF_g _ _ _ _, _, rfl, g, p, Tb, (shf, n), rfl, d2.gr, hpl, ?_⟩
        refine ⟨_, rfl, x, C, dx2, _, _, rfl, ob2, T.cl, T.nS, doF_s _ _ _ _, _, rfl, q, _, _, _, rfl, rfl, SqT.of (g2 _ _ hq), i4_3, s, _, rfl, DPut.k (k := Sum.inr sl) d2.sl (by rw [skv_length]; exact small1000' (by omega)), ?_⟩
        rw [putK_s okσ.2]
        exact k _ _ (run _ (by unfold seen; rw [hg]; rfl)) (sameU (g0.trans g2) s0) (d2.putSlot _)
    · exact ke er H1 (by simp only [runB]; rw [her]) (worthT_why hw.1 her) (g0.trans g1)
  | give shf e e2 =>
    obtain ⟨t, u, hq0, ht0, hu0⟩ := of_give hrow
    have hq := g0 _ _ hq0
    obtain ⟨hw1, hw2⟩ := hw
    refine ⟨_, rfl, q, _, _, _, rfl, rfl, SqT.of hq, i4_0, ?_⟩
    refine ⟨_, rfl, rfl, _, rfl, iteDF (fun z => n1 (vstr z)) ?_⟩
    refine ⟨_, rfl, rfl, _, rfl, iteDT rfl ?_⟩
    refine ⟨_, rfl, q, _, _, _, rfl, rfl, SqT.of hq, i4_1, ?_⟩
    refine ⟨_, rfl, q, _, _, _, rfl, rfl, SqT.of hq, i4_2, ?_⟩
    refine ⟨_, rfl, x, C, dx, _, _, rfl, ob, T.cl, T.nS, doF_s _ _ _ _, ?_⟩
    refine ⟨t, s, e, st.slots, rfl, g0 _ _ ht0, d.sl, hw1.1, Nat.le_trans hw1.2 (by decide), okσ, fun n H1 hn g1 => ?_, fun er H1 her g1 => ?_⟩
    · refine ⟨(by show 2 ≤ sizeLine; decide), fun p hp => ?_⟩
      have g2 : Same H (L2.upd H1 p (.tup [.str shf, .int n])) := g1.trans (sameN hp)
      have d2 := d.same g2
      obtain ⟨dx2, ob2⟩ := d2.ob
      have hpl : PlAt (L2.upd H1 p (.tup [.str shf, .int n])) p (shf, n) := upd_same
      refine ⟨_, rfl, q, _, _, _, rfl, rfl, SqT.of (g2 _ _ hq), i4_3, ?_⟩
      refine ⟨_, rfl, x, C, dx2, _, _, rfl, ob2, T.cl, T.nS, doF_s _ _ _ _, ?_⟩
      refine ⟨u, s, e2, st.slots, rfl, g2 _ _ (g0 _ _ hu0), d2.sl, hw2.1, Nat.le_trans hw2.2 (by decide), okσ, fun v H3 hv g3 => ?_, fun er H3 her g3 => ?_⟩
      · have d3 := d2.same g3
        obtain ⟨dx3, ob3⟩ := d3.ob
        refine ⟨_, rfl, x, C, dx3, _, _, rfl, ob3, T.cl, T.nF, doF_f _ _ _ _, _, rfl, f, _, rfl, DPut.t (k := pk (shf, n)) d3.gi (g3 _ _ hpl) (by rw [tkv_length]; exact small1000' (by omega)), ?_⟩
        rw [putK_t ok.2.2.1]
        exact k _ _ (by simp only [runB]; rw [hn, hv]) (sameU (g0.trans (g2.trans g3)) f0) (d3.putGift _)
      · exact ke er H3 (by simp only [runB]; rw [hn, her]) (worthT_why hw2.1 her) (g0.trans (g2.trans g3))
    · exact ke er H1 (by simp only [runB]; rw [her]) (worthT_why hw1.1 her) (g0.trans g1)
  | letr sl e =>
    obtain ⟨t, hq0, ht0⟩ := of_letr hrow
    have hq := g0 _ _ hq0
    refine ⟨_, rfl, q, _, _, _, rfl, rfl, SqT.of hq, ix0, ?_⟩
    refine ⟨_, rfl, rfl, _, rfl, iteDF (fun z => n2 (vstr z)) ?_⟩
    refine ⟨_, rfl, rfl, _, rfl, iteDF (fun z => n3 (vstr z)) ?_⟩
    refine ⟨_, rfl, rfl, _, rfl, iteDT rfl ?_⟩
    refine ⟨_, rfl, q, _, _, _, rfl, rfl, SqT.of hq, ix2, ?_⟩
    refine ⟨_, rfl, x, C, dx, _, _, rfl, ob, T.cl, T.nS, doF_s _ _ _ _, ?_⟩
    refine ⟨t, s, e, st.slots, rfl, g0 _ _ ht0, d.sl, hw.1, Nat.le_trans hw.2 (by decide), okσ, fun n H1 hn g1 => ?_, fun er H1 her g1 => ?_⟩
    · have d2 := d.same g1
      obtain ⟨dx2, ob2⟩ := d2.ob
      refine ⟨_, rfl, x, C, dx2, _, _, rfl, ob2, T.cl, T.nS, doF_s _ _ _ _, _, rfl, q, _, _, _, rfl, rfl, SqT.of (g1 _ _ hq), ix1, s, _, rfl, DPut.k (k := Sum.inr sl) d2.sl (by rw [skv_length]; exact small1000' (by omega)), ?_⟩
      rw [putK_s okσ.2]
      exact k _ _ (by simp only [runB]; rw [hn]) (sameU (g0.trans g1) s0) (d2.putSlot _)
    · exact ke er H1 (by simp only [runB]; rw [her]) (worthT_why hw.1 her) (g0.trans g1)
  | say e =>
    obtain ⟨t, hq0, ht0⟩ := of_say hrow
    have hq := g0 _ _ hq0
    refine ⟨_, rfl, q, _, _, _, rfl, rfl, SqT.of hq, i2_0, ?_⟩
    refine ⟨_, rfl, rfl, _, rfl, iteDF (fun z => n4 (vstr z)) ?_⟩
    refine ⟨_, rfl, rfl, _, rfl, iteDF (fun z => n5 (vstr z)) ?_⟩
    refine ⟨_, rfl, rfl, _, rfl, iteDF (fun z => n6 (vstr z)) ?_⟩
    refine ⟨_, rfl, x, C, dx, _, _, rfl, ob, T.cl, T.nL, doF_l _ _ _ _, .inl ⟨rfl, _, SqL.of d.sa⟩, ?_⟩
    refine ⟨_, rfl, q, _, _, _, rfl, rfl, SqT.of hq, i2_1, ?_⟩
    refine ⟨_, rfl, x, C, dx, _, _, rfl, ob, T.cl, T.nS, doF_s _ _ _ _, ?_⟩
    refine ⟨t, s, e, st.slots, rfl, g0 _ _ ht0, d.sl, hw.1, Nat.le_trans hw.2 (by decide), okσ, fun n H1 hn g1 => ?_, fun er H1 her g1 => ?_⟩
    · have d2 := d.same g1
      refine ⟨l, _, _, rfl, rfl, d2.sa, small1000' (by rw [List.length_map]; omega), ?_⟩
      have e1 : st.said.map V.int ++ [V.int n] = (st.said ++ [n]).map V.int := by rw [List.map_append]; rfl
      rw [e1]
      exact k _ _ (by simp only [runB]; rw [hn]) (sameU (g0.trans g1) l0) (d2.putSaid _)
    · exact ke er H1 (by simp only [runB]; rw [her]) (worthT_why hw.1 her) (g0.trans g1)
  | off e => exact he.elim
  | iff e a b => exact he.elim
end
end FR

/-! FRU: gone_through. -/
namespace FR
open PySem L2
theorem dRows_at : ∀ (rs : List DRow) (i : Nat), (dRows rs)[i]? = (rs[i]?).map dRow
  | [], i => by simp [dRows]
  | r :: rs, 0 => rfl
  | r :: rs, i + 1 => by
    have h := dRows_at rs i
    simpa [dRows] using h
theorem row_at {H : Hp} {vs : List V} {rs : List DRow} (h : AtAll H vs (dRows rs)) {i : Nat} {v : V} (hv : vs[i]? = some v) : ∃ (q : Addr) (r : DRow), v = .ref q ∧ rs[i]? = some r ∧ At H (.ref q) (dRow r) := by
  obtain ⟨d, hd, ha⟩ := h.getV hv
  rw [dRows_at] at hd
  cases e : rs[i]? with
  | none => rw [e] at hd; cases hd
  | some r =>
    rw [e] at hd
    have ed : dRow r = d := Option.some.inj hd
    rw [← ed] at ha
    obtain ⟨q, rfl⟩ := of_rowV ha
    exact ⟨q, r, rfl, rfl, ha⟩
theorem wfRs_drop : ∀ {rs : List DRow} {n i : Nat}, wfRs rs n → wfRs (rs.drop i) n
  | [], _, _, _ => by simp [wfRs]
  | r :: rs, n, 0, h => h
  | r :: rs, n, i + 1, h => by
    simp only [wfRs] at h
    exact wfRs_drop (rs := rs) (i := i) h.2
/-- the head of a row that is neither a block nor an off -/
theorem head_easy {H : Hp} {q : Addr} {r : DRow} (h : At H (.ref q) (dRow r)) (e : easyR r) : ∃ (xs : List V) (hd : Str), H q = some (.tup xs) ∧ atI xs (0 : Int) = some (.str hd) ∧ ¬ hd = "if" ∧ ¬ hd = "off" := by
  obtain ⟨_, _, _, _, _, _, m0, m1, m2, m3, m4, m5, m6, m7, m8⟩ := ne_rows
  cases r with
  | take sh t sl => obtain ⟨_, h1, _⟩ := of_take h; exact ⟨_, _, h1, rfl, m1, m2⟩
  | give sh t f => obtain ⟨_, _, h1, _⟩ := of_give h; exact ⟨_, _, h1, rfl, m3, m4⟩
  | letr sl t => obtain ⟨_, h1, _⟩ := of_letr h; exact ⟨_, _, h1, rfl, m5, m6⟩
  | say t => obtain ⟨_, h1, _⟩ := of_say h; exact ⟨_, _, h1, rfl, m7, m8⟩
  | off t => exact e.elim
  | iff t a b => exact e.elim
theorem run_easy {T : Tab} {r : DRow} (e : easyR r) (st : DSt) : runR T r st = runB T r st := by
  cases r with
  | take sh t sl => simp only [runR]
  | give sh t f => simp only [runR]
  | letr sl t => simp only [runR]
  | say t => simp only [runR]
  | off t => exact e.elim
  | iff t a b => exact e.elim
theorem sz_easy {r : DRow} (e : easyR r) : szR r = 1 := by cases r <;> simp [szR, easyR] at e ⊢
theorem easy_wf {r : DRow} {n : Nat} (e : easyR r) (h : wfR r n) : wfR r 0 := by
  cases r with
  | take sh t sl => simpa [wfR] using h
  | give sh t f => simpa [wfR] using h
  | letr sl t => simpa [wfR] using h
  | say t => simpa [wfR] using h
  | off t => exact e.elim
  | iff t a b => exact e.elim
section
variable {P : Program} {w : World} {K : PySem.W.Frag} {mg : Str → Option Value} {base : Heap}
/-- at most n blocks within one another; with 0 nothing is promised -/
def spGone (C CG CN : Addr) : Nat → Sp
  | 0 => fun _ _ _ _ => False
  | n + 1 => fun vs H Q E => ∃ (H0 : Hp) (a x g s f l : Addr) (T : Tab) (st : DSt) (rs : List DRow), vs = [.ref a, .ref x] ∧ Same H0 H ∧ H0 s = none ∧ H0 f = none ∧ H0 l = none ∧ At H0 (.ref a) (.list (dRows rs)) ∧ DoAt C H x g s f l T st ∧ okS T st ∧ lenS st + szRs rs ≤ 3000 ∧ wfRs rs n ∧
      (∀ st' H', runRs T rs st = .ok st' → Same H0 H' → DoAt C H' x g s f l T st' → Q (.bl true) H') ∧ (∀ H', runRs T rs st = .error .told → Same H0 H' → (∃ st', DoAt C H' x g s f l T st') → Q (.bl false) H') ∧
      (∀ e H', runRs T rs st = .error e → (e = .great ∨ e = .nought) → Same H0 H' → E (.ref (errC CG CN e)) none H')
theorem scGone : FnScope ["rows", "doing", "row", "inner"] ["rows", "doing"] (defScope sGone) := ⟨rfl, rfl, rfl, by decide +kernel, rfl, by decide +kernel, by decide +kernel⟩
theorem none_gone {f C CG CN : Addr} {fd : FuncData} {k : Nat} {ps : List Str} : FnOk P w K mg base (L2.CX P w) k f fd ps (spGone C CG CN 0) :=
  ⟨fun _ _ _ _ h => h.elim, fun _ _ _ _ _ _ _ _ _ _ _ _ _ h => h.elim⟩
theorem ok_gone1 {fn fR fO C CG CN : Addr} {fd fdR fdO : FuncData} {n : Nat} (D : DefAt K mg "gone_through" sGone ["rows", "doing"] fn fd) (G : FnOk P w K mg base (L2.CX P w) (4 + n) fn fd ["rows", "doing"] (spGone C CG CN n))
    (DR : DefAt K mg "reckoned" sReck ["term", "slots"] fR fdR) (GR : FnOk P w K mg base (L2.CX P w) 2 fR fdR ["term", "slots"] (spReck CG CN))
    (DO : DefAt K mg "one_row" sOneRow ["row", "doing"] fO fdO) (GO : FnOk P w K mg base (L2.CX P w) 3 fO fdO ["row", "doing"] (spOneRow C CG CN)) (T : DoT K mg C) :
    FnOk P w K mg base (L2.CX P w) (4 + n + 1) fn fd ["rows", "doing"] (spGone C CG CN (n + 1)) := by
  refine D.F.okX scGone (fun vs H Q E h => ?_) (fun cdv A outer sh H vs Q E hr h => ?_)
  · obtain ⟨H0, a, x, g, s, f, l, Tb, st, rs, rfl, _⟩ := h
    rfl
  obtain ⟨H0, a, x, g, s, f, l, Tb, st, rs, rfl, g0, s0, f0, l0, hrows, d, ok, hlen, hw, kT, kF, ke⟩ := h
  have nd := scGone.nd
  have hr3 : Room 3 _ := hr.mono (by omega)
  have hr2 : Room 2 _ := hr.mono (by omega)
  refine ⟨_, pss_cons (ps_for (passes_of rfl) rfl (pi_list (pv 0)) (pg_name (i := 2) nd rfl (.inl rfl))
      (pss_one (ps_if (pt_cmpR op_eq (pe_ix ix_tup (pv 2) pe_int (fun _ _ => rfl)) pe_str (nomark _))
        (pss_cons (ps_set (i := 3) nd rfl (.inl rfl) (pe_ix ix_tup (pv 2) pe_int (fun _ _ => rfl)))
        (pss_cons (ps_if (pt_cmpR op_ne (pe_callS GR hr2 rfl DR.m DR.F.kp DR.b (fun σ => passAt (takes_of rfl rfl rfl rfl) σ) (pa_cons (pe_ix ix_tup (pv 2) pe_int (fun _ _ => rfl)) (pa_cons (pe_fld (pv 1) rfl) pa_nil))) pe_int (nomark _)) (pss_one (ps_set (i := 3) nd rfl (.inl rfl) (pe_ix ix_tup (pv 2) pe_int (fun _ _ => rfl)))) pss_nil)
        (pss_one (ps_if (pt_not (pt_val (pe_callS G hr rfl D.m D.F.kp D.b (fun σ => passAt (takes_of rfl rfl rfl rfl) σ) (pa_cons (pv 3) (pa_cons (pv 1) pa_nil))))) (pss_one (ps_ret pe_bl)) pss_nil))))
        (pss_one (ps_if (pt_cmpR op_eq (pe_ix ix_tup (pv 2) pe_int (fun _ _ => rfl)) pe_str (nomark _))
          (pss_one (ps_if (pt_cmpR op_ne (pe_callS GR hr2 rfl DR.m DR.F.kp DR.b (fun σ => passAt (takes_of rfl rfl rfl rfl) σ) (pa_cons (pe_ix ix_tup (pv 2) pe_int (fun _ _ => rfl)) (pa_cons (pe_fld (pv 1) rfl) pa_nil))) pe_int (nomark _)) (pss_one (ps_ret pe_bl)) pss_nil))
          (pss_one (ps_expr (pe_callS GO hr3 rfl DO.m DO.F.kp DO.b (fun σ => passAt (takes_of rfl rfl rfl rfl) σ) (pa_cons (pv 2) (pa_cons (pv 1) pa_nil))))))))))
    (pss_one (ps_ret pe_bl)), ?_⟩
  cases hrows with
  | @lst _ vs _ ha hall =>
  refine ⟨_, rfl, a, rfl, ⟨_, SqL.of (g0 _ _ ha)⟩, for_list (K := K) (a := a) (xs := vs) (fun i σ H2 => ∃ (st2 : DSt) (v2 v3 : Option V), σ = [some (.ref a), some (.ref x), v2, v3] ∧ Same H0 H2 ∧ DoAt C H2 x g s f l Tb st2 ∧ okS Tb st2 ∧ runRs Tb (rs.drop i) st2 = runRs Tb rs st ∧ lenS st2 + szRs (rs.drop i) ≤ 3000)
    ⟨st, none, none, rfl, g0, d, ok, by rw [List.drop_zero], by rw [List.drop_zero]; exact hlen⟩ (fun i σ H2 _ ⟨_, _, _, _, gg, _⟩ => SqL.of (gg _ _ ha)) ?_ ?_⟩
  · rintro i y σ H2 hi ⟨st2, v2, v3, rfl, g2, d2, ok2, hev, hln⟩
    obtain ⟨q, r, rfl, hri, hrow⟩ := row_at hall hi
    have hwd := wfRs_drop (i := i) hw
    rw [drop_at hri] at hev hln hwd
    simp only [wfRs] at hwd
    simp only [runRs] at hev
    simp only [szRs] at hln
    obtain ⟨dx, ob⟩ := d2.ob
    have easy : easyR r → (∀ st' H3, runB Tb r st2 = .ok st' → Same H0 H3 → DoAt C H3 x g s f l Tb st' → ∃ (st3 : DSt) (v2' v3' : Option V), ([some (.ref a), some (.ref x), some (.ref q), v3] : L2.St) = [some (.ref a), some (.ref x), v2', v3'] ∧ Same H0 H3 ∧ DoAt C H3 x g s f l Tb st3 ∧ okS Tb st3 ∧ runRs Tb (rs.drop (i + 1)) st3 = runRs Tb rs st ∧ lenS st3 + szRs (rs.drop (i + 1)) ≤ 3000) := by
      intro he st' H3 hb g3 d3
      rw [run_easy he, hb] at hev
      have h1 := runB_len hb
      rw [sz_easy he] at hln
      exact ⟨st', _, _, rfl, g3, d3, runB_ok (easy_wf he hwd.1) ok2 hb, hev, by omega⟩
    by_cases he : easyR r
    · obtain ⟨xs, hd, hq0, hat, m1, m2⟩ := head_easy hrow he
      have hq := g2 _ _ hq0
      refine ⟨_, rfl, q, xs, _, _, rfl, rfl, SqT.of hq, hat, rfl, _, rfl, iteDF (fun z => m1 (vstr z)) ?_⟩
      refine ⟨_, rfl, q, xs, _, _, rfl, rfl, SqT.of hq, hat, rfl, _, rfl, iteDF (fun z => m2 (vstr z)) ?_⟩
      refine ⟨_, rfl, _, rfl, H0, q, x, g, s, f, l, Tb, st2, r, rfl, g2, s0, f0, l0, hrow, d2, ok2, by omega, easy_wf he hwd.1, he, fun st' H3 hb g3 d3 => easy he st' H3 hb g3 d3, fun e H3 hb hwhy g3 => ?_⟩
      rw [run_easy he, hb] at hev
      exact ke e H3 hev.symm hwhy g3
    · cases r with
      | take sh t sl => exact absurd trivial he
      | give sh t f' => exact absurd trivial he
      | letr sl t => exact absurd trivial he
      | say t => exact absurd trivial he
      | off t =>
        obtain ⟨ta, hq0, ht0⟩ := of_off hrow
        have hq := g2 _ _ hq0
        simp only [runR, runB] at hev
        simp only [wfR] at hwd
        obtain ⟨_, _, _, _, _, _, m0, _⟩ := ne_rows
        refine ⟨_, rfl, q, _, _, _, rfl, rfl, SqT.of hq, i2_0, rfl, _, rfl, iteDF (fun z => m0 (vstr z)) ?_⟩
        refine ⟨_, rfl, q, _, _, _, rfl, rfl, SqT.of hq, i2_0, rfl, _, rfl, iteDT rfl ?_⟩
        refine ⟨_, rfl, q, _, _, _, rfl, rfl, SqT.of hq, i2_1, ?_⟩
        refine ⟨_, rfl, x, C, dx, _, _, rfl, ob, T.cl, T.nS, doF_s _ _ _ _, ?_⟩
        refine ⟨ta, s, t, st2.slots, rfl, g2 _ _ ht0, d2.sl, hwd.1.1, Nat.le_trans hwd.1.2 (by decide), ok2.1, fun n1 H3 hn g3 => ?_, fun er H3 her g3 => ?_⟩
        · rw [hn] at hev
          refine ⟨rfl, _, rfl, ite2 (fun c => ?_) (fun c => ?_)⟩
          · have c0 : n1 ≠ 0 := fun z => by
              rw [z] at c
              exact absurd c (by decide)
            simp only [if_neg c0] at hev
            exact kF H3 hev.symm (g2.trans g3) ⟨st2, d2.same g3⟩
          · have c0 : n1 = 0 := Classical.not_not.mp fun z => c (by
              show (!decide (V.int n1 = V.int 0)) = true
              rw [decide_eq_false (fun y => z (V.int.inj y))]
              rfl)
            simp only [if_pos c0] at hev
            exact ⟨st2, _, _, rfl, g2.trans g3, d2.same g3, ok2, hev, by simp only [szR] at hln; omega⟩
        · rw [her] at hev
          exact ke er H3 hev.symm (worthT_why hwd.1.1 her) (g2.trans g3)
      | iff t ra rb =>
        obtain ⟨ta, ua, va, hq0, ht0, hua, hva⟩ := of_iff hrow
        have hq := g2 _ _ hq0
        simp only [runR] at hev
        simp only [wfR] at hwd
        obtain ⟨⟨hwt, hn0, hwa, hwb⟩, hwrest⟩ := hwd
        simp only [szR] at hln
        match n, G, hn0, hwa, hwb, hr with
        | n + 1, G, _, hwa, hwb, hr =>
        refine ⟨_, rfl, q, _, _, _, rfl, rfl, SqT.of hq, i4_0, rfl, _, rfl, iteDT rfl ?_⟩
        refine ⟨_, rfl, q, _, _, _, rfl, rfl, SqT.of hq, i4_3, ?_⟩
        refine ⟨_, rfl, q, _, _, _, rfl, rfl, SqT.of hq, i4_1, ?_⟩
        refine ⟨_, rfl, x, C, dx, _, _, rfl, ob, T.cl, T.nS, doF_s _ _ _ _, ?_⟩
        refine ⟨ta, s, t, st2.slots, rfl, g2 _ _ ht0, d2.sl, hwt.1, Nat.le_trans hwt.2 (by decide), ok2.1, fun n1 H3 hn g3 => ?_, fun er H3 her g3 => ?_⟩
        · rw [hn] at hev
          have g23 := g2.trans g3
          have d3 := d2.same g3
          -- the inner rows, whichever they are
          have inner : ∀ (b : Addr) (ri : List DRow), At H0 (.ref b) (.list (dRows ri)) → wfRs ri n → szRs ri + 1 ≤ szRs ra + szRs rb + 1 → (match runRs Tb ri st2 with
              | .error e => (.error e : DRes)
              | .ok s' => runRs Tb (rs.drop (i + 1)) s') = runRs Tb rs st →
              spGone C CG CN (n + 1) [.ref b, .ref x] H3 (fun v H4 => ∃ c, v = .bl c ∧ if (!c) = true then Q (.bl false) H4 else ∃ (st3 : DSt) (v2' v3' : Option V), ([some (.ref a), some (.ref x), some (.ref q), some (.ref b)] : L2.St) = [some (.ref a), some (.ref x), v2', v3'] ∧ Same H0 H4 ∧ DoAt C H4 x g s f l Tb st3 ∧ okS Tb st3 ∧ runRs Tb (rs.drop (i + 1)) st3 = runRs Tb rs st ∧ lenS st3 + szRs (rs.drop (i + 1)) ≤ 3000) E := by
            intro b ri hb hwi hszi hevi
            refine ⟨H0, b, x, g, s, f, l, Tb, st2, ri, rfl, g23, s0, f0, l0, hb, d3, ok2, by omega, hwi, fun st' H4 hrun g4 d4 => ?_, fun H4 hrun g4 _ => ?_, fun e H4 hrun hwhy g4 => ?_⟩
            · rw [hrun] at hevi
              have h1 := runRs_len ri st2 st' hrun
              exact ⟨true, rfl, iteF ⟨st', _, _, rfl, g4, d4, runRs_ok ri n st2 st' hwi ok2 hrun, hevi, by omega⟩⟩
            · rw [hrun] at hevi
              exact ⟨false, rfl, iteT (kF H4 hevi.symm g4 (by assumption))⟩
            · rw [hrun] at hevi
              exact ke e H4 hevi.symm hwhy g4
          refine ⟨rfl, _, rfl, ite2 (fun c => ?_) (fun c => ?_)⟩
          · have c0 : n1 ≠ 0 := fun z => by
              rw [z] at c
              exact absurd c (by decide)
            simp only [if_neg c0] at hev
            refine ⟨_, rfl, q, _, _, _, rfl, rfl, SqT.of (g3 _ _ hq), i4_2, ?_⟩
            exact ⟨_, rfl, _, rfl, inner ua ra hua hwa (by omega) hev⟩
          · have c0 : n1 = 0 := Classical.not_not.mp fun z => c (by
              show (!decide (V.int n1 = V.int 0)) = true
              rw [decide_eq_false (fun y => z (V.int.inj y))]
              rfl)
            simp only [if_pos c0] at hev
            exact ⟨_, rfl, _, rfl, inner va rb hva hwb (by omega) hev⟩
        · rw [her] at hev
          exact ke er H3 hev.symm (worthT_why hwt.1 her) (g2.trans g3)
  · rintro σ H2 ⟨st2, v2, v3, rfl, g2, d2, ok2, hev, hln⟩
    have hl : vs.length = rs.length := by rw [hall.length, dRows_length]
    rw [hl, List.drop_length] at hev
    simp only [runRs] at hev
    exact kT st2 H2 hev.symm g2 d2
theorem ok_gone {fn fR fO C CG CN : Addr} {fd fdR fdO : FuncData} (D : DefAt K mg "gone_through" sGone ["rows", "doing"] fn fd)
    (DR : DefAt K mg "reckoned" sReck ["term", "slots"] fR fdR) (GR : FnOk P w K mg base (L2.CX P w) 2 fR fdR ["term", "slots"] (spReck CG CN))
    (DO : DefAt K mg "one_row" sOneRow ["row", "doing"] fO fdO) (GO : FnOk P w K mg base (L2.CX P w) 3 fO fdO ["row", "doing"] (spOneRow C CG CN)) (T : DoT K mg C) :
    ∀ n : Nat, FnOk P w K mg base (L2.CX P w) (4 + n) fn fd ["rows", "doing"] (spGone C CG CN n)
  | 0 => none_gone
  | n + 1 => ok_gone1 D (ok_gone D DR GR DO GO T n) DR GR DO GO T
end
end FR

/-! FRV: alone. -/
namespace FR
open PySem L2
/-- what comes of a dealing: its outcome, the table behind it -/
def resT (T : Tab) (rs : List DRow) : Except Why (List Int) × Tab := match outcome T rs with
  | .ok st => (.ok st.said, sortE (nz (aMerge T st.gifts)))
  | .error e => (.error e, T)
def dOut : Except Why (List Int) → PyData
  | .ok L => .tuple [.str "done", .tuple (L.map .int)]
  | .error e => .tuple [.str "off", .str e.str]
def dTold (x : Except Why (List Int) × Tab) : PyData := .tuple [dOut x.1, dTab x.2]
theorem at_ints {H : Hp} : ∀ L : List Int, AtAll H (L.map V.int) (L.map PyData.int)
  | [] => .nil
  | i :: L => .cons (.int i) (at_ints L)
theorem okS_start {T : Tab} (h : TabOk T) : okS T ⟨[], [], []⟩ := ⟨⟨(fun _ h => nomatch h), List.nodup_nil⟩, (fun _ h => nomatch h), List.nodup_nil, h.2⟩
/-- the clauses that catch -/
structure CatchT (K : PySem.W.Frag) (CG CN : Addr) : Prop where
  gg : PySem.W.exmOne K (.ref CG) (.ref CG) = some true
  ng : PySem.W.exmOne K (.ref CN) (.ref CG) = some false
  nn : PySem.W.exmOne K (.ref CN) (.ref CN) = some true
section
variable {P : Program} {w : World} {K : PySem.W.Frag} {mg : Str → Option Value} {base : Heap}
def spAlone : Sp := fun vs H Q _ => ∃ (a t : Addr) (T : Tab) (rs : List DRow), vs = [.ref a, .ref t] ∧ At H (.ref a) (.list (dRows rs)) ∧ TbAt H t T ∧ TabOk T ∧ wfRs rs 5 ∧ szRs rs ≤ 1000 ∧ T.length ≤ 4000 ∧
  ∀ (p : Addr) (H' : Hp), At H' (.ref p) (dTold (resT T rs)) → Same H H' → Q (.ref p) H'
theorem scAlone : FnScope ["rows", "table", "doing", "why", "ended"] ["rows", "table"] (defScope sAlone) := ⟨rfl, rfl, rfl, by decide +kernel, rfl, by decide +kernel, by decide +kernel⟩
theorem ok_alone {fn fI fG fL C CG CN : Addr} {fd fdI fdG fdL : FuncData} (D : DefAt K mg "alone" sAlone ["rows", "table"] fn fd) (M : Mk K C fI) (GI : FnOk P w K mg base CX0 1 fI fdI ["self", "ground"] (spInit C)) (bI : Binds K fdI ["self", "ground"] []) (T : DoT K mg C)
    (DG : DefAt K mg "gone_through" sGone ["rows", "doing"] fG fdG) (GG : FnOk P w K mg base (L2.CX P w) 10 fG fdG ["rows", "doing"] (spGone C CG CN 6))
    (DL : DefAt K mg "laid_on" sLaid ["table", "gifts"] fL fdL) (GL : FnOk P w K mg base CX0 1 fL fdL ["table", "gifts"] spLaid) (B : Blt mg) (hG : mg "Great" = some (.ref CG)) (hN : mg "Nought" = some (.ref CN)) (hC : CatchT K CG CN) :
    FnOk P w K mg base CX0 11 fn fd ["rows", "table"] spAlone := by
  refine D.F.ok scAlone (fun vs H Q E h => ?_) (fun cdv A outer sh H vs Q E hr h => ?_)
  · obtain ⟨a, t, Tb, rs, rfl, _⟩ := h
    rfl
  obtain ⟨a, t, Tb, rs, rfl, hrows, hT, okT, hw, hsz, hTl, k⟩ := h
  have nd := scAlone.nd
  have hr1 : Room 1 _ := hr.mono (by decide)
  have hr2 : Room 2 _ := hr.mono (by decide)
  refine ⟨_, pss_cons (ps_set (i := 2) nd rfl (.inl rfl) (pe_make M GI hr2 rfl T.mg bI .nil pass0 (pa_cons (pv 1) pa_nil)))
    (pss_cons (ps_set (i := 3) nd rfl (.inl rfl) pe_str)
    (C8.pss_cut (ps_try_many (tb := fun W => tAsg (tCallS (spGone C CG CN 6) (WE W) (tCons (tVar 0) (tCons (tVar 2) tNil))) (gName 4)) (Wout := fun _ _ _ _ => False)
        (l := [(.ref CG, fun _ _ _ => tSeq (tAsg (tC (.bl false)) (gName 4)) (tAsg (tC (.str "great")) (gName 3))), (.ref CN, fun _ _ _ => tSeq (tAsg (tC (.bl false)) (gName 4)) (tAsg (tC (.str "nought")) (gName 3)))])
        rfl rfl takes_none5 (fun W pn xe tk _ => pss_one (ps_set (i := 4) nd rfl (.inl rfl) (pe_callS GG hr rfl DG.m DG.F.kp DG.b (fun σ => passAt tk σ) (pa_cons (pv 0) (pa_cons (pv 2) pa_nil)))))
        (HdsOk.cons ⟨rfl, by decide, .inl hG⟩ (fun _ _ _ _ _ _ _ => pss_cons (ps_set (i := 4) nd rfl (.inl rfl) pe_bl) (pss_one (ps_set (i := 3) nd rfl (.inl rfl) pe_str)))
        (HdsOk.cons ⟨rfl, by decide, .inl hN⟩ (fun _ _ _ _ _ _ _ => pss_cons (ps_set (i := 4) nd rfl (.inl rfl) pe_bl) (pss_one (ps_set (i := 3) nd rfl (.inl rfl) pe_str))) HdsOk.nil)))
    (pss_cons (ps_if (pt_not (pt_val (pv 4))) (pss_one (ps_ret (pe_tup (pa_cons (pe_tup (pa_cons pe_str (pa_cons (pv 3) pa_nil))) (pa_cons (pe_callTy call_list_of (by rfl) B.list b_list (pa_cons (pv 1) pa_nil)) pa_nil))))) pss_nil)
    (pss_one (ps_ret (pe_tup (pa_cons (pe_tup (pa_cons pe_str (pa_cons (pe_callTy call_tuple_of (by rfl) B.tuple b_tuple (pa_cons (pe_fld (pv 2) rfl) pa_nil)) pa_nil)))
      (pa_cons (pe_call GL hr1 rfl DL.m DL.F.kp DL.b .nil pass0 (pa_cons (pv 1) (pa_cons (pe_callTy (call_listIt rfl) (by rfl) B.list b_list (pa_cons (pe_bm0 PySem.F.plainAttrs_dict PySem.F.slot_dict_items PySem.F.type_dict_items L2.DX.mt_itemsT (pe_fld (pv 2) rfl)) pa_nil)) pa_nil))) pa_nil)))))))), ?_⟩
  -- doing = Doing(table)
  refine ⟨_, rfl, fun x dx nx ndx nex => ?_⟩
  have g1 : Same H (L2.upd (L2.upd H dx (.own x)) x (.ins C dx [])) := fun b o e => by
    rw [upd_ne (ne_of_none e nx), upd_ne (ne_of_none e ndx)]
    exact e
  refine ⟨x, t, dx, Tb, rfl, upd_same, hT.same g1, fun g s f l H2 hg hs hf hl d kp => ⟨rfl, ?_⟩⟩
  have g2 : Same H H2 := fun b o e => kp b o (g1 b o e) (ne_of_none e nx)
  have s0 := g1.free hs
  have f0 := g1.free hf
  have l0 := g1.free hl
  refine ⟨fun σ H3 => ∃ (wy : Str) (en : Bool) (st : DSt), σ = [some (.ref a), some (.ref t), some (.ref x), some (.str wy), some (.bl en)] ∧ Same H H3 ∧ ((en = true ∧ outcome Tb rs = .ok st ∧ DoAt C H3 x g s f l Tb st) ∨ (en = false ∧ ∃ e, outcome Tb rs = .error e ∧ wy = e.str)), ?_, ?_⟩
  · refine ⟨_, rfl, _, rfl, H, a, x, g, s, f, l, Tb, ⟨[], [], []⟩, rs, rfl, g2, s0, f0, l0, hrows, d, okS_start okT, ?_, hw, fun st' H3 hrun g3 d3 => ?_, fun H3 hrun g3 _ => ?_, fun e H3 hrun hwhy g3 => ?_⟩
    · show 0 + szRs rs ≤ 3000
      omega
    · exact ⟨_, true, st', rfl, g3, .inl ⟨rfl, hrun, d3⟩⟩
    · exact ⟨_, false, ⟨[], [], []⟩, rfl, g3, .inr ⟨rfl, .told, hrun, rfl⟩⟩
    · rcases hwhy with rfl | rfl
      · exact ⟨true, hC.gg, fun _ _ _ => ⟨_, false, ⟨[], [], []⟩, rfl, g3, .inr ⟨rfl, .great, hrun, rfl⟩⟩, fun z => nomatch z⟩
      · exact ⟨false, hC.ng, (fun z => nomatch z), fun _ => ⟨true, hC.nn, fun _ _ _ => ⟨_, false, ⟨[], [], []⟩, rfl, g3, .inr ⟨rfl, .nought, hrun, rfl⟩⟩, fun z => nomatch z⟩⟩
  rintro σ H3 ⟨wy, en, st, rfl, g3, h⟩
  refine ⟨_, rfl, en, rfl, ?_⟩
  rcases h with ⟨rfl, hrun, d3⟩ | ⟨rfl, e, hrun, rfl⟩
  · refine iteF ?_
    have hres : resT Tb rs = (.ok st.said, sortE (nz (aMerge Tb st.gifts))) := by unfold resT; rw [hrun]
    rw [hres] at k
    have hlen := runRs_len rs _ st hrun
    have hlen2 : st.gifts.length ≤ 1000 := by
      unfold lenS at hlen
      simp only [List.length_nil] at hlen
      omega
    obtain ⟨dx3, ob3⟩ := d3.ob
    refine ⟨_, rfl, x, C, dx3, _, _, rfl, ob3, T.cl, T.nL, doF_l _ _ _ _, l, _, rfl, .inl ⟨SqL.of d3.sa, fun p1 hp1 => ?_⟩⟩
    refine ⟨(by show 2 ≤ sizeLine; decide), fun p2 hp2 => ?_⟩
    have g4 := (sameN (o := .tup (st.said.map V.int)) hp1).trans (sameN (o := .tup [.str "done", .ref p1]) hp2)
    have d4 := d3.same g4
    obtain ⟨dx4, ob4⟩ := d4.ob
    refine ⟨_, rfl, _, rfl, x, C, dx4, _, _, rfl, ob4, T.cl, T.nF, doF_f _ _ _ _, .inr (.inr (.inl ⟨rfl, .inr ⟨_, d4.gi⟩⟩)), f, _, rfl, rfl, d4.gi, fun p3 hp3 => ?_⟩
    have nfp : f ≠ p3 := ne_of_none d4.gi hp3
    refine ⟨p3, f, st.gifts, rfl, upd_same, (upd_ne nfp).trans d4.gi, fun l2 H5 _ g5 hl2 => ?_⟩
    have g6 := (sameN (o := L2.DX.itemsO p3 f) hp3).trans g5
    refine ⟨t, l2, Tb, st.gifts, rfl, hT.same (g3.trans (g4.trans g6)), hl2, by omega, okT.1, fun l3 H6 hl3 g7 => ?_⟩
    refine ⟨(by show 2 ≤ sizeLine; decide), fun p4 hp4 => ?_⟩
    have g8 : Same _ (L2.upd H6 p4 (.tup [.ref p2, .ref l3])) := g6.trans (g7.trans (sameN hp4))
    refine k p4 _ (.tup upd_same (.cons (At.same g8 _ _ (.tup (upd_same (H := L2.upd H3 p1 (.tup (st.said.map V.int)))) (.cons (.str _) (.cons (.tup (sameN hp2 _ _ upd_same) (at_ints _)) .nil)))) (.cons (at_tab (hl3.same (sameN hp4))) .nil))) (g3.trans (g4.trans g8))
  · refine iteT ?_
    have hres : resT Tb rs = (.error e, Tb) := by unfold resT; rw [hrun]
    rw [hres] at k
    obtain ⟨es, ht, hes⟩ := hT.same g3
    refine ⟨_, rfl, (by show 2 ≤ sizeLine; decide), fun p1 hp1 => ?_⟩
    have g4 := sameN (o := .tup [.str "off", .str e.str]) hp1
    refine ⟨_, rfl, t, _, rfl, .inl (SqL.of (g4 _ _ ht)), fun l2 hl2 => ?_⟩
    have g5 := sameN (o := .lst (es.map V.ref)) hl2
    refine ⟨(by show 2 ≤ sizeLine; decide), fun p4 hp4 => ?_⟩
    have g6 := sameN (o := .tup [.ref p1, .ref l2]) hp4
    refine k p4 _ (.tup upd_same (.cons (At.same (g5.trans g6) _ _ (.tup (upd_same (H := H3)) (.cons (.str _) (.cons (.str _) .nil)))) (.cons (at_tab ⟨es, g6 _ _ upd_same, ens_same (g4.trans (g5.trans g6)) hes⟩) .nil))) (g3.trans (g4.trans (g5.trans g6)))
end
end FR

/-! FRW: the law's own reckoning: _law_two, _law_worth. -/
namespace FR
open PySem L2
theorem ne_st : ("slots" : Str) ≠ "now" ∧ ("slots" : Str) ≠ "said" ∧ ("slots" : Str) ≠ "why" ∧ ("now" : Str) ≠ "said" ∧ ("now" : Str) ≠ "why" ∧ ("said" : Str) ≠ "why" := by decide +kernel
def stK (s f l : Addr) (wy : Str) : List (Key × V) := [(Sum.inr "slots", .ref s), (Sum.inr "now", .ref f), (Sum.inr "said", .ref l), (Sum.inr "why", .str wy)]
theorem inr_ne {a b : Str} (h : a ≠ b) : ¬ (Sum.inr a : Key) = Sum.inr b := fun e => h (Sum.inr.inj e)
theorem stK_slots (s f l : Addr) (wy : Str) : valV (stK s f l wy) (Sum.inr "slots") = some (.ref s) := valV_pos rfl
theorem stK_now (s f l : Addr) (wy : Str) : valV (stK s f l wy) (Sum.inr "now") = some (.ref f) := by
  obtain ⟨n1, n2, n3, n4, n5, n6⟩ := ne_st
  unfold stK
  rw [valV_neg (inr_ne n1), valV_pos rfl]
theorem stK_said (s f l : Addr) (wy : Str) : valV (stK s f l wy) (Sum.inr "said") = some (.ref l) := by
  obtain ⟨n1, n2, n3, n4, n5, n6⟩ := ne_st
  unfold stK
  rw [valV_neg (inr_ne n2), valV_neg (inr_ne n4), valV_pos rfl]
theorem stK_why (s f l : Addr) (wy : Str) : valV (stK s f l wy) (Sum.inr "why") = some (.str wy) := by
  obtain ⟨n1, n2, n3, n4, n5, n6⟩ := ne_st
  unfold stK
  rw [valV_neg (inr_ne n3), valV_neg (inr_ne n5), valV_neg (inr_ne n6), valV_pos rfl]
theorem stK_put (s f l : Addr) (wy m : Str) : putK (stK s f l wy) (Sum.inr "why") (.str m) = stK s f l m := by
  obtain ⟨n1, n2, n3, n4, n5, n6⟩ := ne_st
  unfold putK
  rw [valV_any, stK_why]
  rw [if_pos (show (some (V.str wy)).isSome = true from rfl)]
  unfold stK
  simp only [List.map_cons, List.map_nil, if_neg (inr_ne n3), if_neg (inr_ne n5), if_neg (inr_ne n6), if_pos]
/-- the law's state: at d the dict, its slots at s, what stands now at f, what was said at l -/
structure LaAt (H : Hp) (d s f l : Addr) (wy : Str) (T : Tab) (st : DSt) : Prop where
  di : H d = some (.dK (stK s f l wy))
  sl : H s = some (.dK (skv st.slots))
  nw : H f = some (.dT (tkv (aMerge T st.gifts)))
  sa : H l = some (.lst (st.said.map V.int))
  ds : d ≠ s
theorem LaAt.same {H H' : Hp} {d s f l : Addr} {wy : Str} {T : Tab} {st : DSt} (x : LaAt H d s f l wy T st) (g : Same H H') : LaAt H' d s f l wy T st := ⟨g _ _ x.di, g _ _ x.sl, g _ _ x.nw, g _ _ x.sa, x.ds⟩
section
variable {H : Hp} {d s f l : Addr} {wy : Str} {T : Tab} {st : DSt}
theorem LaAt.putWhy (x : LaAt H d s f l wy T st) (m : Str) : LaAt (upd H d (.dK (stK s f l m))) d s f l m T st :=
  ⟨upd_same, (upd_ne x.ds.symm).trans x.sl, (upd_ne (ne_of x.nw x.di (fun z => nomatch z))).trans x.nw, (upd_ne (ne_of x.sa x.di (fun z => nomatch z))).trans x.sa, x.ds⟩
theorem LaAt.putSlot (x : LaAt H d s f l wy T st) (σ : Slots) : LaAt (upd H s (.dK (skv σ))) d s f l wy T { st with slots := σ } :=
  ⟨(upd_ne x.ds).trans x.di, upd_same, (upd_ne (ne_of x.nw x.sl (fun z => nomatch z))).trans x.nw, (upd_ne (ne_of x.sa x.sl (fun z => nomatch z))).trans x.sa, x.ds⟩
theorem LaAt.putGift (x : LaAt H d s f l wy T st) (G : Tab) : LaAt (upd H f (.dT (tkv (aMerge T G)))) d s f l wy T { st with gifts := G } :=
  ⟨(upd_ne (ne_of x.di x.nw (fun z => nomatch z))).trans x.di, (upd_ne (ne_of x.sl x.nw (fun z => nomatch z))).trans x.sl, upd_same, (upd_ne (ne_of x.sa x.nw (fun z => nomatch z))).trans x.sa, x.ds⟩
theorem LaAt.putSaid (x : LaAt H d s f l wy T st) (L : List Int) : LaAt (upd H l (.lst (L.map V.int))) d s f l wy T { st with said := L } :=
  ⟨(upd_ne (ne_of x.di x.sa (fun z => nomatch z))).trans x.di, (upd_ne (ne_of x.sl x.sa (fun z => nomatch z))).trans x.sl, (upd_ne (ne_of x.nw x.sa (fun z => nomatch z))).trans x.nw, upd_same, x.ds⟩
end
theorem in2 (d a b : Str) : inV (.str d) [.str a, .str b] = decide (d = a ∨ d = b) := by
  show (decide (a = d) || (decide (b = d) || false)) = _
  by_cases h1 : d = a
  · rw [decide_eq_true h1.symm, decide_eq_true (Or.inl h1)]
    rfl
  · by_cases h2 : d = b
    · rw [decide_eq_true h2.symm, decide_eq_true (Or.inr h2), Bool.true_or, Bool.or_true]
    · rw [decide_eq_false (fun e => h1 e.symm), decide_eq_false (fun e => h2 e.symm), decide_eq_false (fun z => z.elim h1 h2)]
      rfl
section
variable {P : Program} {w : World} {K : PySem.W.Frag} {mg : Str → Option Value} {base : Heap}
/-! ### _law_two -/
def spTwo : Sp := fun vs H Q _ => ∃ (a b : Int) (d : Str), vs = [.int a, .int b, .str d] ∧ inR a ∧ inR b ∧ (∀ v H', lawTwo d a b = .ok v → Same H H' → Q (.int v) H') ∧ (∀ e H', lawTwo d a b = .error e → Same H H' → Q (.str e.str) H')
theorem scTwo : FnScope ["one", "other", "word", "made"] ["one", "other", "word"] (defScope sTwo) := ⟨rfl, rfl, rfl, by decide +kernel, rfl, by decide +kernel, by decide +kernel⟩
theorem pow30 : (10 : Int) ^ (30 : Int).toNat = BIG := by decide
theorem lawTwo_last {d : Str} {a b : Int} (h1 : ¬ d = "over") (h2 : ¬ d = "rest") (h3 : ¬ d = "under") (h4 : ¬ d = "same") {v : Int} (hv : (if d = "minus" then a - b else if d = "plus" then a + b else a * b) = v) :
    lawTwo d a b = if v > BIG ∨ v < -BIG then .error .great else .ok v := by
  unfold lawTwo
  have h0 : ¬ ((d = "over" ∨ d = "rest") ∧ b = 0) := fun z => z.1.elim h1 h2
  rw [if_neg h0, if_neg h1, if_neg h2, if_neg h3, if_neg h4]
  simp only [hv]
theorem ok_two {f : Addr} {fd : FuncData} (D : DefAt K mg "_law_two" sTwo ["one", "other", "word"] f fd) (B : Blt mg) : FnOk P w K mg base CX0 1 f fd ["one", "other", "word"] spTwo := by
  refine D.F.ok scTwo (fun vs H Q E h => ?_) (fun cdv A outer s H vs Q E hr h => ?_)
  · obtain ⟨a, b, d, rfl, _⟩ := h
    rfl
  obtain ⟨a, b, d, rfl, ha, hb, k, ke⟩ := h
  have nd := scTwo.nd
  refine ⟨_, pss_cons (ps_ifC (PW.pt (pw_and (pt_cmpR op_in_seq (pv 2) (pe_tup (pa_cons pe_str (pa_cons pe_str pa_nil))) (by rfl)) (pw_and1 (pt_cmpR op_eq (pv 1) pe_int (nomark _))))) (pss_one (ps_ret pe_str)) pss_nil)
    (pss_cons (ps_if (pt_cmpR op_eq (pv 2) pe_str (nomark _)) (pss_one (ps_ret (pe_op op_fdivX (pv 0) (pv 1)))) pss_nil)
    (pss_cons (ps_if (pt_cmpR op_eq (pv 2) pe_str (nomark _)) (pss_one (ps_ret (pe_op op_sub (pv 0) (pe_op op_mulW (pe_op op_fdivX (pv 0) (pv 1)) (pv 1))))) pss_nil)
    (pss_cons (ps_if (pt_cmpR op_eq (pv 2) pe_str (nomark _)) (pss_one (ps_ret (pe_callTy call_int1 (by rfl) B.int b_int (pa_cons (pe_cmpR op_lt (pv 0) (pv 1) (nomark _)) pa_nil)))) pss_nil)
    (pss_cons (ps_if (pt_cmpR op_eq (pv 2) pe_str (nomark _)) (pss_one (ps_ret (pe_callTy call_int1 (by rfl) B.int b_int (pa_cons (pe_cmpR op_eq (pv 0) (pv 1) (nomark _)) pa_nil)))) pss_nil)
    (pss_cons (ps_set (i := 3) nd rfl (.inl rfl) (pe_op op_mulW (pv 0) (pv 1)))
    (C8.pss_cut (ps_if (pt_cmpR op_eq (pv 2) pe_str (nomark _)) (pss_one (ps_set (i := 3) nd rfl (.inl rfl) (pe_op op_add (pv 0) (pv 1)))) pss_nil)
    (C8.pss_cut (ps_if (pt_cmpR op_eq (pv 2) pe_str (nomark _)) (pss_one (ps_set (i := 3) nd rfl (.inl rfl) (pe_op op_sub (pv 0) (pv 1)))) pss_nil)
    (pss_cons (ps_if (PW.pt (pw_or (pt_cmpR op_gt (pv 3) (pe_op op_pow pe_int pe_int) (nomark _)) (pw_or1 (pt_cmpR op_lt (pv 3) (pe_un un_neg (pe_op op_pow pe_int pe_int)) (nomark _))))) (pss_one (ps_ret pe_str)) pss_nil)
    (pss_one (ps_ret (pv 3))))))))))), ?_⟩
  refine ⟨fun H1 => Same H H1 ∧ ¬ ((d = "over" ∨ d = "rest") ∧ b = 0), ?_, ?_⟩
  rotate_left
  · refine ⟨_, rfl, (by show 2 ≤ sizeLine; decide), fun p hp => ⟨p, _, rfl, .inr (SqT.of upd_same), rfl, rfl, _, rfl, ?_⟩⟩
    have g := sameN (o := .tup [.str "over", .str "rest"]) hp
    show if inV (.str d) [.str "over", .str "rest"] = true then _ else _
    rw [in2]
    refine iteD (fun c1 => ?_) (fun c1 => iteF ⟨g, fun z => c1 z.1⟩)
    refine ⟨_, rfl, rfl, _, rfl, iteD (fun c2 => ?_) (fun c2 => ⟨g, fun z => c2 (by rw [z.2])⟩)⟩
    exact ke .nought _ (by unfold lawTwo; rw [if_pos ⟨c1, V.int.inj c2⟩]) g
  rintro H1 ⟨g, hno⟩
  refine ⟨_, rfl, rfl, _, rfl, iteD (fun c => ?_) (fun c => ?_)⟩
  · have e := vstr c
    have b0 : b ≠ 0 := fun z => hno ⟨.inl e, z⟩
    exact ⟨_, rfl, _, rfl, _, _, rfl, rfl, inR_div (i := a) hb b0, k _ H1 (by unfold lawTwo; rw [if_neg hno, if_pos e]) g⟩
  replace c : ¬ d = "over" := fun e => c (by rw [e])
  refine ⟨_, rfl, rfl, _, rfl, iteD (fun c2 => ?_) (fun c2 => ?_)⟩
  · have e := vstr c2
    have b0 : b ≠ 0 := fun z => hno ⟨.inr e, z⟩
    exact ⟨_, rfl, _, rfl, _, rfl, _, _, rfl, rfl, inR_div (i := a) hb b0, _, rfl, _, _, rfl, rfl, inR_mul (fdiv_in ha b0) hb, _, _, rfl, rfl, k _ H1 (by unfold lawTwo; rw [if_neg hno, if_neg c, if_pos e]) g⟩
  replace c2 : ¬ d = "rest" := fun e => c2 (by rw [e])
  refine ⟨_, rfl, rfl, _, rfl, iteD (fun c3 => ?_) (fun c3 => ?_)⟩
  · refine ⟨_, rfl, _, rfl, _, _, rfl, rfl, .inr ⟨_, rfl, k _ H1 ?_ g⟩⟩
    unfold lawTwo
    rw [if_neg hno, if_neg c, if_neg c2, if_pos (vstr c3)]
    by_cases h : a < b <;> simp [h]
  replace c3 : ¬ d = "under" := fun e => c3 (by rw [e])
  refine ⟨_, rfl, rfl, _, rfl, iteD (fun c4 => ?_) (fun c4 => ?_)⟩
  · refine ⟨_, rfl, _, rfl, rfl, .inr ⟨_, rfl, k _ H1 ?_ g⟩⟩
    unfold lawTwo
    rw [if_neg hno, if_neg c, if_neg c2, if_neg c3, if_pos (vstr c4)]
    by_cases h : a = b <;> simp [h]
  replace c4 : ¬ d = "same" := fun e => c4 (by rw [e])
  refine ⟨_, rfl, _, rfl, _, _, rfl, rfl, inR_mul ha hb, ?_⟩
  refine ⟨fun σ H2 => H1 = H2 ∧ σ = [some (.int a), some (.int b), some (.str d), some (.int (if d = "plus" then a + b else a * b))], ?_, ?_⟩
  · refine ⟨_, rfl, rfl, _, rfl, iteD (fun c5 => ?_) (fun c5 => ?_)⟩
    · refine ⟨_, rfl, _, rfl, _, _, rfl, rfl, rfl, ?_⟩
      rw [if_pos (vstr c5)]
      rfl
    · refine ⟨rfl, ?_⟩
      rw [if_neg (fun e : d = "plus" => c5 (by rw [e]))]
      rfl
  rintro σ H2 ⟨rfl, rfl⟩
  refine ⟨fun σ H2 => H1 = H2 ∧ σ = [some (.int a), some (.int b), some (.str d), some (.int (if d = "minus" then a - b else if d = "plus" then a + b else a * b))], ?_, ?_⟩
  · refine ⟨_, rfl, rfl, _, rfl, iteD (fun c5 => ?_) (fun c5 => ?_)⟩
    · refine ⟨_, rfl, _, rfl, _, _, rfl, rfl, rfl, ?_⟩
      rw [if_pos (vstr c5)]
      rfl
    · refine ⟨rfl, ?_⟩
      rw [if_neg (fun e : d = "minus" => c5 (by rw [e]))]
  rintro σ H2 ⟨rfl, rfl⟩
  generalize hv : (if d = "minus" then a - b else if d = "plus" then a + b else a * b) = v
  have last := lawTwo_last c c2 c3 c4 hv
  refine ⟨_, rfl, _, _, rfl, rfl, ⟨by decide, by decide, by decide⟩, _, _, rfl, rfl, _, rfl, ?_⟩
  show if decide ((10 : Int) ^ (30 : Int).toNat < v) = true then _ else _
  rw [pow30]
  refine iteD (fun c5 => ?_) (fun c5 => ?_)
  · refine iteT ?_
    exact ke .great H1 (by rw [last, if_pos (.inl c5)]) g
  · refine ⟨_, rfl, _, _, rfl, rfl, ⟨by decide, by decide, by decide⟩, _, rfl, _, _, rfl, rfl, _, rfl, ?_⟩
    show if decide (v < -((10 : Int) ^ (30 : Int).toNat)) = true then _ else _
    rw [pow30]
    refine iteD (fun c6 => ?_) (fun c6 => ?_)
    · exact ke .great H1 (by rw [last, if_pos (.inr c6)]) g
    · exact ⟨_, rfl, k v H1 (by rw [last, if_neg (fun z => z.elim c5 c6)]) g⟩
end
end FR

/-! FRX: _law_worth. -/
namespace FR
open PySem L2
section
variable {P : Program} {w : World} {K : PySem.W.Frag} {mg : Str → Option Value} {base : Heap}
def spLWorth : Sp := fun vs H Q _ => ∃ (H0 : Hp) (t d s f l : Addr) (wy : Str) (T : Tab) (st : DSt) (tm : Term), vs = [.ref t, .ref d] ∧ Same H0 H ∧ H0 d = none ∧ TermAt H0 t tm ∧ LaAt H d s f l wy T st ∧ wfT tm 0 ∧ tm.length ≤ 1000 ∧ slotsOk st.slots ∧
  (∀ i H', worthT st.slots tm = .ok i → Same H0 H' → Same H H' → LaAt H' d s f l wy T st → Q (.int i) H') ∧ (∀ e H', worthT st.slots tm = .error e → Same H0 H' → LaAt H' d s f l e.str T st → Q .non H')
abbrev lworthN : List Str := ["term", "state", "parts", "part", "other", "made"]
theorem scLWorth : FnScope lworthN ["term", "state"] (defScope sLWorth) := ⟨rfl, rfl, rfl, by decide +kernel, rfl, by decide +kernel, by decide +kernel⟩
theorem ok_lworth {fn fT : Addr} {fd fdT : FuncData} (D : DefAt K mg "_law_worth" sLWorth ["term", "state"] fn fd) (DT : DefAt K mg "_law_two" sTwo ["one", "other", "word"] fT fdT) (B : Blt mg) :
    FnOk P w K mg base CX0 2 fn fd ["term", "state"] spLWorth := by
  have GT : FnOk P w K mg base CX0 1 fT fdT ["one", "other", "word"] spTwo := ok_two DT B
  refine D.F.ok scLWorth (fun vs H Q E h => ?_) (fun cdv A outer sh H vs Q E hr h => ?_)
  · obtain ⟨H0, t, d, s, f, l, wy, Tb, st, tm, rfl, _⟩ := h
    rfl
  obtain ⟨H0, t, d, s, f, l, wy, Tb, st, tm, rfl, g0, d0, hT, la, hw, hlen, hs, k, ke⟩ := h
  have nd := scLWorth.nd
  have hu := hu_of hr
  refine ⟨_, pss_cons (ps_set (i := 2) nd rfl (.inl rfl) (pe_lst pa_nil))
    (pss_cons (ps_for PassesOwn.never rfl (pi_tup (pv 0)) (pg_name (i := 3) nd rfl (.inl rfl))
      (pss_one (ps_if (pt_cmpR op_in_seq (pv 3) (pe_tup (pa_cons pe_str (pa_cons pe_str (pa_cons pe_str (pa_cons pe_str (pa_cons pe_str (pa_cons pe_str (pa_cons pe_str pa_nil)))))))) (by rfl))
        (pss_cons (ps_set (i := 4) nd rfl (.inl rfl) (pe_bm0 PySem.F.plainAttrs_list PySem.F.slot_list_pop PySem.F.type_list_pop mt_popL (pv 2)))
        (pss_cons (ps_set (i := 5) nd rfl (.inl rfl) (pe_call GT hr rfl DT.m DT.F.kp DT.b .nil pass0 (pa_cons (pe_bm0 PySem.F.plainAttrs_list PySem.F.slot_list_pop PySem.F.type_list_pop mt_popL (pv 2)) (pa_cons (pv 4) (pa_cons (pv 3) pa_nil)))))
        (pss_cons (ps_if (pt_val (pe_callB call_isi (by rfl) B.isinstance b_isi (pa_cons (pv 5) (pa_cons (pe_bltn (v := .ty "str") (by rfl) B.str b_str rfl) pa_nil)))) (pss_cons (ps_dput hu (pv 1) pe_str (pv 5) rfl) (pss_one (ps_ret pe_non))) pss_nil)
        (pss_one (ps_expr (pe_bm PySem.F.plainAttrs_list PySem.F.slot_list_append PySem.F.type_list_append mt_append (pv 2) (pa_cons (pv 5) pa_nil)))))))
        (pss_one (ps_if (pt_val (pe_callB call_isi (by rfl) B.isinstance b_isi (pa_cons (pv 3) (pa_cons (pe_bltn (v := .ty "int") (by rfl) B.int b_int rfl) pa_nil))))
          (pss_one (ps_expr (pe_bm PySem.F.plainAttrs_list PySem.F.slot_list_append PySem.F.type_list_append mt_append (pv 2) (pa_cons (pv 3) pa_nil))))
          (pss_one (ps_expr (pe_bm PySem.F.plainAttrs_list PySem.F.slot_list_append PySem.F.type_list_append mt_append (pv 2) (pa_cons (pe_dget2 hu (pe_dget hu (pv 1) pe_str (fun _ _ => rfl)) (pv 3) pe_int ⟨rfl, rfl, rfl, rfl⟩) pa_nil)))))))))
    (pss_one (ps_ret (pe_ix ix_list (pv 2) pe_int (fun _ _ => rfl))))), ?_⟩
  refine ⟨(by show 0 ≤ sizeLine; decide), fun p hp => ?_⟩
  have hp0 : H0 p = none := g0.free hp
  refine ⟨_, rfl, t, rfl, ⟨_, SqT.of (sameN hp _ _ (g0 _ _ hT))⟩, for_tup (K := K) (a := t) (xs := tm.map kV) (fun i σ2 H2 => ∃ (stk : List Int) (v3 v4 v5 : Option V), σ2 = [some (.ref t), some (.ref d), some (.ref p), v3, v4, v5] ∧
      H2 p = some (.lst (stV stk)) ∧ evalT st.slots (tm.drop i) stk = evalT st.slots tm [] ∧ wfT (tm.drop i) stk.length ∧ (∀ v ∈ stk, inR v) ∧ stk.length ≤ i ∧ Same H H2 ∧ LaAt H2 d s f l wy Tb st)
    ⟨[], none, none, none, rfl, upd_same, by rw [List.drop_zero], by rw [List.drop_zero]; exact hw, (fun _ h => nomatch h), Nat.le_refl _, sameN hp, la.same (sameN hp)⟩ (fun i σ2 H2 _ ⟨_, _, _, _, _, _, _, _, _, _, g, _⟩ => SqT.of (g _ _ (g0 _ _ hT))) ?_ ?_⟩
  · rintro i x σ2 H2 hi ⟨stk, v3, v4, v5, rfl, hl, hev, hwf, hin, hil, g, la2⟩
    have hi2 : i < tm.length := by
      have := (List.getElem?_eq_some_iff.mp hi).1
      rw [List.length_map] at this
      exact this
    obtain ⟨ky, hky, rfl⟩ : ∃ ky, tm[i]? = some ky ∧ x = kV ky := by
      rw [List.getElem?_map, List.getElem?_eq_getElem hi2] at hi
      exact ⟨_, List.getElem?_eq_getElem hi2, (Option.some.inj hi).symm⟩
    rw [drop_at hky] at hev hwf
    refine ⟨_, rfl, (by show 7 ≤ sizeLine; decide), fun p7 hp7 => ⟨p7, doers.map V.str, rfl, .inr (SqT.of upd_same), flat_key ky, flat_strs doers, _, rfl, ?_⟩⟩
    show if inV (kV ky) (doers.map V.str) = true then _ else _
    rw [in_doers]
    have g7 := sameN (o := .tup (doers.map V.str)) hp7
    have hl7 := g7 _ _ hl
    have gH7 := g.trans g7
    have la7 := la2.same g7
    refine ite2 (fun hdo => ?_) (fun hno => ?_)
    · obtain ⟨sg, rfl, hmem⟩ := isDoer_of hdo
      obtain ⟨h2, hwf2⟩ : 2 ≤ stk.length ∧ wfT (tm.drop (i + 1)) (stk.length - 1) := by
        rcases hwf with ⟨_, a, b⟩ | ⟨a, _⟩
        · exact ⟨a, b⟩
        · exact absurd hmem a
      match stk, h2, hl7, hev, hwf2, hin, hil with
      | b :: a :: r, _, hl7, hev, hwf2, hin, hil =>
        rw [stV_cons, stV_cons] at hl7
        have ha : inR a := hin a (by simp)
        have hb : inR b := hin b (by simp)
        simp only [evalT, turnT, if_pos hmem] at hev
        refine ⟨_, rfl, .inl ⟨rfl, _, SqL.of hl7⟩, p, _, _, rfl, rfl, hl7, ?_⟩
        refine ⟨_, rfl, .inl ⟨rfl, _, SqL.of upd_same⟩, p, _, _, rfl, rfl, upd_same, _, rfl, _, rfl, ?_⟩
        rw [upd_upd]
        have keep : ∀ {G : Hp} {xs : List V}, Same H G → Same H (upd G p (.lst xs)) := fun gg => sameU gg hp
        have laP : ∀ {G : Hp} {xs ys : List V}, LaAt G d s f l wy Tb st → G p = some (.lst ys) → Same H G → LaAt (upd G p (.lst xs)) d s f l wy Tb st := fun x e gg => by
          have nd1 : d ≠ p := ne_of x.di e (fun z => nomatch z)
          have nd2 : s ≠ p := ne_of x.sl e (fun z => nomatch z)
          have nd3 : f ≠ p := ne_of x.nw e (fun z => nomatch z)
          have nd4 : l ≠ p := fun z => by
            have q := la.sa
            rw [z, hp] at q
            cases q
          exact ⟨(upd_ne nd1).trans x.di, (upd_ne nd2).trans x.sl, (upd_ne nd3).trans x.nw, (upd_ne nd4).trans x.sa, x.ds⟩
        have gA : Same H (upd (upd H2 p7 (.tup (doers.map V.str))) p (.lst (stV r))) := keep gH7
        have laA : LaAt (upd (upd H2 p7 (.tup (doers.map V.str))) p (.lst (stV r))) d s f l wy Tb st := laP la7 hl7 gH7
        have hpA : (upd (upd H2 p7 (.tup (doers.map V.str))) p (.lst (stV r))) p = some (.lst (stV r)) := upd_same
        refine ⟨a, b, sg, rfl, ha, hb, fun v H3 hv g3 => ?_, fun e H3 he g3 => ?_⟩
        · rw [lawTwo_eq hmem ha hb] at hv
          rw [hv] at hev
          refine ⟨_, rfl, _, _, _, _, false, rfl, .ty "str", .base (.int v), kit_ty (by decide +kernel), _, rfl, iteF ?_⟩
          refine ⟨_, rfl, .inl ⟨rfl, _, SqL.of (g3 _ _ hpA)⟩, _, rfl, p, _, _, rfl, rfl, g3 _ _ hpA, small1000 (by rw [stV_length]; simp only [List.length_cons] at hil; omega), ?_⟩
          refine ⟨v :: r, _, _, _, rfl, ?_, hev, hwf2, fun y hy => ?_, by simp only [List.length_cons] at hil ⊢; omega, keep (gA.trans g3), laP (laA.same g3) (g3 _ _ hpA) (gA.trans g3)⟩
          · rw [upd_same, stV_cons]
          · rcases List.mem_cons.mp hy with z | z
            · rw [z]; exact worth1_in hv
            · exact hin y (by simp [z])
        · rw [lawTwo_eq hmem ha hb] at he
          rw [he] at hev
          have la3 := laA.same g3
          refine ⟨_, rfl, _, _, _, _, true, rfl, .ty "str", .base (.str e.str), kit_ty (by decide +kernel), _, rfl, iteT ?_⟩
          refine ⟨_, rfl, _, rfl, d, _, rfl, DPut.k (k := Sum.inr "why") la3.di (by show 4 < sizeLine; decide), ?_⟩
          rw [stK_put]
          exact ke e _ (by unfold worthT; rw [← hev]) (sameU (g0.trans (gA.trans g3)) d0) (la3.putWhy _)
    · have nlp : l ≠ p := fun z => by
        have q := la.sa
        rw [z, hp] at q
        cases q
      have laP : ∀ {xs : List V}, LaAt (upd (upd H2 p7 (.tup (doers.map V.str))) p (.lst xs)) d s f l wy Tb st := fun {xs} =>
        ⟨(upd_ne (ne_of la7.di hl7 (fun z => nomatch z))).trans la7.di, (upd_ne (ne_of la7.sl hl7 (fun z => nomatch z))).trans la7.sl, (upd_ne (ne_of la7.nw hl7 (fun z => nomatch z))).trans la7.nw, (upd_ne nlp).trans la7.sa, la7.ds⟩
      cases ky with
      | inl n =>
        refine ⟨_, rfl, _, _, _, _, true, rfl, .ty "int", .base (.int n), kit_ty (by decide +kernel), _, rfl, iteT ?_⟩
        refine ⟨_, rfl, .inl ⟨rfl, _, SqL.of hl7⟩, _, rfl, p, _, _, rfl, rfl, hl7, small1000 (by rw [stV_length]; omega), ?_⟩
        refine ⟨n :: stk, _, _, _, rfl, ?_, hev, hwf.2, fun y hy => ?_, by simp only [List.length_cons]; omega, sameU gH7 hp, laP⟩
        · rw [upd_same, stV_cons]
          rfl
        · rcases List.mem_cons.mp hy with z | z
          · rw [z]; exact hwf.1
          · exact hin y z
      | inr sg =>
        have hmem : sg ∉ doers := fun h => hno (decide_eq_true h)
        have hwf2 : wfT (tm.drop (i + 1)) (stk.length + 1) := by
          rcases hwf with ⟨a, _⟩ | ⟨_, b⟩
          · exact absurd a hmem
          · exact b
        simp only [evalT, turnT, if_neg hmem] at hev
        refine ⟨_, rfl, _, _, _, _, false, rfl, .ty "int", .base (.str sg), kit_ty (by decide +kernel), _, rfl, iteF ?_⟩
        refine ⟨_, rfl, .inl ⟨rfl, _, SqL.of hl7⟩, _, rfl, d, .ref s, rfl, .inl ⟨_, Sum.inr "slots", .inl la7.di, rfl, (stK_slots _ _ _ _).symm⟩, s, rfl, .inl ⟨_, .inl la7.sl⟩, _, rfl, _, DGet.k (k := Sum.inr sg) la7.sl, p, _, _, rfl, rfl, hl7, small1000 (by rw [stV_length]; omega), ?_⟩
        refine ⟨slotOf st.slots sg :: stk, _, _, _, rfl, ?_, hev, hwf2, fun y hy => ?_, by simp only [List.length_cons]; omega, sameU gH7 hp, laP⟩
        · rw [upd_same, stV_cons, valV_s]
          unfold slotOf
          cases aGet st.slots sg <;> rfl
        · rcases List.mem_cons.mp hy with z | z
          · rw [z]; exact slotOf_in hs sg
          · exact hin y z
  · rintro σ2 H2 ⟨stk, v3, v4, v5, rfl, hl, hev, hwf, hin, hil, g, la2⟩
    rw [List.length_map, List.drop_length] at hev hwf
    have h1 : stk.length = 1 := hwf
    match stk, h1, hl, hev with
    | [v], _, hl, hev =>
      refine ⟨_, rfl, p, _, _, _, rfl, rfl, SqL.of hl, (rfl : atI (stV [v]) (0 : Int) = some (V.int v)), ?_⟩
      exact k v H2 (by unfold worthT; rw [← hev]; rfl) (g0.trans g) g la2
end
end FR

/-! FRY: _law_one, _law_through. -/
namespace FR
open PySem L2
theorem in3 (d a b c : Str) : inV (.str d) [.str a, .str b, .str c] = decide (d = a ∨ d = b ∨ d = c) := by
  show (decide (a = d) || (decide (b = d) || (decide (c = d) || false))) = _
  by_cases h1 : d = a
  · rw [decide_eq_true h1.symm, decide_eq_true (Or.inl h1)]
    rfl
  · rw [decide_eq_false (fun e => h1 e.symm), Bool.false_or]
    by_cases h2 : d = b
    · rw [decide_eq_true h2.symm, decide_eq_true (Or.inr (Or.inl h2))]
      rfl
    · rw [decide_eq_false (fun e => h2 e.symm), Bool.false_or]
      by_cases h3 : d = c
      · rw [decide_eq_true h3.symm, decide_eq_true (Or.inr (Or.inr h3))]
        rfl
      · rw [decide_eq_false (fun e => h3 e.symm), decide_eq_false (fun z => z.elim h1 (fun z => z.elim h2 h3))]
        rfl
theorem ne_rows2 : ("say" : Str) ≠ "take" ∧ ("off" : Str) ≠ "take" ∧ ("off" : Str) ≠ "give" ∧ ("off" : Str) ≠ "let" ∧ ("off" : Str) ≠ "say" ∧ ("if" : Str) ≠ "take" ∧ ("if" : Str) ≠ "give" ∧ ("if" : Str) ≠ "let" ∧ ("if" : Str) ≠ "say" ∧ ("if" : Str) ≠ "off" := by decide +kernel
theorem i3_0 {a b c : V} : atI [a, b, c] (0 : Int) = some a := rfl
section
variable {P : Program} {w : World} {K : PySem.W.Frag} {mg : Str → Option Value} {base : Heap}
/-- a row with at most n blocks within one another -/
def spLOne (n : Nat) : Sp := fun vs H Q _ => ∃ (H0 : Hp) (q d s f l : Addr) (T : Tab) (st : DSt) (r : DRow), vs = [.ref q, .ref d] ∧ Same H0 H ∧ H0 d = none ∧ H0 s = none ∧ H0 f = none ∧ H0 l = none ∧ At H0 (.ref q) (dRow r) ∧ LaAt H d s f l "told" T st ∧ okS T st ∧ (keysOf T).Nodup ∧ T.length ≤ 4000 ∧ lenS st + szR r ≤ 3000 ∧ wfR r n ∧
  (∀ st' H', runR T r st = .ok st' → Same H0 H' → LaAt H' d s f l "told" T st' → Q (.bl true) H') ∧ (∀ e H' st', runR T r st = .error e → Same H0 H' → LaAt H' d s f l e.str T st' → Q (.bl false) H')
def spThr : Nat → Sp
  | 0 => fun _ _ _ _ => False
  | n + 1 => fun vs H Q _ => ∃ (H0 : Hp) (a d s f l : Addr) (T : Tab) (st : DSt) (rs : List DRow), vs = [.ref a, .ref d] ∧ Same H0 H ∧ H0 d = none ∧ H0 s = none ∧ H0 f = none ∧ H0 l = none ∧ At H0 (.ref a) (.list (dRows rs)) ∧ LaAt H d s f l "told" T st ∧ okS T st ∧ (keysOf T).Nodup ∧ T.length ≤ 4000 ∧ lenS st + szRs rs ≤ 3000 ∧ wfRs rs n ∧
      (∀ st' H', runRs T rs st = .ok st' → Same H0 H' → LaAt H' d s f l "told" T st' → Q (.bl true) H') ∧ (∀ e H' st', runRs T rs st = .error e → Same H0 H' → LaAt H' d s f l e.str T st' → Q (.bl false) H')
theorem scLOne : FnScope ["row", "state", "first", "second"] ["row", "state"] (defScope sLOne) := ⟨rfl, rfl, rfl, by decide +kernel, rfl, by decide +kernel, by decide +kernel⟩
theorem scThrough : FnScope ["rows", "state", "row"] ["rows", "state"] (defScope sThrough) := ⟨rfl, rfl, rfl, by decide +kernel, rfl, by decide +kernel, by decide +kernel⟩
theorem none_thr {f : Addr} {fd : FuncData} {k : Nat} {ps : List Str} : FnOk P w K mg base CX0 k f fd ps (spThr 0) :=
  ⟨fun _ _ _ _ h => h.elim, fun _ _ _ _ _ _ _ _ _ _ _ _ _ h => h.elim⟩
/-- what stands in the law's state -/
theorem la_get {H : Hp} {d s f l : Addr} {wy : Str} {T : Tab} {st : DSt} (x : LaAt H d s f l wy T st) : DGet H d (.str "slots") (some (.ref s)) ∧ DGet H d (.str "now") (some (.ref f)) ∧ DGet H d (.str "said") (some (.ref l)) ∧ DGet H d (.str "why") (some (.str wy)) :=
  ⟨.inl ⟨_, Sum.inr "slots", .inl x.di, rfl, (stK_slots _ _ _ _).symm⟩, .inl ⟨_, Sum.inr "now", .inl x.di, rfl, (stK_now _ _ _ _).symm⟩, .inl ⟨_, Sum.inr "said", .inl x.di, rfl, (stK_said _ _ _ _).symm⟩, .inl ⟨_, Sum.inr "why", .inl x.di, rfl, (stK_why _ _ _ _).symm⟩⟩
theorem ok_lone {fn fW fT : Addr} {fd fdW fdT : FuncData} {n : Nat} (D : DefAt K mg "_law_one" sLOne ["row", "state"] fn fd) (DW : DefAt K mg "_law_worth" sLWorth ["term", "state"] fW fdW) (GW : FnOk P w K mg base CX0 2 fW fdW ["term", "state"] spLWorth)
    (DT : DefAt K mg "_law_through" sThrough ["rows", "state"] fT fdT) (GT : FnOk P w K mg base CX0 (2 * n + 2) fT fdT ["rows", "state"] (spThr n)) (B : Blt mg) :
    FnOk P w K mg base CX0 (2 * n + 2 + 1) fn fd ["row", "state"] (spLOne n) := by
  refine D.F.ok scLOne (fun vs H Q E h => ?_) (fun cdv A outer sh H vs Q E hr h => ?_)
  · obtain ⟨H0, q, d, s, f, l, Tb, st, r, rfl, _⟩ := h
    rfl
  obtain ⟨H0, q, d, s, f, l, Tb, st, r, rfl, g0, d0, s0, f0, l0, hrow, la, ok, hnd, hTl, hlen, hw, k, ke⟩ := h
  have nd := scLOne.nd
  have hu := hu_of hr
  have hr2 : Room 2 _ := hr.mono (by omega)
  refine ⟨_, pss_cons (ps_set (i := 2) nd rfl (.inl rfl) (pe_call GW hr2 rfl DW.m DW.F.kp DW.b .nil pass0 (pa_cons (pe_ix ix_tup (pv 0) (pe_op op_add pe_int (pe_callTy call_int1 (by rfl) B.int b_int (pa_cons (pe_cmpR op_in_seq (pe_ix ix_tup (pv 0) pe_int (fun _ _ => rfl)) (pe_tup (pa_cons pe_str (pa_cons pe_str (pa_cons pe_str pa_nil)))) (by rfl)) pa_nil))) (fun _ _ => rfl)) (pa_cons (pv 1) pa_nil))))
    (pss_cons (ps_if (pt_cmp (pc_isN (pv 2))) (pss_one (ps_ret pe_bl)) pss_nil)
    (pss_cons (ps_if (pt_cmpR op_eq (pe_ix ix_tup (pv 0) pe_int (fun _ _ => rfl)) pe_str (nomark _))
      (pss_one (ps_dput hu (pe_dget hu (pv 1) pe_str (fun _ _ => rfl)) (pe_ix ix_tup (pv 0) pe_int (fun _ _ => rfl)) (pe_dget2 hu (pe_dget hu (pv 1) pe_str (fun _ _ => rfl)) (pe_tup (pa_cons (pe_ix ix_tup (pv 0) pe_int (fun _ _ => rfl)) (pa_cons (pv 2) pa_nil))) pe_int ⟨rfl, rfl, rfl, rfl⟩) rfl))
      (pss_one (ps_if (pt_cmpR op_eq (pe_ix ix_tup (pv 0) pe_int (fun _ _ => rfl)) pe_str (nomark _))
        (pss_cons (ps_set (i := 3) nd rfl (.inl rfl) (pe_call GW hr2 rfl DW.m DW.F.kp DW.b .nil pass0 (pa_cons (pe_ix ix_tup (pv 0) pe_int (fun _ _ => rfl)) (pa_cons (pv 1) pa_nil))))
        (pss_cons (ps_if (pt_cmp (pc_isN (pv 3))) (pss_one (ps_ret pe_bl)) pss_nil)
        (pss_one (ps_dput hu (pe_dget hu (pv 1) pe_str (fun _ _ => rfl)) (pe_tup (pa_cons (pe_ix ix_tup (pv 0) pe_int (fun _ _ => rfl)) (pa_cons (pv 2) pa_nil))) (pv 3) rfl))))
        (pss_one (ps_if (pt_cmpR op_eq (pe_ix ix_tup (pv 0) pe_int (fun _ _ => rfl)) pe_str (nomark _))
          (pss_one (ps_dput hu (pe_dget hu (pv 1) pe_str (fun _ _ => rfl)) (pe_ix ix_tup (pv 0) pe_int (fun _ _ => rfl)) (pv 2) rfl))
          (pss_one (ps_if (pt_cmpR op_eq (pe_ix ix_tup (pv 0) pe_int (fun _ _ => rfl)) pe_str (nomark _))
            (pss_one (ps_expr (pe_bm PySem.F.plainAttrs_list PySem.F.slot_list_append PySem.F.type_list_append mt_append (pe_dget hu (pv 1) pe_str (fun _ _ => rfl)) (pa_cons (pv 2) pa_nil))))
            (pss_one (ps_if (pt_cmpR op_eq (pe_ix ix_tup (pv 0) pe_int (fun _ _ => rfl)) pe_str (nomark _))
              (pss_one (ps_ret (pe_cmpR op_eq (pv 2) pe_int (nomark _))))
              (pss_one (ps_ret (pe_call GT hr rfl DT.m DT.F.kp DT.b .nil pass0 (pa_cons (pe_ix ix_tup (pv 0) (pe_op op_sub pe_int (pe_callTy call_int1 (by rfl) B.int b_int (pa_cons (pe_cmpR op_ne (pv 2) pe_int (nomark _)) pa_nil))) (fun _ _ => rfl)) (pa_cons (pv 1) pa_nil))))))))))))))
    (pss_one (ps_ret pe_bl)))), ?_⟩
  obtain ⟨_, n2, n3, n4, n5, n6, _⟩ := ne_rows
  obtain ⟨m1, m2, m3, m4, m5, m6, m7, m8, m9, m10⟩ := ne_rows2
  obtain ⟨n1, _⟩ := ne_rows
  have ls : st.slots.length ≤ 3000 := by unfold lenS at hlen; omega
  have lg : st.gifts.length ≤ 3000 := by unfold lenS at hlen; omega
  have ll : st.said.length ≤ 3000 := by unfold lenS at hlen; omega
  have lm := length_merge st.gifts Tb
  have nM : (keysOf (aMerge Tb st.gifts)).Nodup := nodup_merge _ _ hnd
  cases r with
  | take shf e sl =>
    obtain ⟨t, hq0, ht0⟩ := of_take hrow
    have hq := g0 _ _ hq0
    simp only [wfR] at hw
    refine ⟨_, rfl, _, rfl, q, _, _, _, rfl, rfl, SqT.of hq, i4_0, (by show 3 ≤ sizeLine; decide), fun p3 hp3 => ?_⟩
    have g1 := sameN (o := .tup [.str "take", .str "give", .str "let"]) hp3
    refine ⟨p3, _, rfl, .inr (SqT.of upd_same), rfl, rfl, .inr ⟨_, rfl, _, _, rfl, rfl, q, _, _, _, rfl, rfl, SqT.of (g1 _ _ hq), i4_2, _, rfl, ?_⟩⟩
    refine ⟨H0, t, d, s, f, l, "told", Tb, st, e, rfl, g0.trans g1, d0, ht0, la.same g1, hw.1, Nat.le_trans hw.2 (by decide), ok.1, fun nn H2 hn g2 g2' la2 => ?_, fun er H2 her g2 la2 => ?_⟩
    · refine ⟨_, rfl, _, rfl, iteDF (fun z => nomatch z) ?_⟩
      refine ⟨_, rfl, q, _, _, _, rfl, rfl, SqT.of (g2 _ _ hq0), i4_0, rfl, _, rfl, iteDT rfl ?_⟩
      obtain ⟨k1, k2, k3, k4⟩ := la_get la2
      refine ⟨_, rfl, d, .ref f, rfl, k2, f, rfl, .inr ⟨_, .inl la2.nw⟩, _, rfl, q, _, _, _, rfl, rfl, SqT.of (g2 _ _ hq0), i4_1, _, rfl, (by show 2 ≤ sizeLine; decide), fun p hp => ?_⟩
      have g3 := sameN (o := .tup [.str shf, .int nn]) hp
      have la3 := la2.same g3
      have hpl : PlAt (upd H2 p (.tup [.str shf, .int nn])) p (shf, nn) := upd_same
      refine ⟨_, DGet.t (k := pk (shf, nn)) la3.nw hpl, ?_⟩
      obtain ⟨k1, k2, k3, k4⟩ := la_get la3
      refine ⟨_, rfl, d, .ref s, rfl, k1, _, rfl, q, _, _, _, rfl, rfl, SqT.of (g3 _ _ (g2 _ _ hq0)), i4_3, s, _, rfl, DPut.k (k := Sum.inr sl) la3.sl (by rw [skv_length]; exact small1000' (by omega)), ?_⟩
      have ev : (valV (tkv (aMerge Tb st.gifts)) (pk (shf, nn))).getD (.int 0) = .int (seen Tb st.gifts (shf, nn)) := by
        rw [valV_t, aGet_merge _ _ _ ok.2.2.1]
        unfold seen
        cases aGet st.gifts (shf, nn) with
        | some v => rfl
        | none =>
          cases aGet Tb (shf, nn) <;> rfl
      rw [ev, putK_s ok.1.2]
      exact k _ _ (by simp only [runR, runB]; rw [hn]) (sameU (g2.trans g3) s0) (la3.putSlot _)
    · exact ⟨_, rfl, _, rfl, iteDT rfl (ke er H2 st (by simp only [runR, runB]; rw [her]) g2 la2)⟩
  | give shf e e2 =>
    obtain ⟨t, u, hq0, ht0, hu0⟩ := of_give hrow
    have hq := g0 _ _ hq0
    simp only [wfR] at hw
    obtain ⟨hw1, hw2⟩ := hw
    refine ⟨_, rfl, _, rfl, q, _, _, _, rfl, rfl, SqT.of hq, i4_0, (by show 3 ≤ sizeLine; decide), fun p3 hp3 => ?_⟩
    have g1 := sameN (o := .tup [.str "take", .str "give", .str "let"]) hp3
    refine ⟨p3, _, rfl, .inr (SqT.of upd_same), rfl, rfl, .inr ⟨_, rfl, _, _, rfl, rfl, q, _, _, _, rfl, rfl, SqT.of (g1 _ _ hq), i4_2, _, rfl, ?_⟩⟩
    refine ⟨H0, t, d, s, f, l, "told", Tb, st, e, rfl, g0.trans g1, d0, ht0, la.same g1, hw1.1, Nat.le_trans hw1.2 (by decide), ok.1, fun nn H2 hn g2 g2' la2 => ?_, fun er H2 her g2 la2 => ?_⟩
    · refine ⟨_, rfl, _, rfl, iteDF (fun z => nomatch z) ?_⟩
      refine ⟨_, rfl, q, _, _, _, rfl, rfl, SqT.of (g2 _ _ hq0), i4_0, rfl, _, rfl, iteDF (fun z => n1 (vstr z)) ?_⟩
      refine ⟨_, rfl, q, _, _, _, rfl, rfl, SqT.of (g2 _ _ hq0), i4_0, rfl, _, rfl, iteDT rfl ?_⟩
      refine ⟨_, rfl, q, _, _, _, rfl, rfl, SqT.of (g2 _ _ hq0), i4_3, _, rfl, ?_⟩
      refine ⟨H0, u, d, s, f, l, "told", Tb, st, e2, rfl, g2, d0, hu0, la2, hw2.1, Nat.le_trans hw2.2 (by decide), ok.1, fun vv H3 hv g3 g3' la3 => ?_, fun er H3 her g3 la3 => ?_⟩
      · refine ⟨_, rfl, _, rfl, iteDF (fun z => nomatch z) ?_⟩
        obtain ⟨k1, k2, k3, k4⟩ := la_get la3
        refine ⟨_, rfl, _, rfl, d, .ref f, rfl, k2, _, rfl, q, _, _, _, rfl, rfl, SqT.of (g3 _ _ hq0), i4_1, _, rfl, (by show 2 ≤ sizeLine; decide), fun p hp => ?_⟩
        have g4 := sameN (o := .tup [.str shf, .int nn]) hp
        have la4 := la3.same g4
        have hpl : PlAt (upd H3 p (.tup [.str shf, .int nn])) p (shf, nn) := upd_same
        refine ⟨f, _, rfl, DPut.t (k := pk (shf, nn)) la4.nw hpl (by rw [tkv_length]; exact small1000' (by omega)), ?_⟩
        rw [putK_t nM, ← merge_put _ _ _ _ ok.2.2.1]
        exact k _ _ (by simp only [runR, runB]; rw [hn, hv]) (sameU (g3.trans g4) f0) (la4.putGift _)
      · exact ⟨_, rfl, _, rfl, iteDT rfl (ke er H3 st (by simp only [runR, runB]; rw [hn, her]) g3 la3)⟩
    · exact ⟨_, rfl, _, rfl, iteDT rfl (ke er H2 st (by simp only [runR, runB]; rw [her]) g2 la2)⟩
  | letr sl e =>
    obtain ⟨t, hq0, ht0⟩ := of_letr hrow
    have hq := g0 _ _ hq0
    simp only [wfR] at hw
    refine ⟨_, rfl, _, rfl, q, _, _, _, rfl, rfl, SqT.of hq, i3_0, (by show 3 ≤ sizeLine; decide), fun p3 hp3 => ?_⟩
    have g1 := sameN (o := .tup [.str "take", .str "give", .str "let"]) hp3
    refine ⟨p3, _, rfl, .inr (SqT.of upd_same), rfl, rfl, .inr ⟨_, rfl, _, _, rfl, rfl, q, _, _, _, rfl, rfl, SqT.of (g1 _ _ hq), ix2, _, rfl, ?_⟩⟩
    refine ⟨H0, t, d, s, f, l, "told", Tb, st, e, rfl, g0.trans g1, d0, ht0, la.same g1, hw.1, Nat.le_trans hw.2 (by decide), ok.1, fun nn H2 hn g2 g2' la2 => ?_, fun er H2 her g2 la2 => ?_⟩
    · refine ⟨_, rfl, _, rfl, iteDF (fun z => nomatch z) ?_⟩
      refine ⟨_, rfl, q, _, _, _, rfl, rfl, SqT.of (g2 _ _ hq0), i3_0, rfl, _, rfl, iteDF (fun z => n2 (vstr z)) ?_⟩
      refine ⟨_, rfl, q, _, _, _, rfl, rfl, SqT.of (g2 _ _ hq0), i3_0, rfl, _, rfl, iteDF (fun z => n3 (vstr z)) ?_⟩
      refine ⟨_, rfl, q, _, _, _, rfl, rfl, SqT.of (g2 _ _ hq0), i3_0, rfl, _, rfl, iteDT rfl ?_⟩
      obtain ⟨k1, k2, k3, k4⟩ := la_get la2
      refine ⟨_, rfl, _, rfl, d, .ref s, rfl, k1, _, rfl, q, _, _, _, rfl, rfl, SqT.of (g2 _ _ hq0), ix1, s, _, rfl, DPut.k (k := Sum.inr sl) la2.sl (by rw [skv_length]; exact small1000' (by omega)), ?_⟩
      rw [putK_s ok.1.2]
      exact k _ _ (by simp only [runR, runB]; rw [hn]) (sameU g2 s0) (la2.putSlot _)
    · exact ⟨_, rfl, _, rfl, iteDT rfl (ke er H2 st (by simp only [runR, runB]; rw [her]) g2 la2)⟩
  | say e =>
    obtain ⟨t, hq0, ht0⟩ := of_say hrow
    have hq := g0 _ _ hq0
    simp only [wfR] at hw
    refine ⟨_, rfl, _, rfl, q, _, _, _, rfl, rfl, SqT.of hq, i2_0, (by show 3 ≤ sizeLine; decide), fun p3 hp3 => ?_⟩
    have g1 := sameN (o := .tup [.str "take", .str "give", .str "let"]) hp3
    refine ⟨p3, _, rfl, .inr (SqT.of upd_same), rfl, rfl, .inr ⟨_, rfl, _, _, rfl, rfl, q, _, _, _, rfl, rfl, SqT.of (g1 _ _ hq), i2_1, _, rfl, ?_⟩⟩
    refine ⟨H0, t, d, s, f, l, "told", Tb, st, e, rfl, g0.trans g1, d0, ht0, la.same g1, hw.1, Nat.le_trans hw.2 (by decide), ok.1, fun nn H2 hn g2 g2' la2 => ?_, fun er H2 her g2 la2 => ?_⟩
    · refine ⟨_, rfl, _, rfl, iteDF (fun z => nomatch z) ?_⟩
      refine ⟨_, rfl, q, _, _, _, rfl, rfl, SqT.of (g2 _ _ hq0), i2_0, rfl, _, rfl, iteDF (fun z => n4 (vstr z)) ?_⟩
      refine ⟨_, rfl, q, _, _, _, rfl, rfl, SqT.of (g2 _ _ hq0), i2_0, rfl, _, rfl, iteDF (fun z => n5 (vstr z)) ?_⟩
      refine ⟨_, rfl, q, _, _, _, rfl, rfl, SqT.of (g2 _ _ hq0), i2_0, rfl, _, rfl, iteDF (fun z => n6 (vstr z)) ?_⟩
      refine ⟨_, rfl, q, _, _, _, rfl, rfl, SqT.of (g2 _ _ hq0), i2_0, rfl, _, rfl, iteDT rfl ?_⟩
      obtain ⟨k1, k2, k3, k4⟩ := la_get la2
      refine ⟨_, rfl, d, .ref l, rfl, k3, .inl ⟨rfl, _, SqL.of la2.sa⟩, _, rfl, l, _, _, rfl, rfl, la2.sa, small1000' (by rw [List.length_map]; omega), ?_⟩
      have e1 : st.said.map V.int ++ [V.int nn] = (st.said ++ [nn]).map V.int := by rw [List.map_append]; rfl
      rw [e1]
      exact k _ _ (by simp only [runR, runB]; rw [hn]) (sameU g2 l0) (la2.putSaid _)
    · exact ⟨_, rfl, _, rfl, iteDT rfl (ke er H2 st (by simp only [runR, runB]; rw [her]) g2 la2)⟩
  | off e =>
    obtain ⟨t, hq0, ht0⟩ := of_off hrow
    have hq := g0 _ _ hq0
    simp only [wfR] at hw
    refine ⟨_, rfl, _, rfl, q, _, _, _, rfl, rfl, SqT.of hq, i2_0, (by show 3 ≤ sizeLine; decide), fun p3 hp3 => ?_⟩
    have g1 := sameN (o := .tup [.str "take", .str "give", .str "let"]) hp3
    refine ⟨p3, _, rfl, .inr (SqT.of upd_same), rfl, rfl, .inr ⟨_, rfl, _, _, rfl, rfl, q, _, _, _, rfl, rfl, SqT.of (g1 _ _ hq), i2_1, _, rfl, ?_⟩⟩
    refine ⟨H0, t, d, s, f, l, "told", Tb, st, e, rfl, g0.trans g1, d0, ht0, la.same g1, hw.1, Nat.le_trans hw.2 (by decide), ok.1, fun nn H2 hn g2 g2' la2 => ?_, fun er H2 her g2 la2 => ?_⟩
    · refine ⟨_, rfl, _, rfl, iteDF (fun z => nomatch z) ?_⟩
      refine ⟨_, rfl, q, _, _, _, rfl, rfl, SqT.of (g2 _ _ hq0), i2_0, rfl, _, rfl, iteDF (fun z => m2 (vstr z)) ?_⟩
      refine ⟨_, rfl, q, _, _, _, rfl, rfl, SqT.of (g2 _ _ hq0), i2_0, rfl, _, rfl, iteDF (fun z => m3 (vstr z)) ?_⟩
      refine ⟨_, rfl, q, _, _, _, rfl, rfl, SqT.of (g2 _ _ hq0), i2_0, rfl, _, rfl, iteDF (fun z => m4 (vstr z)) ?_⟩
      refine ⟨_, rfl, q, _, _, _, rfl, rfl, SqT.of (g2 _ _ hq0), i2_0, rfl, _, rfl, iteDF (fun z => m5 (vstr z)) ?_⟩
      refine ⟨_, rfl, q, _, _, _, rfl, rfl, SqT.of (g2 _ _ hq0), i2_0, rfl, _, rfl, iteDT rfl ?_⟩
      refine ⟨_, rfl, rfl, ?_⟩
      by_cases c : nn = 0
      · subst c
        exact k st H2 (by simp only [runR, runB]; rw [hn]; rfl) g2 la2
      · have e2 : decide (V.int nn = V.int 0) = false := decide_eq_false (fun z => c (V.int.inj z))
        show Q (.bl (decide (V.int nn = V.int 0))) H2
        rw [e2]
        exact ke .told H2 st (by simp only [runR, runB]; rw [hn]; simp only [if_neg c]) g2 la2
    · exact ⟨_, rfl, _, rfl, iteDT rfl (ke er H2 st (by simp only [runR, runB]; rw [her]) g2 la2)⟩
  | iff e ra rb =>
    obtain ⟨t, ua, va, hq0, ht0, hua, hva⟩ := of_iff hrow
    have hq := g0 _ _ hq0
    simp only [wfR] at hw
    obtain ⟨hwt, hn0, hwa, hwb⟩ := hw
    simp only [szR] at hlen
    match n, GT, hn0, hwa, hwb with
    | n + 1, GT, _, hwa, hwb =>
    refine ⟨_, rfl, _, rfl, q, _, _, _, rfl, rfl, SqT.of hq, i4_0, (by show 3 ≤ sizeLine; decide), fun p3 hp3 => ?_⟩
    have g1 := sameN (o := .tup [.str "take", .str "give", .str "let"]) hp3
    refine ⟨p3, _, rfl, .inr (SqT.of upd_same), rfl, rfl, .inr ⟨_, rfl, _, _, rfl, rfl, q, _, _, _, rfl, rfl, SqT.of (g1 _ _ hq), i4_1, _, rfl, ?_⟩⟩
    refine ⟨H0, t, d, s, f, l, "told", Tb, st, e, rfl, g0.trans g1, d0, ht0, la.same g1, hwt.1, Nat.le_trans hwt.2 (by decide), ok.1, fun nn H2 hn g2 g2' la2 => ?_, fun er H2 her g2 la2 => ?_⟩
    · refine ⟨_, rfl, _, rfl, iteDF (fun z => nomatch z) ?_⟩
      refine ⟨_, rfl, q, _, _, _, rfl, rfl, SqT.of (g2 _ _ hq0), i4_0, rfl, _, rfl, iteDF (fun z => m6 (vstr z)) ?_⟩
      refine ⟨_, rfl, q, _, _, _, rfl, rfl, SqT.of (g2 _ _ hq0), i4_0, rfl, _, rfl, iteDF (fun z => m7 (vstr z)) ?_⟩
      refine ⟨_, rfl, q, _, _, _, rfl, rfl, SqT.of (g2 _ _ hq0), i4_0, rfl, _, rfl, iteDF (fun z => m8 (vstr z)) ?_⟩
      refine ⟨_, rfl, q, _, _, _, rfl, rfl, SqT.of (g2 _ _ hq0), i4_0, rfl, _, rfl, iteDF (fun z => m9 (vstr z)) ?_⟩
      refine ⟨_, rfl, q, _, _, _, rfl, rfl, SqT.of (g2 _ _ hq0), i4_0, rfl, _, rfl, iteDF (fun z => m10 (vstr z)) ?_⟩
      have fin : ∀ (b : Addr) (ri : List DRow), At H0 (.ref b) (.list (dRows ri)) → wfRs ri n → szRs ri ≤ szRs ra + szRs rb → runR Tb (.iff e ra rb) st = runRs Tb ri st → spThr (n + 1) [.ref b, .ref d] H2 Q E0 := by
        intro b ri hb hwi hszi hrun
        exact ⟨H0, b, d, s, f, l, Tb, st, ri, rfl, g2, d0, s0, f0, l0, hb, la2, ok, hnd, hTl, by omega, hwi, fun st' H3 h3 g3 la3 => k st' H3 (hrun.trans h3) g3 la3, fun er H3 st' h3 g3 la3 => ke er H3 st' (hrun.trans h3) g3 la3⟩
      by_cases c : nn = 0
      · subst c
        refine ⟨_, rfl, _, rfl, rfl, .inr ⟨_, rfl, _, _, rfl, rfl, q, _, _, .ref va, rfl, rfl, SqT.of (g2 _ _ hq0), rfl, _, rfl, ?_⟩⟩
        exact fin va rb hva hwb (by omega) (by simp only [runR]; rw [hn]; rfl)
      · have e2 : (!decide (V.int nn = V.int 0)) = true := by
          rw [decide_eq_false (fun z => c (V.int.inj z))]
          rfl
        refine ⟨_, rfl, _, rfl, rfl, .inr ⟨_, rfl, _, _, rfl, rfl, q, _, _, .ref ua, rfl, rfl, SqT.of (g2 _ _ hq0), ?_, _, rfl, ?_⟩⟩
        · show atI [V.str "if", .ref t, .ref ua, .ref va] (3 - (if (!decide (V.int nn = V.int 0)) = true then 1 else 0)) = some (.ref ua)
          rw [e2]
          rfl
        · exact fin ua ra hua hwa (by omega) (by simp only [runR]; rw [hn]; simp only [if_neg c])
    · exact ⟨_, rfl, _, rfl, iteDT rfl (ke er H2 st (by simp only [runR]; rw [her]) g2 la2)⟩
theorem ok_thr1 {fn fO : Addr} {fd fdO : FuncData} {n : Nat} (D : DefAt K mg "_law_through" sThrough ["rows", "state"] fn fd) (DO : DefAt K mg "_law_one" sLOne ["row", "state"] fO fdO) (GO : FnOk P w K mg base CX0 (2 * n + 2 + 1) fO fdO ["row", "state"] (spLOne n)) :
    FnOk P w K mg base CX0 (2 * n + 2 + 1 + 1) fn fd ["rows", "state"] (spThr (n + 1)) := by
  refine D.F.ok scThrough (fun vs H Q E h => ?_) (fun cdv A outer sh H vs Q E hr h => ?_)
  · obtain ⟨H0, a, d, s, f, l, Tb, st, rs, rfl, _⟩ := h
    rfl
  obtain ⟨H0, a, d, s, f, l, Tb, st, rs, rfl, g0, d0, s0, f0, l0, hrows, la, ok, hnd, hTl, hlen, hw, k, ke⟩ := h
  have nd := scThrough.nd
  refine ⟨_, pss_cons (ps_for PassesOwn.never rfl (pi_list (pv 0)) (pg_name (i := 2) nd rfl (.inl rfl))
      (pss_one (ps_if (pt_not (pt_val (pe_call GO hr rfl DO.m DO.F.kp DO.b .nil pass0 (pa_cons (pv 2) (pa_cons (pv 1) pa_nil))))) (pss_one (ps_ret pe_bl)) pss_nil)))
    (pss_one (ps_ret pe_bl)), ?_⟩
  cases hrows with
  | @lst _ vs _ ha hall =>
  refine ⟨_, rfl, a, rfl, ⟨_, SqL.of (g0 _ _ ha)⟩, for_list (K := K) (a := a) (xs := vs) (fun i σ H2 => ∃ (st2 : DSt) (v2 : Option V), σ = [some (.ref a), some (.ref d), v2] ∧ Same H0 H2 ∧ LaAt H2 d s f l "told" Tb st2 ∧ okS Tb st2 ∧ runRs Tb (rs.drop i) st2 = runRs Tb rs st ∧ lenS st2 + szRs (rs.drop i) ≤ 3000)
    ⟨st, none, rfl, g0, la, ok, by rw [List.drop_zero], by rw [List.drop_zero]; exact hlen⟩ (fun i σ H2 _ ⟨_, _, _, gg, _⟩ => SqL.of (gg _ _ ha)) ?_ ?_⟩
  · rintro i y σ H2 hi ⟨st2, v2, rfl, g2, la2, ok2, hev, hln⟩
    obtain ⟨q, r, rfl, hri, hrow⟩ := row_at hall hi
    have hwd := wfRs_drop (i := i) hw
    rw [drop_at hri] at hev hln hwd
    simp only [wfRs] at hwd
    simp only [runRs] at hev
    simp only [szRs] at hln
    refine ⟨_, rfl, _, rfl, H0, q, d, s, f, l, Tb, st2, r, rfl, g2, d0, s0, f0, l0, hrow, la2, ok2, hnd, hTl, by omega, hwd.1, fun st' H3 hrun g3 la3 => ?_, fun er H3 st' hrun g3 la3 => ?_⟩
    · rw [hrun] at hev
      have h1 := runR_len r st2 st' hrun
      exact ⟨true, rfl, iteF ⟨st', _, rfl, g3, la3, runR_ok r n st2 st' hwd.1 ok2 hrun, hev, by omega⟩⟩
    · rw [hrun] at hev
      exact ⟨false, rfl, iteT (ke er H3 st' hev.symm g3 la3)⟩
  · rintro σ H2 ⟨st2, v2, rfl, g2, la2, ok2, hev, hln⟩
    have hl : vs.length = rs.length := by rw [hall.length, dRows_length]
    rw [hl, List.drop_length] at hev
    simp only [runRs] at hev
    exact k st2 H2 hev.symm g2 la2
theorem ok_thr {fn fO fW : Addr} {fd fdO fdW : FuncData} (D : DefAt K mg "_law_through" sThrough ["rows", "state"] fn fd) (DO : DefAt K mg "_law_one" sLOne ["row", "state"] fO fdO)
    (DW : DefAt K mg "_law_worth" sLWorth ["term", "state"] fW fdW) (GW : FnOk P w K mg base CX0 2 fW fdW ["term", "state"] spLWorth) (B : Blt mg) :
    ∀ n : Nat, FnOk P w K mg base CX0 (2 * n + 2) fn fd ["rows", "state"] (spThr n)
  | 0 => none_thr
  | n + 1 => ok_thr1 D DO (ok_lone DO DW GW D (ok_thr D DO DW GW B n) B)
end
end FR

/-! GRA: _law_walked. -/
namespace FR
open PySem L2
theorem b_dict : bootBuiltins "dict" = some (.type "dict") := by decide +kernel
theorem stK_make (s f l : Addr) (wy : Str) : mergeK [] [(Sum.inr "slots", .ref s), (Sum.inr "now", .ref f), (Sum.inr "said", .ref l), (Sum.inr "why", .str wy)] = stK s f l wy := by
  obtain ⟨n1, n2, n3, n4, n5, n6⟩ := ne_st
  have e : ∀ (kvs : List (Key × V)) (k : Key) (v : V), valV kvs k = none → putK kvs k v = kvs ++ [(k, v)] := fun kvs k v h => by
    unfold putK
    rw [valV_any, h]
    rfl
  unfold mergeK stK
  simp only [List.foldl_cons, List.foldl_nil]
  rw [e [] _ _ rfl, List.nil_append, e _ (Sum.inr "now") _ (valV_neg (inr_ne n1)), e _ (Sum.inr "said") _ (by
    show valV [((Sum.inr "slots" : Key), V.ref s), (Sum.inr "now", V.ref f)] _ = none
    rw [valV_neg (inr_ne n2), valV_neg (inr_ne n4)]
    rfl), e _ (Sum.inr "why") _ (by
    show valV [((Sum.inr "slots" : Key), V.ref s), (Sum.inr "now", V.ref f), (Sum.inr "said", V.ref l)] _ = none
    rw [valV_neg (inr_ne n3), valV_neg (inr_ne n5), valV_neg (inr_ne n6)]
    rfl)]
  rfl
section
variable {P : Program} {w : World} {K : PySem.W.Frag} {mg : Str → Option Value} {base : Heap}
def spWalked : Sp := fun vs H Q _ => ∃ (a t : Addr) (T : Tab) (rs : List DRow), vs = [.ref a, .ref t] ∧ At H (.ref a) (.list (dRows rs)) ∧ TbAt H t T ∧ TabOk T ∧ wfRs rs 5 ∧ szRs rs ≤ 1000 ∧ T.length ≤ 4000 ∧
  ∀ (p : Addr) (H' : Hp), At H' (.ref p) (dTold (resT T rs)) → Same H H' → Q (.ref p) H'
abbrev walkN : List Str := ["rows", "table", "state", "behind", "place", "worth"]
theorem scWalked : FnScope walkN ["rows", "table"] (defScope sWalked) := ⟨rfl, rfl, rfl, by decide +kernel, rfl, by decide +kernel, by decide +kernel⟩
theorem ok_walked {fn fT : Addr} {fd fdT : FuncData} (D : DefAt K mg "_law_walked" sWalked ["rows", "table"] fn fd)
    (DT : DefAt K mg "_law_through" sThrough ["rows", "state"] fT fdT) (GT : FnOk P w K mg base CX0 14 fT fdT ["rows", "state"] (spThr 6)) (B : Blt mg) :
    FnOk P w K mg base CX0 15 fn fd ["rows", "table"] spWalked := by
  refine D.F.ok scWalked (fun vs H Q E h => ?_) (fun cdv A outer sh H vs Q E hr h => ?_)
  · obtain ⟨a, t, Tb, rs, rfl, _⟩ := h
    rfl
  obtain ⟨a, t, Tb, rs, rfl, hrows, hT, okT, hw, hsz, hTl, k⟩ := h
  have nd := scWalked.nd
  have hu := hu_of hr
  refine ⟨_, pss_cons (ps_set (i := 2) nd rfl (.inl rfl) (pe_disp (pps_cons pe_str pe_dnewK (pps_cons pe_str (pe_callTy (call_dictT rfl hr.units) (by rfl) B.dict b_dict (pa_cons (pv 1) pa_nil)) (pps_cons pe_str (pe_lst pa_nil) (pps_cons pe_str pe_str pps_nil)))) (by rfl) (by rfl) (fun z => by cases z) (by decide)))
    (pss_cons (ps_if (pt_not (pt_val (pe_call GT hr rfl DT.m DT.F.kp DT.b .nil pass0 (pa_cons (pv 0) (pa_cons (pv 2) pa_nil))))) (pss_one (ps_ret (pe_tup (pa_cons (pe_tup (pa_cons pe_str (pa_cons (pe_dget hu (pv 2) pe_str (fun _ _ => rfl)) pa_nil))) (pa_cons (pv 1) pa_nil))))) pss_nil)
    (pss_cons (ps_lock (ps_setLc (i := 3) (own := [("place", 4), ("worth", 5)]) (g := gTup K 2 (gCons (gName 4) (gCons (gName 5) gNil))) (tt := tTest (tOp rNe (tVar 5) (tC (.int 0)))) (te := tTup (tCons (tVar 4) (tCons (tVar 5) tNil))) rfl nd rfl rfl (sw_true rfl rfl rfl (by decide +kernel)) (pi_itemsT (pe_dget hu (pv 2) pe_str (fun _ _ => rfl))) (blkOk_by (N := walkN) (sc := defScope sWalked) (by decide +kernel))
      (fun _ _ _ _ _ => pg_tup rfl (pgs_cons (pg_name (i := 4) nd rfl (Or.inl rfl)) (pgs_cons (pg_name (i := 5) nd rfl (Or.inl rfl)) pgs_nil)))
      (fun _ _ _ _ _ => pts_one (pt_cmpR op_ne (pv 5) pe_int (nomark _)))
      (fun _ _ _ _ _ => pe_tup (pa_cons (pv 4) (pa_cons (pv 5) pa_nil)))))
    (pss_one (ps_ret (pe_tup (pa_cons (pe_tup (pa_cons pe_str (pa_cons (pe_callTy call_tuple_of (by rfl) B.tuple b_tuple (pa_cons (pe_dget hu (pv 2) pe_str (fun _ _ => rfl)) pa_nil)) pa_nil))) (pa_cons (pe_callB (cr_sortE hr.units) (by rfl) B.sorted (by decide +kernel) (pa_cons (pv 3) pa_nil)) pa_nil))))))), ?_⟩
  intro d hd
  intro s hs
  have nds : d ≠ s := fun e => by rw [← e, upd_same] at hs; cases hs
  have hs0 : H s = none := by rw [upd_ne nds.symm] at hs; exact hs
  have g1 : Same H (upd (upd H d (.dK [])) s (.dK [])) := (sameN hd).trans (sameN hs)
  refine ⟨_, rfl, t, Tb, rfl, hT.same g1, okT.1, fun f hf => ?_⟩
  have g2 := g1.trans (sameN (o := .dT (tkv Tb)) hf)
  have hf0 : H f = none := g1.free hf
  refine ⟨(by show 0 ≤ sizeLine; decide), fun l hl => ?_⟩
  have hl0 : H l = none := g2.free hl
  have h1d : (upd (upd H d (.dK [])) s (.dK [])) d = some (.dK []) := (upd_ne nds).trans upd_same
  have ndf : d ≠ f := ne_of_none h1d hf
  have nsf : s ≠ f := ne_of_none (upd_same (H := upd H d (.dK []))) hf
  have h2d : (upd (upd (upd H d (.dK [])) s (.dK [])) f (.dT (tkv Tb))) d = some (.dK []) := (upd_ne ndf).trans h1d
  have h2s : (upd (upd (upd H d (.dK [])) s (.dK [])) f (.dT (tkv Tb))) s = some (.dK []) := (upd_ne nsf).trans upd_same
  have ndl : d ≠ l := ne_of_none h2d hl
  have nsl : s ≠ l := ne_of_none h2s hl
  have nfl : f ≠ l := ne_of_none upd_same hl
  refine ⟨(upd_ne ndl).trans h2d, [(Sum.inr "slots", .ref s), (Sum.inr "now", .ref f), (Sum.inr "said", .ref l), (Sum.inr "why", .str "told")], rfl, (by show 4 ≤ 15; decide), ?_⟩
  rw [stK_make]
  have la0 : LaAt (upd (upd (upd (upd (upd H d (.dK [])) s (.dK [])) f (.dT (tkv Tb))) l (.lst [])) d (.dK (stK s f l "told"))) d s f l "told" Tb ⟨[], [], []⟩ := by
    refine ⟨upd_same, ?_, ?_, ?_, nds⟩
    · rw [upd_ne nds.symm, upd_ne nsl]; exact h2s
    · rw [upd_ne ndf.symm, upd_ne nfl]; exact upd_same
    · rw [upd_ne ndl.symm]; exact upd_same
  have g3 : Same H (upd (upd (upd (upd (upd H d (.dK [])) s (.dK [])) f (.dT (tkv Tb))) l (.lst [])) d (.dK (stK s f l "told"))) := sameU (g2.trans (sameN hl)) hd
  generalize (upd (upd (upd (upd (upd H d (.dK [])) s (.dK [])) f (.dT (tkv Tb))) l (.lst [])) d (.dK (stK s f l "told"))) = H1 at la0 g3
  refine ⟨_, rfl, _, rfl, H, a, d, s, f, l, Tb, ⟨[], [], []⟩, rs, rfl, g3, hd, hs0, hf0, hl0, hrows, la0, okS_start okT, okT.1, hTl, (by show 0 + szRs rs ≤ 3000; omega), wfRs_mono (by decide) hw, fun st' H2 hrun g4 la => ?_, fun e H2 st' hrun g4 la => ?_⟩
  · refine ⟨true, rfl, iteF ?_⟩
    have hres : resT Tb rs = (.ok st'.said, sortE (nz (aMerge Tb st'.gifts))) := by
      unfold resT outcome
      rw [hrun]
    rw [hres] at k
    have hlen := runRs_len rs _ st' hrun
    have hlen2 : st'.gifts.length ≤ 1000 := by
      unfold lenS at hlen
      simp only [List.length_nil] at hlen
      omega
    have lm := length_merge st'.gifts Tb
    obtain ⟨k1, k2, k3, k4⟩ := la_get la
    refine ⟨f, _, la.nw, trivial, fun od => ?_⟩
    have hfz : (upd H2 f (.frz od (.dT (tkv (aMerge Tb st'.gifts))))) f = some (.frz od (.dT (tkv (aMerge Tb st'.gifts)))) := upd_same
    have hd2 : (upd H2 f (.frz od (.dT (tkv (aMerge Tb st'.gifts))))) d = some (.dK (stK s f l "told")) := (upd_ne (ne_of la.di la.nw (fun z => nomatch z))).trans la.di
    refine ⟨_, rfl, d, .ref f, rfl, .inl ⟨_, Sum.inr "now", .inl hd2, rfl, (stK_now _ _ _ _).symm⟩, f, od, _, rfl, hfz, fun Dd nD => ?_⟩
    have nfD : f ≠ Dd := ne_of_none hfz nD
    have nD2 : H2 Dd = none := by rw [upd_ne nfD.symm] at nD; exact nD
    refine lc_it walk_T (fun i H3 => ∃ as : List Addr, H3 f = some (.frz od (.dT (tkv (aMerge Tb st'.gifts)))) ∧ H3 Dd = some (.lst (as.map V.ref)) ∧ Paired (EnAt H3) as (nz ((aMerge Tb st'.gifts).take i)) ∧ (∀ x o, H2 x = some o → x ≠ f → H3 x = some o))
      ⟨[], (sameN nD) _ _ upd_same, upd_same, .nil, fun x o hx hxd => sameN nD _ _ ((upd_ne hxd).trans hx)⟩ (fun i H3 _ ⟨_, h, _⟩ => h) ?_ ?_
    · rintro i x H3 H3' hi ⟨as, hf3, hDl, hP, kp⟩ ⟨e, kq, pw, hTi, rfl, he, hq, rfl⟩
      have g5 : Same H3 (upd H3 e (.tup [.ref kq, .int pw.2])) := sameN he
      have hla : as.length ≤ i := by
        rw [Paired.length hP]
        exact Nat.le_trans (nz_length _) (by rw [List.length_take]; omega)
      refine ⟨e, _, rfl, SqT.of upd_same, rfl, _, _, rfl, _, _, rfl, rfl, rfl, ?_⟩
      refine ⟨_, rfl, rfl, _, rfl, ?_⟩
      have tk' := take_at hTi
      refine ite2 (fun c => ?_) (fun c => ?_)
      · have c0 : pw.2 ≠ 0 := fun e => by
          rw [e] at c
          exact absurd c (by decide)
        refine ⟨_, rfl, _, rfl, (by show 2 ≤ sizeLine; decide), fun tp htp => ?_⟩
        have g6 : Same H3 (upd (upd H3 e (.tup [.ref kq, .int pw.2])) tp (.tup [.ref kq, .int pw.2])) := g5.trans (sameN htp)
        refine ⟨as.map V.ref, g6 _ _ hDl, small1000' (by rw [List.length_map]; omega), ?_⟩
        have nt : tp ≠ Dd := fun z => by rw [z, g5 _ _ hDl] at htp; cases htp
        have g7 : ∀ (y : Addr) (o : HO), H3 y = some o → y ≠ Dd → (upd (upd (upd H3 e (.tup [.ref kq, .int pw.2])) tp (.tup [.ref kq, .int pw.2])) Dd (.lst (as.map V.ref ++ [V.ref tp]))) y = some o := fun y o hy h1 => by
          rw [upd_ne h1]
          exact g6 _ _ hy
        have g8 : ∀ (y : Addr) (vs : List V), H3 y = some (.tup vs) → (upd (upd (upd H3 e (.tup [.ref kq, .int pw.2])) tp (.tup [.ref kq, .int pw.2])) Dd (.lst (as.map V.ref ++ [V.ref tp]))) y = some (.tup vs) := fun y vs hy => g7 _ _ hy (fun z => by rw [z, hDl] at hy; cases hy)
        refine ⟨as ++ [tp], g7 _ _ hf3 nfD, by rw [upd_same, List.map_append]; rfl, ?_, fun x o hx hxd => ?_⟩
        · rw [tk', nz_snoc, if_pos c0]
          exact paired_snoc (L2.Paired.mapP hP fun a b ⟨q', z1, z2⟩ => ⟨q', g8 _ _ z1, g8 _ _ z2⟩) ⟨kq, (upd_ne nt).trans upd_same, g8 _ _ hq⟩
        · exact g7 _ _ (kp x o hx hxd) (ne_of_none hx nD2)
      · have c0 : pw.2 = 0 := Classical.not_not.mp fun e => c (by
          show (!decide (V.int pw.2 = V.int 0)) = true
          rw [decide_eq_false (fun z => e (V.int.inj z))]
          rfl)
        refine ⟨as, g5 _ _ hf3, g5 _ _ hDl, ?_, fun x o hx hxd => g5 _ _ (kp x o hx hxd)⟩
        rw [tk', nz_snoc, if_neg (fun z => z c0)]
        exact ens_same g5 hP
    · rintro H3 ⟨as, hf3, hDl, hP, kp⟩
      rw [List.take_length] at hP
      refine ⟨hf3, ?_⟩
      have u : ∀ (y : Addr) (o : HO), H3 y = some o → y ≠ f → (upd H3 f (.dT (tkv (aMerge Tb st'.gifts)))) y = some o := fun y o hy h1 => by rw [upd_ne h1]; exact hy
      have ut : ∀ (y : Addr) (vs : List V), H3 y = some (.tup vs) → (upd H3 f (.dT (tkv (aMerge Tb st'.gifts)))) y = some (.tup vs) := fun y vs hy => u _ _ hy (fun z => by rw [z, hf3] at hy; cases hy)
      have g9 : Same H2 (upd H3 f (.dT (tkv (aMerge Tb st'.gifts)))) := fun x o hx => by
        by_cases hxf : x = f
        · subst hxf
          rw [la.nw] at hx
          cases hx
          exact upd_same
        · exact u _ _ (kp x o hx hxf) hxf
      have la3 := la.same g9
      have hb3 : TbAt (upd H3 f (.dT (tkv (aMerge Tb st'.gifts)))) Dd (nz (aMerge Tb st'.gifts)) := ⟨as, u _ _ hDl nfD.symm, L2.Paired.mapP hP fun a b ⟨q', z1, z2⟩ => ⟨q', ut _ _ z1, ut _ _ z2⟩⟩
      generalize (upd H3 f (.dT (tkv (aMerge Tb st'.gifts)))) = H4 at g9 la3 hb3
      obtain ⟨k1, k2, k3, k4⟩ := la_get la3
      refine ⟨_, rfl, d, .ref l, rfl, k3, l, _, rfl, .inl ⟨SqL.of la3.sa, fun p1 hp1 => ?_⟩⟩
      refine ⟨(by show 2 ≤ sizeLine; decide), fun p2 hp2 => ?_⟩
      have g10 := (sameN (o := .tup (st'.said.map V.int)) hp1).trans (sameN (o := .tup [.str "done", .ref p1]) hp2)
      refine ⟨_, rfl, Dd, nz (aMerge Tb st'.gifts), rfl, hb3.same g10, fun l3 H5 hl3 g11 hb5 => ?_⟩
      refine ⟨(by show 2 ≤ sizeLine; decide), fun p4 hp4 => ?_⟩
      have g12 := g11.trans (sameN (o := .tup [.ref p2, .ref l3]) hp4)
      refine k p4 _ (.tup upd_same (.cons (At.same g12 _ _ (.tup (upd_same (H := L2.upd H4 p1 (.tup (st'.said.map V.int)))) (.cons (.str _) (.cons (.tup (sameN hp2 _ _ upd_same) (at_ints _)) .nil)))) (.cons (at_tab (hb5.same (sameN hp4))) .nil))) (g4.trans (g9.trans (g10.trans g12)))
  · refine ⟨false, rfl, iteT ?_⟩
    have hres : resT Tb rs = (.error e, Tb) := by
      unfold resT outcome
      rw [hrun]
    rw [hres] at k
    obtain ⟨k1, k2, k3, k4⟩ := la_get la
    refine ⟨_, rfl, d, .str e.str, rfl, k4, (by show 2 ≤ sizeLine; decide), fun p1 hp1 => ?_⟩
    have g5 := sameN (o := .tup [.str "off", .str e.str]) hp1
    refine ⟨_, rfl, (by show 2 ≤ sizeLine; decide), fun p4 hp4 => ?_⟩
    have g6 := sameN (o := .tup [.ref p1, .ref t]) hp4
    refine k p4 _ (.tup upd_same (.cons (At.same g6 _ _ (.tup (upd_same (H := H2)) (.cons (.str _) (.cons (.str _) .nil)))) (.cons (at_tab (hT.same (g4.trans (g5.trans g6)))) .nil))) (g4.trans (g5.trans g6))
end
end FR

/-! GRB: _law_copied. -/
namespace FR
open PySem L2
theorem hide_more {H H2 : Hp} {M : List Addr} {d : Addr} (g : Same H H2) (h : H d = none) : Same (hide H M) (hide H2 (d :: M)) := fun b o e => by
  by_cases hb : b ∈ M
  · rw [hide_in hb] at e; cases e
  · rw [hide_out hb] at e
    have n1 : b ≠ d := ne_of_none e h
    rw [hide_out (by simp only [List.mem_cons, not_or]; exact ⟨n1, hb⟩)]
    exact g b o e
theorem head_else {H : Hp} {q : Addr} {r : DRow} (h : At H (.ref q) (dRow r)) (hn : ∀ e a b, r ≠ .iff e a b) : ∃ (x : Str) (xs : List V), H q = some (.tup (V.str x :: xs)) ∧ x ≠ "if" := by
  obtain ⟨m1, m2, m3, m4, m5, m6, m7, m8, m9, m10⟩ := ne_rows2
  cases r with
  | take sh e sl =>
    obtain ⟨t, h, _⟩ := of_take h
    exact ⟨_, _, h, m6.symm⟩
  | give sh e f =>
    obtain ⟨t, u, h, _⟩ := of_give h
    exact ⟨_, _, h, m7.symm⟩
  | letr sl e =>
    obtain ⟨t, h, _⟩ := of_letr h
    exact ⟨_, _, h, m8.symm⟩
  | say e =>
    obtain ⟨t, h, _⟩ := of_say h
    exact ⟨_, _, h, m9.symm⟩
  | off e =>
    obtain ⟨t, h, _⟩ := of_off h
    exact ⟨_, _, h, m10.symm⟩
  | iff e a b => exact absurd rfl (hn e a b)
theorem rows_take {rs : List DRow} {i : Nat} {r : DRow} (h : rs[i]? = some r) : dRows (rs.take (i + 1)) = dRows (rs.take i) ++ [dRow r] := by
  rw [take_at h, dRows_app]
  rfl
theorem wfRs_at : ∀ {rs : List DRow} {n i : Nat} {r : DRow}, wfRs rs n → rs[i]? = some r → wfR r n ∧ szR r ≤ szRs rs
  | [], _, _, _, _, h => by simp at h
  | r0 :: rs, n, 0, r, h, e => by
    have : r0 = r := Option.some.inj e
    subst this
    simp only [wfRs] at h
    exact ⟨h.1, by simp only [szRs]; omega⟩
  | r0 :: rs, n, i + 1, r, h, e => by
    simp only [wfRs] at h
    have z := wfRs_at (i := i) h.2 (by simpa using e)
    exact ⟨z.1, by simp only [szRs]; omega⟩
theorem ix_head {x : V} {xs : List V} : atI (x :: xs) (0 : Int) = some x := at_of (j := 0) rfl rfl
theorem at_iff {H : Hp} {p t ua va : Addr} {e : Term} {ra rb : List DRow} (h : H p = some (.tup [.str "if", .ref t, .ref ua, .ref va])) (ht : TermAt H t e) (ha : At H (.ref ua) (.list (dRows ra))) (hb : At H (.ref va) (.list (dRows rb))) : At H (.ref p) (dRow (.iff e ra rb)) := by
  simp only [dRow]
  exact .tup h (.cons (.str _) (.cons (at_term ht) (.cons ha (.cons hb .nil))))
section
variable {P : Program} {w : World} {K : PySem.W.Frag} {mg : Str → Option Value} {base : Heap}
def spCop : Nat → Sp
  | 0 => fun _ _ _ _ => False
  | n + 1 => fun vs H Q _ => ∃ (M : List Addr) (a : Addr) (rs : List DRow), vs = [.ref a] ∧ (∀ x ∈ M, H x ≠ none) ∧ At (hide H M) (.ref a) (.list (dRows rs)) ∧ wfRs rs n ∧ szRs rs ≤ 1000 ∧
      ∀ p H', At (hide H' M) (.ref p) (.list (dRows rs)) → Same H H' → Q (.ref p) H'
theorem none_cop {f : Addr} {fd : FuncData} {k : Nat} {ps : List Str} : FnOk P w K mg base CX0 k f fd ps (spCop 0) :=
  ⟨fun _ _ _ _ h => h.elim, fun _ _ _ _ _ _ _ _ _ _ _ _ _ h => h.elim⟩
theorem scCopied : FnScope ["rows", "found", "row"] ["rows"] (defScope sCopied) := ⟨rfl, rfl, rfl, by decide +kernel, rfl, by decide +kernel, by decide +kernel⟩
theorem ok_cop1 {fn : Addr} {fd : FuncData} {n : Nat} (D : DefAt K mg "_law_copied" sCopied ["rows"] fn fd) (G : FnOk P w K mg base CX0 n fn fd ["rows"] (spCop n)) :
    FnOk P w K mg base CX0 (n + 1) fn fd ["rows"] (spCop (n + 1)) := by
  refine D.F.ok scCopied (fun vs H Q E h => ?_) (fun cdv A outer sh H vs Q E hr h => ?_)
  · obtain ⟨M, a, rs, rfl, _⟩ := h
    rfl
  obtain ⟨M, a, rs, rfl, hM, hrows, hw, hsz, k⟩ := h
  have nd := scCopied.nd
  refine ⟨_, pss_cons (ps_set (i := 1) nd rfl (.inl rfl) (pe_lst pa_nil))
    (pss_cons (ps_for PassesOwn.never rfl (pi_list (pv 0)) (pg_name (i := 2) nd rfl (.inl rfl))
      (pss_one (ps_if (pt_cmpR op_eq (pe_ix ix_tup (pv 2) pe_int (fun _ _ => rfl)) pe_str (nomark _))
        (pss_one (ps_expr (pe_bm PySem.F.plainAttrs_list PySem.F.slot_list_append PySem.F.type_list_append mt_append (pv 1) (pa_cons (pe_tup (pa_cons pe_str (pa_cons (pe_ix ix_tup (pv 2) pe_int (fun _ _ => rfl))
          (pa_cons (pe_call G hr rfl D.m D.F.kp D.b .nil pass0 (pa_cons (pe_ix ix_tup (pv 2) pe_int (fun _ _ => rfl)) pa_nil)) (pa_cons (pe_call G hr rfl D.m D.F.kp D.b .nil pass0 (pa_cons (pe_ix ix_tup (pv 2) pe_int (fun _ _ => rfl)) pa_nil)) pa_nil))))) pa_nil))))
        (pss_one (ps_expr (pe_bm PySem.F.plainAttrs_list PySem.F.slot_list_append PySem.F.type_list_append mt_append (pv 1) (pa_cons (pv 2) pa_nil)))))))
    (pss_one (ps_ret (pv 1)))), ?_⟩
  refine ⟨(by show 0 ≤ sizeLine; decide), fun d hd => ?_⟩
  have hdM : d ∉ M := fun z => hM d z hd
  cases hrows with
  | @lst _ vs _ ha hall =>
  have ha' : H a = some (.lst vs) := hide_le _ _ ha
  have hl : vs.length = rs.length := by rw [hall.length, dRows_length]
  have hlr := len_szRs rs
  refine ⟨_, rfl, a, rfl, ⟨_, SqL.of (sameN hd _ _ ha')⟩, for_list (K := K) (a := a) (xs := vs) (fun i σ H2 => ∃ (ws : List V) (v2 : Option V), σ = [some (.ref a), some (.ref d), v2] ∧ Same H H2 ∧ H2 d = some (.lst ws) ∧ AtAll (hide H2 (d :: M)) ws (dRows (rs.take i)))
    ⟨[], none, rfl, sameN hd, upd_same, .nil⟩ (fun i σ H2 _ ⟨_, _, _, gg, _⟩ => SqL.of (gg _ _ ha')) ?_ ?_⟩
  · rintro i y σ H2 hi ⟨ws, v2, rfl, g2, hD2, hall2⟩
    obtain ⟨q, r, rfl, hri, hrow⟩ := row_at hall hi
    have hlw : ws.length ≤ 1000 := by
      rw [hall2.length, dRows_length, List.length_take]
      omega
    have hwr := wfRs_at hw hri
    have gh : Same (hide H M) (hide H2 (d :: M)) := hide_more g2 hd
    have hcase : (∃ e ra rb, r = .iff e ra rb) ∨ (∀ e a b, r ≠ .iff e a b) := by
      cases r with
      | iff e a b => exact .inl ⟨_, _, _, rfl⟩
      | _ => exact .inr (fun _ _ _ z => by cases z)
    rcases hcase with ⟨e, ra, rb, rfl⟩ | hno
    · obtain ⟨t, ua, va, hq0, ht0, hua, hva⟩ := of_iff hrow
      have hq : H q = some (.tup [.str "if", .ref t, .ref ua, .ref va]) := hide_le _ _ hq0
      obtain ⟨hwf, hsr⟩ := hwr
      simp only [wfR] at hwf
      simp only [szR] at hsr
      obtain ⟨hwt, hn0, hwa, hwb⟩ := hwf
      match n, G, hn0, hwa, hwb with
      | n + 1, G, _, hwa, hwb =>
      refine ⟨_, rfl, q, _, _, _, rfl, rfl, SqT.of (g2 _ _ hq), i4_0, rfl, _, rfl, iteDT rfl ?_⟩
      refine ⟨_, rfl, .inl ⟨rfl, _, SqL.of hD2⟩, ?_⟩
      refine ⟨_, rfl, q, _, _, _, rfl, rfl, SqT.of (g2 _ _ hq), i4_1, ?_⟩
      have hM2 : ∀ x ∈ d :: M, H2 x ≠ none := fun x hx => by
        rcases List.mem_cons.mp hx with z | z
        · rw [z, hD2]; exact fun z => nomatch z
        · obtain ⟨o, ho⟩ := Option.ne_none_iff_exists'.mp (hM x z)
          rw [g2 _ _ ho]
          exact fun z => nomatch z
      refine ⟨_, rfl, q, _, _, _, rfl, rfl, SqT.of (g2 _ _ hq), i4_2, d :: M, ua, ra, rfl, hM2, At.same gh _ _ hua, hwa, by omega, fun p1 H3 hp1 g3 => ?_⟩
      have g23 := g2.trans g3
      have hM3 : ∀ x ∈ d :: M, H3 x ≠ none := fun x hx => by
        obtain ⟨o, ho⟩ := Option.ne_none_iff_exists'.mp (hM2 x hx)
        rw [g3 _ _ ho]
        exact fun z => nomatch z
      refine ⟨_, rfl, q, _, _, _, rfl, rfl, SqT.of (g23 _ _ hq), i4_3, d :: M, va, rb, rfl, hM3, At.same (hide_more g23 hd) _ _ hva, hwb, by omega, fun p2 H4 hp2 g4 => ?_⟩
      refine ⟨(by show 4 ≤ sizeLine; decide), fun tp htp => ?_⟩
      have g5 := sameN (o := .tup [.str "if", .ref t, .ref p1, .ref p2]) htp
      have g25 := g23.trans (g4.trans g5)
      have hD5 := (g3.trans (g4.trans g5)) _ _ hD2
      refine ⟨d, ws, _, rfl, rfl, hD5, small1000' (by omega), ?_⟩
      have hdd : d ∈ d :: M := List.mem_cons_self ..
      have gA : Same (hide H2 (d :: M)) (hide (upd (upd H4 tp (.tup [.str "if", .ref t, .ref p1, .ref p2])) d (.lst (ws ++ [V.ref tp]))) (d :: M)) := by
        rw [hide_upd_in hdd]
        exact hide_same (g3.trans (g4.trans g5))
      have gB : Same (hide H3 (d :: M)) (hide (upd (upd H4 tp (.tup [.str "if", .ref t, .ref p1, .ref p2])) d (.lst (ws ++ [V.ref tp]))) (d :: M)) := by
        rw [hide_upd_in hdd]
        exact hide_same (g4.trans g5)
      have gC : Same (hide H4 (d :: M)) (hide (upd (upd H4 tp (.tup [.str "if", .ref t, .ref p1, .ref p2])) d (.lst (ws ++ [V.ref tp]))) (d :: M)) := by
        rw [hide_upd_in hdd]
        exact hide_same g5
      have htpM : tp ∉ d :: M := fun z => by
        obtain ⟨o, ho⟩ := Option.ne_none_iff_exists'.mp (hM3 tp z)
        rw [g4 _ _ ho] at htp
        cases htp
      have htpd : tp ≠ d := fun z => htpM (by rw [z]; exact hdd)
      refine ⟨ws ++ [V.ref tp], _, rfl, sameU g25 hd, upd_same, ?_⟩
      rw [rows_take hri]
      refine AtAll.append (AtAll.same gA _ _ hall2) (.cons (at_iff ?_ ((gh.trans gA) _ _ ht0) (At.same gB _ _ hp1) (At.same gC _ _ hp2)) .nil)
      rw [hide_out htpM, upd_ne htpd]
      exact upd_same
    · obtain ⟨x, xs, hq0, hx⟩ := head_else hrow hno
      have hq : H q = some (.tup (V.str x :: xs)) := hide_le _ _ hq0
      refine ⟨_, rfl, q, _, _, _, rfl, rfl, SqT.of (g2 _ _ hq), ix_head, rfl, _, rfl, iteDF (fun z => hx (vstr z)) ?_⟩
      refine ⟨_, rfl, .inl ⟨rfl, _, SqL.of hD2⟩, _, rfl, d, ws, _, rfl, rfl, hD2, small1000' (by omega), ?_⟩
      have hdd : d ∈ d :: M := List.mem_cons_self ..
      have gA : Same (hide H2 (d :: M)) (hide (upd H2 d (.lst (ws ++ [V.ref q]))) (d :: M)) := by
        rw [hide_upd_in hdd]
        exact fun _ _ e => e
      refine ⟨ws ++ [V.ref q], _, rfl, sameU g2 hd, upd_same, ?_⟩
      rw [rows_take hri]
      exact AtAll.append (AtAll.same gA _ _ hall2) (.cons (At.same (gh.trans gA) _ _ hrow) .nil)
  · rintro σ H2 ⟨ws, v2, rfl, g2, hD2, hall2⟩
    rw [hl, List.take_length] at hall2
    refine ⟨_, rfl, k d H2 (.lst (by rw [hide_out hdM]; exact hD2) (AtAll.same (hide_sub fun b hb => List.mem_cons_of_mem _ hb) _ _ hall2)) g2⟩
theorem ok_cop {fn : Addr} {fd : FuncData} (D : DefAt K mg "_law_copied" sCopied ["rows"] fn fd) : ∀ n : Nat, FnOk P w K mg base CX0 n fn fd ["rows"] (spCop n)
  | 0 => none_cop
  | n + 1 => ok_cop1 D (ok_cop D n)
end
end FR

/-! GRC: _law_plain. -/
namespace FR
open PySem L2
/-- the parts of a list or of a tuple, whichever it is -/
def iEither (K : PySem.W.Frag) (tl : TE) : TI := fun σ H R => iList K tl σ H R ∨ iTup K tl σ H R
theorem pi_either {X : Cx} {tg l : Expr} {tl : TE} (hl : PE X l tl) : PI X tg l (iEither X.K tl) := by
  have a : PI X tg l (iList X.K tl) := pi_list hl
  have b : PI X tg l (iTup X.K tl) := pi_tup hl
  constructor
  intro ps sh st hp R inv hh
  rcases hh with u | u
  · exact a.run ps sh st hp R inv u
  · exact b.run ps sh st hp R inv u
theorem depth_at : ∀ {ds : List PyData} {i : Nat} {d : PyData}, ds[i]? = some d → d.depth ≤ PyData.depthAll ds
  | [], _, _, h => by simp at h
  | d0 :: ds, 0, d, h => by
    have : d0 = d := Option.some.inj h
    subst this
    simp only [PyData.depthAll]
    omega
  | d0 :: ds, i + 1, d, h => by
    have z := depth_at (ds := ds) (i := i) (d := d) (by simpa using h)
    simp only [PyData.depthAll]
    omega
theorem kit_two {K : PySem.W.Frag} {a b c : String} {x y : Bool} (h1 : kitB a b = some x) (h2 : kitB a c = some y) : PySem.W.kitAny K (.type a) [.type b, .type c] = some (x || y) := by
  refine kitAny_cons (b := x) (kit_ty h1) (fun e => ?_) (fun e => by rw [e]; rfl)
  rw [e, Bool.false_or]
  refine kitAny_cons (b := y) (kit_ty h2) (fun e => by rw [e]; rfl) (fun e => e)
section
variable {P : Program} {w : World} {K : PySem.W.Frag} {mg : Str → Option Value} {base : Heap}
def spPlain : Nat → Sp
  | 0 => fun _ _ _ _ => False
  | n + 1 => fun vs H Q _ => ∃ (v : V) (d : PyData), vs = [v] ∧ At H v d ∧ d.depth ≤ n ∧ ∀ H', Same H H' → Q (.bl true) H'
theorem none_plain {f : Addr} {fd : FuncData} {k : Nat} {ps : List Str} : FnOk P w K mg base CX0 k f fd ps (spPlain 0) :=
  ⟨fun _ _ _ _ h => h.elim, fun _ _ _ _ _ _ _ _ _ _ _ _ _ h => h.elim⟩
theorem scPlain : FnScope ["found", "part"] ["found"] (defScope sPlain) := ⟨rfl, rfl, rfl, by decide +kernel, rfl, by decide +kernel, by decide +kernel⟩
theorem ok_plain1 {fn : Addr} {fd : FuncData} {n : Nat} (D : DefAt K mg "_law_plain" sPlain ["found"] fn fd) (G : FnOk P w K mg base CX0 n fn fd ["found"] (spPlain n)) (B : Blt mg) :
    FnOk P w K mg base CX0 (n + 1) fn fd ["found"] (spPlain (n + 1)) := by
  refine D.F.ok scPlain (fun vs H Q E h => ?_) (fun cdv A outer sh H vs Q E hr h => ?_)
  · obtain ⟨v, d, rfl, _⟩ := h
    rfl
  obtain ⟨v, d, rfl, hv, hd, k⟩ := h
  have nd := scPlain.nd
  refine ⟨_, pss_cons (ps_if (pt_val (pe_callB call_isiT (by rfl) B.isinstance b_isi (pa_cons (pv 0) (pa_cons (pe_tup (pa_cons (pe_bltn (v := .ty "list") (by rfl) B.list b_list rfl) (pa_cons (pe_bltn (v := .ty "tuple") (by rfl) B.tuple b_tuple rfl) pa_nil))) pa_nil))))
      (pss_cons (ps_for PassesOwn.never rfl (pi_either (pv 0)) (pg_name (i := 1) nd rfl (.inl rfl))
        (pss_one (ps_if (pt_not (pt_val (pe_call G hr rfl D.m D.F.kp D.b .nil pass0 (pa_cons (pv 1) pa_nil)))) (pss_one (ps_ret pe_bl)) pss_nil)))
      (pss_one (ps_ret pe_bl))) pss_nil)
    (pss_one (ps_ret (pe_and (pe_callB call_isiT (by rfl) B.isinstance b_isi (pa_cons (pv 0) (pa_cons (pe_tup (pa_cons (pe_bltn (v := .ty "int") (by rfl) B.int b_int rfl) (pa_cons (pe_bltn (v := .ty "str") (by rfl) B.str b_str rfl) pa_nil))) pa_nil)))
      (pe_one (pe_not (pe_callB call_isi (by rfl) B.isinstance b_isi (pa_cons (pv 0) (pa_cons (pe_bltn (v := .ty "bool") (by rfl) B.bool b_bool rfl) pa_nil)))))))), ?_⟩
  refine ⟨_, rfl, (by show 2 ≤ sizeLine; decide), fun p hp => ?_⟩
  have g1 := sameN (o := .tup [.ty "list", .ty "tuple"]) hp
  have cls : ∀ a b : String, Paired ClsV [.ty a, .ty b] [.type a, .type b] := fun a b => .cons (.ty a) (.cons (.ty b) .nil)
  have seq : ∀ (a : Addr) (xs : List V) (ds : List PyData), v = .ref a → AtAll H xs ds → PyData.depthAll ds + 1 ≤ n → ∀ (i : Nat) (y : V), xs[i]? = some y → ∀ H1, Same H H1 → ∀ Q1 : VK, (∀ H2, Same H H2 → Q1 (.bl true) H2) → spPlain n [y] H1 Q1 E0 := by
    intro a xs ds _ hall hdn i y hi H1 gg Q1 kk
    obtain ⟨dd, h1, h2⟩ := hall.getV hi
    have hz := depth_at h1
    match n, hdn with
    | n + 1, hdn => exact ⟨y, dd, rfl, At.same gg _ _ h2, by omega, fun H2 g2 => kk H2 (gg.trans g2)⟩
  cases hv with
  | int i =>
    refine ⟨_, p, _, _, _, false, rfl, upd_same, cls _ _, .base (.int i), kit_two (x := false) (y := false) (by decide +kernel) (by decide +kernel), _, rfl, iteF ?_⟩
    refine ⟨_, rfl, (by show 2 ≤ sizeLine; decide), fun p2 hp2 => ⟨_, p2, _, _, _, true, rfl, upd_same, cls _ _, .base (.int i), kit_two (x := true) (y := false) (by decide +kernel) (by decide +kernel), _, rfl, iteT ?_⟩⟩
    exact ⟨_, rfl, _, _, _, _, false, rfl, .ty "bool", .base (.int i), kit_ty (by decide +kernel), _, rfl, k _ (g1.trans (sameN hp2))⟩
  | str x =>
    refine ⟨_, p, _, _, _, false, rfl, upd_same, cls _ _, .base (.str x), kit_two (x := false) (y := false) (by decide +kernel) (by decide +kernel), _, rfl, iteF ?_⟩
    refine ⟨_, rfl, (by show 2 ≤ sizeLine; decide), fun p2 hp2 => ⟨_, p2, _, _, _, true, rfl, upd_same, cls _ _, .base (.str x), kit_two (x := false) (y := true) (by decide +kernel) (by decide +kernel), _, rfl, iteT ?_⟩⟩
    exact ⟨_, rfl, _, _, _, _, false, rfl, .ty "bool", .base (.str x), kit_ty (by decide +kernel), _, rfl, k _ (g1.trans (sameN hp2))⟩
  | @lst a xs ds ha hall =>
    refine ⟨_, p, _, _, _, true, rfl, upd_same, cls _ _, .base (.lst (g1 _ _ ha)), kit_two (x := true) (y := false) (by decide +kernel) (by decide +kernel), _, rfl, iteT ?_⟩
    simp only [PyData.depth] at hd
    refine .inl ⟨_, rfl, a, rfl, ⟨_, SqL.of (g1 _ _ ha)⟩, for_list (K := K) (a := a) (xs := xs) (fun i σ H2 => ∃ v1 : Option V, σ = [some (.ref a), v1] ∧ Same H H2) ⟨none, rfl, g1⟩ (fun i σ H2 _ ⟨_, _, g⟩ => SqL.of (g _ _ ha)) ?_ ?_⟩
    · rintro i y σ H2 hi ⟨v1, rfl, g2⟩
      exact ⟨_, rfl, seq a xs ds rfl hall hd i y hi H2 g2 _ fun H3 g3 => ⟨true, rfl, iteF ⟨_, rfl, g3⟩⟩⟩
    · rintro σ H2 ⟨v1, rfl, g2⟩
      exact k H2 g2
  | @tup a xs ds ha hall =>
    refine ⟨_, p, _, _, _, true, rfl, upd_same, cls _ _, .base (.tup (g1 _ _ ha)), kit_two (x := false) (y := true) (by decide +kernel) (by decide +kernel), _, rfl, iteT ?_⟩
    simp only [PyData.depth] at hd
    refine .inr ⟨_, rfl, a, rfl, ⟨_, SqT.of (g1 _ _ ha)⟩, for_tup (K := K) (a := a) (xs := xs) (fun i σ H2 => ∃ v1 : Option V, σ = [some (.ref a), v1] ∧ Same H H2) ⟨none, rfl, g1⟩ (fun i σ H2 _ ⟨_, _, g⟩ => SqT.of (g _ _ ha)) ?_ ?_⟩
    · rintro i y σ H2 hi ⟨v1, rfl, g2⟩
      exact ⟨_, rfl, seq a xs ds rfl hall hd i y hi H2 g2 _ fun H3 g3 => ⟨true, rfl, iteF ⟨_, rfl, g3⟩⟩⟩
    · rintro σ H2 ⟨v1, rfl, g2⟩
      exact k H2 g2
theorem ok_plain {fn : Addr} {fd : FuncData} (D : DefAt K mg "_law_plain" sPlain ["found"] fn fd) (B : Blt mg) : ∀ n : Nat, FnOk P w K mg base CX0 n fn fd ["found"] (spPlain n)
  | 0 => none_plain
  | n + 1 => ok_plain1 D (ok_plain D B n) B
end
end FR

/-! GRD: law. -/
namespace FR
open PySem PyProof.Rows L2
theorem rg_up {len m : Int} (h0 : 0 ≤ len) (h1 : len ≤ 1000) (m1 : 1 ≤ m) (m2 : m ≤ 100) : ∃ n : Nat, n ≤ len.toNat ∧ RgC 0 len m n := by
  have e := rangeSize_toNat 0 len m
  have l := rangeSize_toNat_le 0 len m
  have hn : (Builtin.Range.rangeSize 0 len m).toNat ≤ len.toNat := by omega
  refine ⟨(Builtin.Range.rangeSize 0 len m).toNat, hn, by omega, by omega, ?_, e⟩
  unfold Builtin.Range.small
  simp only [Builtin.Range.rangeFitsLong, Bool.and_eq_true, Bool.or_eq_true, decide_eq_true_eq, beq_iff_eq, show m > 0 by omega, if_true]
  generalize Builtin.Range.rangeSize 0 len m = z at e hn
  refine ⟨⟨⟨⟨by omega, by omega, by omega⟩, by omega, by omega⟩, by omega, by omega⟩, .inr ⟨by omega, by omega⟩⟩
theorem depth_term (t : Term) : (dTerm t).depth ≤ 1 := by
  have h : ∀ t : Term, PyData.depthAll (t.map dK) = 0 := by
    intro t
    induction t with
    | nil => rfl
    | cons k t ih =>
      rw [List.map_cons]
      simp only [PyData.depthAll]
      rw [ih]
      cases k <;> rfl
  unfold dTerm
  simp only [PyData.depth]
  rw [h]
  decide
mutual
theorem depth_row : ∀ (r : DRow) (n : Nat), wfR r n → (dRow r).depth ≤ 2 + 2 * n
  | .take _ e _, n, _ => by
    have := depth_term e
    simp only [dRow, PyData.depth, PyData.depthAll]
    omega
  | .give _ e f, n, _ => by
    have := depth_term e
    have := depth_term f
    simp only [dRow, PyData.depth, PyData.depthAll]
    omega
  | .letr _ e, n, _ => by
    have := depth_term e
    simp only [dRow, PyData.depth, PyData.depthAll]
    omega
  | .say e, n, _ => by
    have := depth_term e
    simp only [dRow, PyData.depth, PyData.depthAll]
    omega
  | .off e, n, _ => by
    have := depth_term e
    simp only [dRow, PyData.depth, PyData.depthAll]
    omega
  | .iff e a b, n, h => by
    have := depth_term e
    simp only [wfR] at h
    obtain ⟨_, h0, ha, hb⟩ := h
    have := depth_rows a (n - 1) ha
    have := depth_rows b (n - 1) hb
    simp only [dRow, PyData.depth, PyData.depthAll]
    omega
theorem depth_rows : ∀ (rs : List DRow) (n : Nat), wfRs rs n → PyData.depthAll (dRows rs) ≤ 2 + 2 * n
  | [], n, _ => by simp [dRows, PyData.depthAll]
  | r :: rs, n, h => by
    simp only [wfRs] at h
    have := depth_row r n h.1
    have := depth_rows rs n h.2
    simp only [dRows, PyData.depthAll]
    omega
end
theorem depth_ens : ∀ T : Tab, PyData.depthAll (T.map dEn) ≤ 2
  | [] => by simp [PyData.depthAll]
  | p :: T => by
    have := depth_ens T
    have := depth_en p
    simp only [List.map_cons, PyData.depthAll]
    omega
theorem depth_ints : ∀ L : List Int, PyData.depthAll (L.map PyData.int) = 0
  | [] => by simp [PyData.depthAll]
  | i :: L => by
    have := depth_ints L
    simp only [List.map_cons, PyData.depthAll, PyData.depth]
    omega
theorem depth_out (x : Except Why (List Int)) : (dOut x).depth ≤ 2 := by
  cases x with
  | ok L =>
    have := depth_ints L
    simp only [dOut, PyData.depth, PyData.depthAll]
    omega
  | error e =>
    simp only [dOut, PyData.depth, PyData.depthAll]
    omega
theorem depth_tab (T : Tab) : (dTab T).depth ≤ 3 := by
  have := depth_ens T
  simp only [dTab, PyData.depth]
  omega
theorem resT_ok {T : Tab} {rs : List DRow} (h : TabOk T) (hw : wfRs rs 5) : TabOk (resT T rs).2 ∧ (resT T rs).2.length ≤ T.length + szRs rs := by
  unfold resT
  cases e : outcome T rs with
  | error w => exact ⟨h, Nat.le_add_right _ _⟩
  | ok st =>
    have hl := runRs_len rs _ st e
    have ok := runRs_ok rs 5 _ st hw (okS_start h) e
    have hm : TabOk (aMerge T st.gifts) := ⟨nodup_merge _ _ h.1, fun p hp => by
      rcases mem_merge _ _ _ hp with z | z
      · exact h.2 p z
      · exact ok.2.1 p z⟩
    have hz := nz_ok hm
    refine ⟨⟨sortE_nodup hz.1, fun p hp => hz.2 p (sortE_mem.mp hp)⟩, ?_⟩
    show (sortE (nz (aMerge T st.gifts))).length ≤ _
    rw [sortE_length]
    have h1 := nz_length (aMerge T st.gifts)
    have h2 := length_merge st.gifts T
    unfold lenS at hl
    simp only [List.length_nil] at hl
    omega
theorem cut_ints (ns : List Int) (lo hi : Option Int) : ∃ ms : List Int, cutV (ns.map V.int) lo hi = ms.map V.int ∧ ms.length ≤ ns.length := by
  have h := cutV_length (ns.map V.int) lo hi
  refine ⟨(ns.drop (HT.sIx ns.length 0 lo)).take (HT.sIx ns.length ns.length hi - HT.sIx ns.length 0 lo), ?_, ?_⟩
  · unfold cutV
    rw [List.length_map, List.map_take, List.map_drop]
  · rw [List.length_take, List.length_drop]
    omega
theorem hide_nil (H : Hp) : hide H [] = H := by
  funext b
  exact hide_out (fun z => nomatch z)
theorem of_told {H : Hp} {p : Addr} {x : Except Why (List Int) × Tab} (h : At H (.ref p) (dTold x)) : ∃ (u : V) (t : Addr), H p = some (.tup [u, .ref t]) ∧ TbAt H t x.2 := by
  unfold dTold at h
  cases h with
  | tup e q =>
    cases q with
    | cons a b =>
      cases b with
      | cons c d =>
        cases d
        obtain ⟨t, rfl, z⟩ := of_tab c
        exact ⟨_, t, e, z⟩
theorem refl_all {H : Hp} {vs : List V} {ds : List PyData} (h : AtAll H vs ds) : PyData.eqvAll ds ds = true := PySem.W.eqvAll_refl_alike ds (AtAll.alike ds vs h)
theorem refl_tup {H : Hp} {v : V} {ds : List PyData} (h : At H v (.tuple ds)) : PyData.eqvAll ds ds = true ∧ PySem.W.alikeAll ds ds = true := by
  cases h with
  | tup e q => exact ⟨refl_all q, AtAll.alike _ _ q⟩
theorem refl_lst {H : Hp} {v : V} {ds : List PyData} (h : At H v (.list ds)) : PyData.eqvAll ds ds = true ∧ PySem.W.alikeAll ds ds = true := by
  cases h with
  | lst e q => exact ⟨refl_all q, AtAll.alike _ _ q⟩
section
variable {P : Program} {w : World} {K : PySem.W.Frag} {mg : Str → Option Value} {base : Heap}
def spLaw (K : PySem.W.Frag) : Sp := fun vs H Q _ => ∃ (a : Addr) (ns : List Int), vs = [.ref a] ∧ ns.length ≤ 63 ∧ SqL K H a (ns.map V.int) ∧ ∀ H', Q (.bl true) H'
abbrev lawN : List Str := ["script", "slots", "shelves", "table", "many", "cells", "at", "rows", "due", "handed", "given", "told"]
theorem scLaw : FnScope lawN ["script"] (defScope sLaw) := ⟨rfl, rfl, rfl, by decide +kernel, rfl, by decide +kernel, by decide +kernel⟩
/-- the law's own callees -/
structure Parts (P : Program) (w : World) (K : PySem.W.Frag) (mg : Str → Option Value) (base : Heap) (fN fC fT fD fR fW fY fA fP : Addr) (dN dC dT dD dR dW dY dA dP : FuncData) : Prop where
  DN : DefAt K mg "_law_names" sNames ["cell", "many"] fN dN
  GN : FnOk P w K mg base CX0 2 fN dN ["cell", "many"] spNames
  DC : DefAt K mg "_law_cell_at" sCell ["script", "k"] fC dC
  GC : FnOk P w K mg base CX0 1 fC dC ["script", "k"] (spCell K)
  DT : DefAt K mg "_law_table" sTable ["cell", "shelves"] fT dT
  GT : FnOk P w K mg base CX0 3 fT dT ["cell", "shelves"] spTable
  DD : DefAt K mg "_law_draw" sDraw ["cell", "j"] fD dD
  GD : FnOk P w K mg base CX0 1 fD dD ["cell", "j"] spDraw
  DR : DefAt K mg "_law_rows" sRows ["cells", "slots", "shelves"] fR dR
  GR : FnOk P w K mg base CX0 7 fR dR ["cells", "slots", "shelves"] spRows
  DW : DefAt K mg "_law_walked" sWalked ["rows", "table"] fW dW
  GW : FnOk P w K mg base CX0 15 fW dW ["rows", "table"] spWalked
  DY : DefAt K mg "_law_copied" sCopied ["rows"] fY dY
  GY : FnOk P w K mg base CX0 6 fY dY ["rows"] (spCop 6)
  DA : DefAt K mg "alone" sAlone ["rows", "table"] fA dA
  GA : FnOk P w K mg base CX0 11 fA dA ["rows", "table"] spAlone
  DP : DefAt K mg "_law_plain" sPlain ["found"] fP dP
  GP : FnOk P w K mg base CX0 6 fP dP ["found"] (spPlain 6)
theorem ok_law {fn fN fC fT fD fR fW fY fA fP : Addr} {fd dN dC dT dD dR dW dY dA dP : FuncData} (D : DefAt K mg "law" sLaw ["script"] fn fd) (B : Blt mg) (U : Parts P w K mg base fN fC fT fD fR fW fY fA fP dN dC dT dD dR dW dY dA dP) :
    FnOk P w K mg base CX0 16 fn fd ["script"] (spLaw K) := by
  refine D.F.ok scLaw (fun vs H Q E h => ?_) (fun cdv A outer sh H vs Q E hr h => ?_)
  · obtain ⟨a, ns, rfl, _⟩ := h
    rfl
  obtain ⟨a, ns, rfl, hlen, hS, k⟩ := h
  have nd := scLaw.nd
  have hr1 : Room 1 _ := hr.mono (by decide)
  have hr2 : Room 2 _ := hr.mono (by decide)
  have hr3 : Room 3 _ := hr.mono (by decide)
  have hr6 : Room 6 _ := hr.mono (by decide)
  have hr7 : Room 7 _ := hr.mono (by decide)
  have hr11 : Room 11 _ := hr.mono (by decide)
  refine ⟨_, pss_cons (ps_set (i := 1) nd rfl (.inl rfl) (pe_call U.GN hr2 rfl U.DN.m U.DN.F.kp U.DN.b .nil pass0 (pa_cons (pe_call U.GC hr1 rfl U.DC.m U.DC.F.kp U.DC.b .nil pass0 (pa_cons (pv 0) (pa_cons pe_int pa_nil))) (pa_cons pe_int pa_nil))))
    (pss_cons (ps_set (i := 2) nd rfl (.inl rfl) (pe_call U.GN hr2 rfl U.DN.m U.DN.F.kp U.DN.b .nil pass0 (pa_cons (pe_call U.GC hr1 rfl U.DC.m U.DC.F.kp U.DC.b .nil pass0 (pa_cons (pv 0) (pa_cons pe_int pa_nil))) (pa_cons pe_int pa_nil))))
    (pss_cons (ps_set (i := 3) nd rfl (.inl rfl) (pe_call U.GT hr3 rfl U.DT.m U.DT.F.kp U.DT.b .nil pass0 (pa_cons (pe_call U.GC hr1 rfl U.DC.m U.DC.F.kp U.DC.b .nil pass0 (pa_cons (pv 0) (pa_cons pe_int pa_nil))) (pa_cons (pv 2) pa_nil))))
    (pss_cons (ps_set (i := 4) nd rfl (.inl rfl) (pe_op op_add pe_int (pe_op op_mod (pe_call U.GD hr1 rfl U.DD.m U.DD.F.kp U.DD.b .nil pass0 (pa_cons (pe_call U.GC hr1 rfl U.DC.m U.DC.F.kp U.DC.b .nil pass0 (pa_cons (pv 0) (pa_cons pe_int pa_nil))) (pa_cons pe_int pa_nil))) pe_int)))
    (pss_cons (ps_set (i := 5) nd rfl (.inl rfl) (pe_slice sl_list (pv 0) po_none (po_some pe_int)))
    (pss_cons (ps_for PassesOwn.never rfl (pi_range3 (by rfl) B.range (pa_cons pe_int (pa_cons (pe_callB call_len_seq (by rfl) B.len PySem.boot_len (pa_cons (pv 5) pa_nil)) (pa_cons (pv 4) pa_nil)))) (pg_name (i := 6) nd rfl (.inl rfl))
      (pss_cons (ps_set (i := 7) nd rfl (.inl rfl) (pe_call U.GR hr7 rfl U.DR.m U.DR.F.kp U.DR.b .nil pass0 (pa_cons (pe_slice sl_list (pv 5) (po_some (pv 6)) (po_some (pe_op op_add (pv 6) (pv 4)))) (pa_cons (pv 1) (pa_cons (pv 2) pa_nil)))))
      (pss_cons (ps_set (i := 8) nd rfl (.inl rfl) (pe_call U.GW hr rfl U.DW.m U.DW.F.kp U.DW.b .nil pass0 (pa_cons (pv 7) (pa_cons (pv 3) pa_nil))))
      (pss_cons (ps_set (i := 9) nd rfl (.inl rfl) (pe_call U.GY hr6 rfl U.DY.m U.DY.F.kp U.DY.b .nil pass0 (pa_cons (pv 7) pa_nil)))
      (pss_cons (ps_set (i := 10) nd rfl (.inl rfl) (pe_callTy call_list_of (by rfl) B.list b_list (pa_cons (pv 3) pa_nil)))
      (pss_cons (ps_set (i := 11) nd rfl (.inl rfl) (pe_call U.GA hr11 rfl U.DA.m U.DA.F.kp U.DA.b .nil pass0 (pa_cons (pv 9) (pa_cons (pv 10) pa_nil))))
      (pss_cons (ps_if (PW.pt (pw_or (pt_not (pt_val (pe_call U.GP hr6 rfl U.DP.m U.DP.F.kp U.DP.b .nil pass0 (pa_cons (pv 11) pa_nil)))) (pw_or1 (pt_cmpR (op_neTup hr.units) (pv 11) (pv 8) (nomark _))))) (pss_one (ps_ret pe_bl)) pss_nil)
      (pss_cons (ps_if (PW.pt (pw_or (pt_cmpR (op_neLst hr.units) (pv 9) (pv 7) (nomark _)) (pw_or1 (pt_cmpR (op_neLst hr.units) (pv 10) (pv 3) (nomark _))))) (pss_one (ps_ret pe_bl)) pss_nil)
      (pss_one (ps_set (i := 3) nd rfl (.inl rfl) (pe_ix ix_tup (pv 8) pe_int (fun _ _ => rfl))))))))))))
    (pss_one (ps_ret pe_bl))))))), ?_⟩
  refine ⟨_, rfl, a, ns, 0, rfl, hS, by decide, fun z0 => ?_⟩
  refine ⟨z0, 4, rfl, by decide, by decide, fun sa ss H1 hss hnk hl4 g1 => ?_⟩
  refine ⟨_, rfl, a, ns, 1, rfl, g1.seq hS, by decide, fun z1 => ?_⟩
  refine ⟨z1, 3, rfl, by decide, by decide, fun ha hs H2 hhs hnk2 hl3 g2 => ?_⟩
  refine ⟨_, rfl, a, ns, 2, rfl, (g1.trans g2).seq hS, by decide, fun z2 => ?_⟩
  refine ⟨_, rfl, z2, ha, hs, rfl, hhs, by omega, fun t0 T0 H3 hT0 okT0 hTl0 g3 => ?_⟩
  have g13 := g1.trans (g2.trans g3)
  refine ⟨_, rfl, a, ns, 0, rfl, g13.seq hS, by decide, fun z3 => ?_⟩
  refine ⟨z3, 200, rfl, by decide, by decide, fun dr hd0 hd1 => ?_⟩
  refine ⟨_, _, rfl, rfl, (by show (0 : Int) < 16; decide), _, _, rfl, rfl, ?_⟩
  refine ⟨_, rfl, _, rfl, a, ns.map V.int, rfl, g13.seq hS, fun ca hca => ?_⟩
  obtain ⟨ms, hms, hml⟩ := cut_ints ns none (some 120)
  rw [hms]
  have g4 := sameN (o := .lst (ms.map V.int)) hca
  have hss4 := hss.same (g2.trans (g3.trans g4))
  have hhs4 := hhs.same (g3.trans g4)
  have hT4 := hT0.same g4
  have hca4 : (upd H3 ca (.lst (ms.map V.int))) ca = some (.lst (ms.map V.int)) := upd_same
  generalize (upd H3 ca (.lst (ms.map V.int))) = H4 at hss4 hhs4 hT4 hca4
  obtain ⟨n, hn, hrg⟩ := rg_up (len := ((ms.map V.int).length : Int)) (m := 1 + dr % 16) (by omega) (by rw [List.length_map]; omega) (by omega) (by omega)
  have hn63 : n ≤ 63 := by
    rw [List.length_map] at hn
    omega
  refine ⟨_, rfl, ca, _, rfl, .inl (SqL.of hca4), _, rfl, 0, _, _, n, rfl, hrg, ?_⟩
  refine for_rangeC (lo := 0) (c := 1 + dr % 16) (n := n) (fun i σ H5 => ∃ (ta : Addr) (T : Tab) (v6 v7 v8 v9 v10 v11 : Option V), σ = [some (.ref a), some (.ref sa), some (.ref ha), some (.ref ta), some (.int (1 + dr % 16)), some (.ref ca), v6, v7, v8, v9, v10, v11] ∧ Same H4 H5 ∧ TbAt H5 ta T ∧ TabOk T ∧ T.length ≤ 8 + 63 * i)
    ⟨t0, T0, none, none, none, none, none, none, rfl, fun _ _ e => e, hT4, okT0, by omega⟩ ?_ ?_
  · rintro i σ H5 hi ⟨ta, T, v6, v7, v8, v9, v10, v11, rfl, g5, hT, okT, hTl⟩
    have hTl4 : T.length ≤ 3977 := by omega
    refine ⟨_, rfl, _, rfl, _, rfl, _, rfl, _, rfl, _, _, rfl, rfl, _, rfl, ca, _, rfl, SqL.of (g5 _ _ hca4), fun p hp => ?_⟩
    obtain ⟨ks, hks, hkl⟩ := cut_ints ms (some (0 + (i : Nat) * (1 + dr % 16))) (some (0 + (i : Nat) * (1 + dr % 16) + (1 + dr % 16)))
    have g6 := g5.trans (sameN (o := .lst (cutV (ms.map V.int) (some (0 + (i : Nat) * (1 + dr % 16))) (some (0 + (i : Nat) * (1 + dr % 16) + (1 + dr % 16))))) hp)
    have gT := sameN (o := .lst (cutV (ms.map V.int) (some (0 + (i : Nat) * (1 + dr % 16))) (some (0 + (i : Nat) * (1 + dr % 16) + (1 + dr % 16))))) hp
    refine ⟨_, rfl, _, rfl, p, sa, ha, ks, ss, hs, rfl, (by rw [upd_same, ← hks]), by omega, hss4.same g6, hnk, by omega, hhs4.same g6, by omega, fun ra rs H7 hwf hra hsz g7 => ?_⟩
    have hT7 := hT.same (gT.trans g7)
    refine ⟨_, rfl, _, rfl, ra, ta, T, rs, rfl, hra, hT7, okT, hwf, by omega, by omega, fun da H8 hdue g8 => ?_⟩
    have hra8 := At.same g8 _ _ hra
    refine ⟨_, rfl, [], ra, rs, rfl, (fun _ h => nomatch h), (by rw [hide_nil]; exact hra8), hwf, by omega, fun ya H9 hy g9 => ?_⟩
    rw [hide_nil] at hy
    have hT9 := hT7.same (g8.trans g9)
    obtain ⟨es, ht, hes⟩ := id hT9
    refine ⟨_, rfl, ta, _, rfl, .inl (SqL.of ht), fun ga hga => ?_⟩
    have g10 := sameN (o := .lst (es.map V.ref)) hga
    have hG10 : TbAt (upd H9 ga (.lst (es.map V.ref))) ga T := ⟨es, upd_same, ens_same g10 hes⟩
    refine ⟨_, rfl, _, rfl, ya, ga, T, rs, rfl, At.same g10 _ _ hy, hG10, okT, hwf, by omega, by omega, fun oa H11 htold g11 => ?_⟩
    have hdep : (dTold (resT T rs)).depth ≤ 5 := by
      have := depth_out (resT T rs).1
      have := depth_tab (resT T rs).2
      simp only [dTold, PyData.depth, PyData.depthAll]
      omega
    refine ⟨_, rfl, .ref oa, dTold (resT T rs), rfl, htold, hdep, fun H12 g12 => ?_⟩
    have htold12 : At H12 (.ref oa) (.tuple [dOut (resT T rs).1, dTab (resT T rs).2]) := At.same g12 _ _ htold
    have gdue := g9.trans (g10.trans (g11.trans g12))
    have hdue12 : At H12 (.ref da) (.tuple [dOut (resT T rs).1, dTab (resT T rs).2]) := At.same gdue _ _ hdue
    obtain ⟨r1, r2⟩ := refl_tup htold12
    refine ⟨_, rfl, iteF ?_⟩
    refine ⟨_, rfl, _, rfl, _, _, htold12, hdue12, r2, ?_, _, rfl, ?_⟩
    · have := depth_out (resT T rs).1
      have := depth_tab (resT T rs).2
      simp only [PyData.depthAll]
      omega
    rw [r1]
    refine iteF ?_
    have hy12 := At.same (g10.trans (g11.trans g12)) _ _ hy
    have hra12 := At.same gdue _ _ hra8
    obtain ⟨q1, q2⟩ := refl_lst hra12
    have hdr := depth_rows rs 5 hwf
    refine ⟨_, rfl, _, rfl, _, _, hy12, hra12, rfl, q2, by omega, _, rfl, ?_⟩
    rw [q1]
    refine iteF ?_
    have hG12 : At H12 (.ref ga) (.list (T.map dEn)) := at_tab (hG10.same (g11.trans g12))
    have hT12 : At H12 (.ref ta) (.list (T.map dEn)) := at_tab (hT9.same (g10.trans (g11.trans g12)))
    obtain ⟨u1, u2⟩ := refl_lst hG12
    have hde := depth_ens T
    refine ⟨_, rfl, _, rfl, _, _, hG12, hT12, rfl, u2, by omega, _, rfl, ?_⟩
    rw [u1]
    refine iteF ?_
    obtain ⟨u, t2, hd2, hT2⟩ := of_told hdue
    obtain ⟨okR, lenR⟩ := resT_ok okT hwf
    refine ⟨_, rfl, da, _, _, _, rfl, rfl, SqT.of (gdue _ _ hd2), i2_1, ?_⟩
    exact ⟨t2, _, _, _, _, _, _, _, rfl, g6.trans (g7.trans (g8.trans gdue)), hT2.same gdue, okR, by omega⟩
  · rintro σ H5 ⟨ta, T, v6, v7, v8, v9, v10, v11, rfl, g5, hT, okT, hTl⟩
    exact k H5
end
end FR

/-! GRE: what the top has written, and all parts together. -/
namespace FR
open PySem L2
def HasDef (K : PySem.W.Frag) (mg : Str → Option Value) (x : Str) (st : Stmt) (ps : List Str) : Prop := ∃ (f : Addr) (fd : FuncData), DefAt K mg x st ps f fd
section
variable {K : PySem.W.Frag} {h : Heap} {mg : Str → Option Value} {f : Addr} {od an : Option Addr} {sl : Array (Option Value)} {oc kV dc pm cd ct : Value}
theorem hd_laid (X : K.In h) (G : h.Ns mainGlobals mg) (a : PySem.W.nsIn K mainGlobals "laid_on" = some (some (.ref f))) (l : K.lookup f = some ⟨oc, od, .func (PySem.W.fnOf "laid_on" "laid_on" (defArgs sLaid) (defBody sLaid) (defScope sLaid) .none kV dc pm an cd ct), sl⟩) (c : PySem.W.codeIn K cd "laid_on" = true) (k : PySem.W.keepIn K (.ref f) = true) :
    HasDef K mg "laid_on" sLaid ["table", "gifts"] := ⟨f, _, fun_mk (st := sLaid) l c k, PySem.W.mg_of X G a, (fun_mk (st := sLaid) l c k).binds (ps := ["table", "gifts"]) fun _ _ _ _ _ _ us hl => match us, hl with | [_, _], _ => rfl⟩
theorem hd_stands (X : K.In h) (G : h.Ns mainGlobals mg) (a : PySem.W.nsIn K mainGlobals "stands" = some (some (.ref f))) (l : K.lookup f = some ⟨oc, od, .func (PySem.W.fnOf "stands" "stands" (defArgs sStands) (defBody sStands) (defScope sStands) .none kV dc pm an cd ct), sl⟩) (c : PySem.W.codeIn K cd "stands" = true) (k : PySem.W.keepIn K (.ref f) = true) :
    HasDef K mg "stands" sStands ["table", "place"] := ⟨f, _, fun_mk (st := sStands) l c k, PySem.W.mg_of X G a, (fun_mk (st := sStands) l c k).binds (ps := ["table", "place"]) fun _ _ _ _ _ _ us hl => match us, hl with | [_, _], _ => rfl⟩
theorem hd_worthy (X : K.In h) (G : h.Ns mainGlobals mg) (a : PySem.W.nsIn K mainGlobals "is_worth" = some (some (.ref f))) (l : K.lookup f = some ⟨oc, od, .func (PySem.W.fnOf "is_worth" "is_worth" (defArgs sWorthy) (defBody sWorthy) (defScope sWorthy) .none kV dc pm an cd ct), sl⟩) (c : PySem.W.codeIn K cd "is_worth" = true) (k : PySem.W.keepIn K (.ref f) = true) :
    HasDef K mg "is_worth" sWorthy ["thing"] := ⟨f, _, fun_mk (st := sWorthy) l c k, PySem.W.mg_of X G a, (fun_mk (st := sWorthy) l c k).binds (ps := ["thing"]) fun _ _ _ _ _ _ us hl => match us, hl with | [_], _ => rfl⟩
theorem hd_comes (X : K.In h) (G : h.Ns mainGlobals mg) (a : PySem.W.nsIn K mainGlobals "comes_to" = some (some (.ref f))) (l : K.lookup f = some ⟨oc, od, .func (PySem.W.fnOf "comes_to" "comes_to" (defArgs sComes) (defBody sComes) (defScope sComes) .none kV dc pm an cd ct), sl⟩) (c : PySem.W.codeIn K cd "comes_to" = true) (k : PySem.W.keepIn K (.ref f) = true) :
    HasDef K mg "comes_to" sComes ["word", "first", "second"] := ⟨f, _, fun_mk (st := sComes) l c k, PySem.W.mg_of X G a, (fun_mk (st := sComes) l c k).binds (ps := ["word", "first", "second"]) fun _ _ _ _ _ _ us hl => match us, hl with | [_, _, _], _ => rfl⟩
theorem hd_reck (X : K.In h) (G : h.Ns mainGlobals mg) (a : PySem.W.nsIn K mainGlobals "reckoned" = some (some (.ref f))) (l : K.lookup f = some ⟨oc, od, .func (PySem.W.fnOf "reckoned" "reckoned" (defArgs sReck) (defBody sReck) (defScope sReck) .none kV dc pm an cd ct), sl⟩) (c : PySem.W.codeIn K cd "reckoned" = true) (k : PySem.W.keepIn K (.ref f) = true) :
    HasDef K mg "reckoned" sReck ["term", "slots"] := ⟨f, _, fun_mk (st := sReck) l c k, PySem.W.mg_of X G a, (fun_mk (st := sReck) l c k).binds (ps := ["term", "slots"]) fun _ _ _ _ _ _ us hl => match us, hl with | [_, _], _ => rfl⟩
theorem hd_oneRow (X : K.In h) (G : h.Ns mainGlobals mg) (a : PySem.W.nsIn K mainGlobals "one_row" = some (some (.ref f))) (l : K.lookup f = some ⟨oc, od, .func (PySem.W.fnOf "one_row" "one_row" (defArgs sOneRow) (defBody sOneRow) (defScope sOneRow) .none kV dc pm an cd ct), sl⟩) (c : PySem.W.codeIn K cd "one_row" = true) (k : PySem.W.keepIn K (.ref f) = true) :
    HasDef K mg "one_row" sOneRow ["row", "doing"] := ⟨f, _, fun_mk (st := sOneRow) l c k, PySem.W.mg_of X G a, (fun_mk (st := sOneRow) l c k).binds (ps := ["row", "doing"]) fun _ _ _ _ _ _ us hl => match us, hl with | [_, _], _ => rfl⟩
theorem hd_gone (X : K.In h) (G : h.Ns mainGlobals mg) (a : PySem.W.nsIn K mainGlobals "gone_through" = some (some (.ref f))) (l : K.lookup f = some ⟨oc, od, .func (PySem.W.fnOf "gone_through" "gone_through" (defArgs sGone) (defBody sGone) (defScope sGone) .none kV dc pm an cd ct), sl⟩) (c : PySem.W.codeIn K cd "gone_through" = true) (k : PySem.W.keepIn K (.ref f) = true) :
    HasDef K mg "gone_through" sGone ["rows", "doing"] := ⟨f, _, fun_mk (st := sGone) l c k, PySem.W.mg_of X G a, (fun_mk (st := sGone) l c k).binds (ps := ["rows", "doing"]) fun _ _ _ _ _ _ us hl => match us, hl with | [_, _], _ => rfl⟩
theorem hd_alone (X : K.In h) (G : h.Ns mainGlobals mg) (a : PySem.W.nsIn K mainGlobals "alone" = some (some (.ref f))) (l : K.lookup f = some ⟨oc, od, .func (PySem.W.fnOf "alone" "alone" (defArgs sAlone) (defBody sAlone) (defScope sAlone) .none kV dc pm an cd ct), sl⟩) (c : PySem.W.codeIn K cd "alone" = true) (k : PySem.W.keepIn K (.ref f) = true) :
    HasDef K mg "alone" sAlone ["rows", "table"] := ⟨f, _, fun_mk (st := sAlone) l c k, PySem.W.mg_of X G a, (fun_mk (st := sAlone) l c k).binds (ps := ["rows", "table"]) fun _ _ _ _ _ _ us hl => match us, hl with | [_, _], _ => rfl⟩
theorem hd_cell (X : K.In h) (G : h.Ns mainGlobals mg) (a : PySem.W.nsIn K mainGlobals "_law_cell_at" = some (some (.ref f))) (l : K.lookup f = some ⟨oc, od, .func (PySem.W.fnOf "_law_cell_at" "_law_cell_at" (defArgs sCell) (defBody sCell) (defScope sCell) .none kV dc pm an cd ct), sl⟩) (c : PySem.W.codeIn K cd "_law_cell_at" = true) (k : PySem.W.keepIn K (.ref f) = true) :
    HasDef K mg "_law_cell_at" sCell ["script", "k"] := ⟨f, _, fun_mk (st := sCell) l c k, PySem.W.mg_of X G a, (fun_mk (st := sCell) l c k).binds (ps := ["script", "k"]) fun _ _ _ _ _ _ us hl => match us, hl with | [_, _], _ => rfl⟩
theorem hd_draw (X : K.In h) (G : h.Ns mainGlobals mg) (a : PySem.W.nsIn K mainGlobals "_law_draw" = some (some (.ref f))) (l : K.lookup f = some ⟨oc, od, .func (PySem.W.fnOf "_law_draw" "_law_draw" (defArgs sDraw) (defBody sDraw) (defScope sDraw) .none kV dc pm an cd ct), sl⟩) (c : PySem.W.codeIn K cd "_law_draw" = true) (k : PySem.W.keepIn K (.ref f) = true) :
    HasDef K mg "_law_draw" sDraw ["cell", "j"] := ⟨f, _, fun_mk (st := sDraw) l c k, PySem.W.mg_of X G a, (fun_mk (st := sDraw) l c k).binds (ps := ["cell", "j"]) fun _ _ _ _ _ _ us hl => match us, hl with | [_, _], _ => rfl⟩
theorem hd_names (X : K.In h) (G : h.Ns mainGlobals mg) (a : PySem.W.nsIn K mainGlobals "_law_names" = some (some (.ref f))) (l : K.lookup f = some ⟨oc, od, .func (PySem.W.fnOf "_law_names" "_law_names" (defArgs sNames) (defBody sNames) (defScope sNames) .none kV dc pm an cd ct), sl⟩) (c : PySem.W.codeIn K cd "_law_names" = true) (k : PySem.W.keepIn K (.ref f) = true) :
    HasDef K mg "_law_names" sNames ["cell", "many"] := ⟨f, _, fun_mk (st := sNames) l c k, PySem.W.mg_of X G a, (fun_mk (st := sNames) l c k).binds (ps := ["cell", "many"]) fun _ _ _ _ _ _ us hl => match us, hl with | [_, _], _ => rfl⟩
theorem hd_number (X : K.In h) (G : h.Ns mainGlobals mg) (a : PySem.W.nsIn K mainGlobals "_law_number" = some (some (.ref f))) (l : K.lookup f = some ⟨oc, od, .func (PySem.W.fnOf "_law_number" "_law_number" (defArgs sNumber) (defBody sNumber) (defScope sNumber) .none kV dc pm an cd ct), sl⟩) (c : PySem.W.codeIn K cd "_law_number" = true) (k : PySem.W.keepIn K (.ref f) = true) :
    HasDef K mg "_law_number" sNumber ["cell", "j"] := ⟨f, _, fun_mk (st := sNumber) l c k, PySem.W.mg_of X G a, (fun_mk (st := sNumber) l c k).binds (ps := ["cell", "j"]) fun _ _ _ _ _ _ us hl => match us, hl with | [_, _], _ => rfl⟩
theorem hd_part (X : K.In h) (G : h.Ns mainGlobals mg) (a : PySem.W.nsIn K mainGlobals "_law_part" = some (some (.ref f))) (l : K.lookup f = some ⟨oc, od, .func (PySem.W.fnOf "_law_part" "_law_part" (defArgs sPart) (defBody sPart) (defScope sPart) .none kV dc pm an cd ct), sl⟩) (c : PySem.W.codeIn K cd "_law_part" = true) (k : PySem.W.keepIn K (.ref f) = true) :
    HasDef K mg "_law_part" sPart ["cell", "j", "slots"] := ⟨f, _, fun_mk (st := sPart) l c k, PySem.W.mg_of X G a, (fun_mk (st := sPart) l c k).binds (ps := ["cell", "j", "slots"]) fun _ _ _ _ _ _ us hl => match us, hl with | [_, _, _], _ => rfl⟩
theorem hd_word (X : K.In h) (G : h.Ns mainGlobals mg) (a : PySem.W.nsIn K mainGlobals "_law_word" = some (some (.ref f))) (l : K.lookup f = some ⟨oc, od, .func (PySem.W.fnOf "_law_word" "_law_word" (defArgs sWord) (defBody sWord) (defScope sWord) .none kV dc pm an cd ct), sl⟩) (c : PySem.W.codeIn K cd "_law_word" = true) (k : PySem.W.keepIn K (.ref f) = true) :
    HasDef K mg "_law_word" sWord ["cell", "j"] := ⟨f, _, fun_mk (st := sWord) l c k, PySem.W.mg_of X G a, (fun_mk (st := sWord) l c k).binds (ps := ["cell", "j"]) fun _ _ _ _ _ _ us hl => match us, hl with | [_, _], _ => rfl⟩
theorem hd_term (X : K.In h) (G : h.Ns mainGlobals mg) (a : PySem.W.nsIn K mainGlobals "_law_term" = some (some (.ref f))) (l : K.lookup f = some ⟨oc, od, .func (PySem.W.fnOf "_law_term" "_law_term" (defArgs sTerm) (defBody sTerm) (defScope sTerm) .none kV dc pm an cd ct), sl⟩) (c : PySem.W.codeIn K cd "_law_term" = true) (k : PySem.W.keepIn K (.ref f) = true) :
    HasDef K mg "_law_term" sTerm ["cell", "j", "slots"] := ⟨f, _, fun_mk (st := sTerm) l c k, PySem.W.mg_of X G a, (fun_mk (st := sTerm) l c k).binds (ps := ["cell", "j", "slots"]) fun _ _ _ _ _ _ us hl => match us, hl with | [_, _, _], _ => rfl⟩
theorem hd_spot (X : K.In h) (G : h.Ns mainGlobals mg) (a : PySem.W.nsIn K mainGlobals "_law_spot" = some (some (.ref f))) (l : K.lookup f = some ⟨oc, od, .func (PySem.W.fnOf "_law_spot" "_law_spot" (defArgs sSpot) (defBody sSpot) (defScope sSpot) .none kV dc pm an cd ct), sl⟩) (c : PySem.W.codeIn K cd "_law_spot" = true) (k : PySem.W.keepIn K (.ref f) = true) :
    HasDef K mg "_law_spot" sSpot ["cell", "j", "slots"] := ⟨f, _, fun_mk (st := sSpot) l c k, PySem.W.mg_of X G a, (fun_mk (st := sSpot) l c k).binds (ps := ["cell", "j", "slots"]) fun _ _ _ _ _ _ us hl => match us, hl with | [_, _, _], _ => rfl⟩
theorem hd_row (X : K.In h) (G : h.Ns mainGlobals mg) (a : PySem.W.nsIn K mainGlobals "_law_row" = some (some (.ref f))) (l : K.lookup f = some ⟨oc, od, .func (PySem.W.fnOf "_law_row" "_law_row" (defArgs sRow) (defBody sRow) (defScope sRow) .none kV dc pm an cd ct), sl⟩) (c : PySem.W.codeIn K cd "_law_row" = true) (k : PySem.W.keepIn K (.ref f) = true) :
    HasDef K mg "_law_row" sRow ["cell", "slots", "shelves"] := ⟨f, _, fun_mk (st := sRow) l c k, PySem.W.mg_of X G a, (fun_mk (st := sRow) l c k).binds (ps := ["cell", "slots", "shelves"]) fun _ _ _ _ _ _ us hl => match us, hl with | [_, _, _], _ => rfl⟩
theorem hd_closed (X : K.In h) (G : h.Ns mainGlobals mg) (a : PySem.W.nsIn K mainGlobals "_law_closed" = some (some (.ref f))) (l : K.lookup f = some ⟨oc, od, .func (PySem.W.fnOf "_law_closed" "_law_closed" (defArgs sClosed) (defBody sClosed) (defScope sClosed) .none kV dc pm an cd ct), sl⟩) (c : PySem.W.codeIn K cd "_law_closed" = true) (k : PySem.W.keepIn K (.ref f) = true) :
    HasDef K mg "_law_closed" sClosed ["frames"] := ⟨f, _, fun_mk (st := sClosed) l c k, PySem.W.mg_of X G a, (fun_mk (st := sClosed) l c k).binds (ps := ["frames"]) fun _ _ _ _ _ _ us hl => match us, hl with | [_], _ => rfl⟩
theorem hd_rows (X : K.In h) (G : h.Ns mainGlobals mg) (a : PySem.W.nsIn K mainGlobals "_law_rows" = some (some (.ref f))) (l : K.lookup f = some ⟨oc, od, .func (PySem.W.fnOf "_law_rows" "_law_rows" (defArgs sRows) (defBody sRows) (defScope sRows) .none kV dc pm an cd ct), sl⟩) (c : PySem.W.codeIn K cd "_law_rows" = true) (k : PySem.W.keepIn K (.ref f) = true) :
    HasDef K mg "_law_rows" sRows ["cells", "slots", "shelves"] := ⟨f, _, fun_mk (st := sRows) l c k, PySem.W.mg_of X G a, (fun_mk (st := sRows) l c k).binds (ps := ["cells", "slots", "shelves"]) fun _ _ _ _ _ _ us hl => match us, hl with | [_, _, _], _ => rfl⟩
theorem hd_table (X : K.In h) (G : h.Ns mainGlobals mg) (a : PySem.W.nsIn K mainGlobals "_law_table" = some (some (.ref f))) (l : K.lookup f = some ⟨oc, od, .func (PySem.W.fnOf "_law_table" "_law_table" (defArgs sTable) (defBody sTable) (defScope sTable) .none kV dc pm an cd ct), sl⟩) (c : PySem.W.codeIn K cd "_law_table" = true) (k : PySem.W.keepIn K (.ref f) = true) :
    HasDef K mg "_law_table" sTable ["cell", "shelves"] := ⟨f, _, fun_mk (st := sTable) l c k, PySem.W.mg_of X G a, (fun_mk (st := sTable) l c k).binds (ps := ["cell", "shelves"]) fun _ _ _ _ _ _ us hl => match us, hl with | [_, _], _ => rfl⟩
theorem hd_two (X : K.In h) (G : h.Ns mainGlobals mg) (a : PySem.W.nsIn K mainGlobals "_law_two" = some (some (.ref f))) (l : K.lookup f = some ⟨oc, od, .func (PySem.W.fnOf "_law_two" "_law_two" (defArgs sTwo) (defBody sTwo) (defScope sTwo) .none kV dc pm an cd ct), sl⟩) (c : PySem.W.codeIn K cd "_law_two" = true) (k : PySem.W.keepIn K (.ref f) = true) :
    HasDef K mg "_law_two" sTwo ["one", "other", "word"] := ⟨f, _, fun_mk (st := sTwo) l c k, PySem.W.mg_of X G a, (fun_mk (st := sTwo) l c k).binds (ps := ["one", "other", "word"]) fun _ _ _ _ _ _ us hl => match us, hl with | [_, _, _], _ => rfl⟩
theorem hd_lworth (X : K.In h) (G : h.Ns mainGlobals mg) (a : PySem.W.nsIn K mainGlobals "_law_worth" = some (some (.ref f))) (l : K.lookup f = some ⟨oc, od, .func (PySem.W.fnOf "_law_worth" "_law_worth" (defArgs sLWorth) (defBody sLWorth) (defScope sLWorth) .none kV dc pm an cd ct), sl⟩) (c : PySem.W.codeIn K cd "_law_worth" = true) (k : PySem.W.keepIn K (.ref f) = true) :
    HasDef K mg "_law_worth" sLWorth ["term", "state"] := ⟨f, _, fun_mk (st := sLWorth) l c k, PySem.W.mg_of X G a, (fun_mk (st := sLWorth) l c k).binds (ps := ["term", "state"]) fun _ _ _ _ _ _ us hl => match us, hl with | [_, _], _ => rfl⟩
theorem hd_lone (X : K.In h) (G : h.Ns mainGlobals mg) (a : PySem.W.nsIn K mainGlobals "_law_one" = some (some (.ref f))) (l : K.lookup f = some ⟨oc, od, .func (PySem.W.fnOf "_law_one" "_law_one" (defArgs sLOne) (defBody sLOne) (defScope sLOne) .none kV dc pm an cd ct), sl⟩) (c : PySem.W.codeIn K cd "_law_one" = true) (k : PySem.W.keepIn K (.ref f) = true) :
    HasDef K mg "_law_one" sLOne ["row", "state"] := ⟨f, _, fun_mk (st := sLOne) l c k, PySem.W.mg_of X G a, (fun_mk (st := sLOne) l c k).binds (ps := ["row", "state"]) fun _ _ _ _ _ _ us hl => match us, hl with | [_, _], _ => rfl⟩
theorem hd_through (X : K.In h) (G : h.Ns mainGlobals mg) (a : PySem.W.nsIn K mainGlobals "_law_through" = some (some (.ref f))) (l : K.lookup f = some ⟨oc, od, .func (PySem.W.fnOf "_law_through" "_law_through" (defArgs sThrough) (defBody sThrough) (defScope sThrough) .none kV dc pm an cd ct), sl⟩) (c : PySem.W.codeIn K cd "_law_through" = true) (k : PySem.W.keepIn K (.ref f) = true) :
    HasDef K mg "_law_through" sThrough ["rows", "state"] := ⟨f, _, fun_mk (st := sThrough) l c k, PySem.W.mg_of X G a, (fun_mk (st := sThrough) l c k).binds (ps := ["rows", "state"]) fun _ _ _ _ _ _ us hl => match us, hl with | [_, _], _ => rfl⟩
theorem hd_walked (X : K.In h) (G : h.Ns mainGlobals mg) (a : PySem.W.nsIn K mainGlobals "_law_walked" = some (some (.ref f))) (l : K.lookup f = some ⟨oc, od, .func (PySem.W.fnOf "_law_walked" "_law_walked" (defArgs sWalked) (defBody sWalked) (defScope sWalked) .none kV dc pm an cd ct), sl⟩) (c : PySem.W.codeIn K cd "_law_walked" = true) (k : PySem.W.keepIn K (.ref f) = true) :
    HasDef K mg "_law_walked" sWalked ["rows", "table"] := ⟨f, _, fun_mk (st := sWalked) l c k, PySem.W.mg_of X G a, (fun_mk (st := sWalked) l c k).binds (ps := ["rows", "table"]) fun _ _ _ _ _ _ us hl => match us, hl with | [_, _], _ => rfl⟩
theorem hd_copied (X : K.In h) (G : h.Ns mainGlobals mg) (a : PySem.W.nsIn K mainGlobals "_law_copied" = some (some (.ref f))) (l : K.lookup f = some ⟨oc, od, .func (PySem.W.fnOf "_law_copied" "_law_copied" (defArgs sCopied) (defBody sCopied) (defScope sCopied) .none kV dc pm an cd ct), sl⟩) (c : PySem.W.codeIn K cd "_law_copied" = true) (k : PySem.W.keepIn K (.ref f) = true) :
    HasDef K mg "_law_copied" sCopied ["rows"] := ⟨f, _, fun_mk (st := sCopied) l c k, PySem.W.mg_of X G a, (fun_mk (st := sCopied) l c k).binds (ps := ["rows"]) fun _ _ _ _ _ _ us hl => match us, hl with | [_], _ => rfl⟩
theorem hd_plain (X : K.In h) (G : h.Ns mainGlobals mg) (a : PySem.W.nsIn K mainGlobals "_law_plain" = some (some (.ref f))) (l : K.lookup f = some ⟨oc, od, .func (PySem.W.fnOf "_law_plain" "_law_plain" (defArgs sPlain) (defBody sPlain) (defScope sPlain) .none kV dc pm an cd ct), sl⟩) (c : PySem.W.codeIn K cd "_law_plain" = true) (k : PySem.W.keepIn K (.ref f) = true) :
    HasDef K mg "_law_plain" sPlain ["found"] := ⟨f, _, fun_mk (st := sPlain) l c k, PySem.W.mg_of X G a, (fun_mk (st := sPlain) l c k).binds (ps := ["found"]) fun _ _ _ _ _ _ us hl => match us, hl with | [_], _ => rfl⟩
def HasLaw (K : PySem.W.Frag) (mg : Str → Option Value) : Prop := ∃ (f : Addr) (fd : FuncData), DefAt K mg "law" sLaw ["script"] f fd ∧ ∀ (s : Shared) (u : Value), BindsTo s fd ⟨[u], []⟩ [("script", u)]
theorem hd_law (X : K.In h) (G : h.Ns mainGlobals mg) (a : PySem.W.nsIn K mainGlobals "law" = some (some (.ref f))) (l : K.lookup f = some ⟨oc, od, .func (PySem.W.fnOf "law" "law" (defArgs sLaw) (defBody sLaw) (defScope sLaw) .none kV dc pm an cd ct), sl⟩) (c : PySem.W.codeIn K cd "law" = true) (k : PySem.W.keepIn K (.ref f) = true) : HasLaw K mg :=
  ⟨f, _, ⟨fun_mk (st := sLaw) l c k, PySem.W.mg_of X G a, (fun_mk (st := sLaw) l c k).binds (ps := ["script"]) fun _ _ _ _ _ _ us hl => match us, hl with | [_], _ => rfl⟩, fun s v => .of_eq rfl⟩
/-- __init__ of Doing -/
def HasInit (K : PySem.W.Frag) (C : Addr) : Prop := ∃ (f : Addr) (fd : FuncData), PySem.W.findIn K (.ref C) "__init__" = some (some (.ref f)) ∧ PySem.W.isFn K (.ref f) = true ∧ Fun K "__init__" "Doing.__init__" sInit f fd ∧ Binds K fd ["self", "ground"] []
theorem hd_init {C : Addr} (a : PySem.W.findIn K (.ref C) "__init__" = some (some (.ref f))) (i : PySem.W.isFn K (.ref f) = true) (l : K.lookup f = some ⟨oc, od, .func (PySem.W.fnOf "__init__" "Doing.__init__" (defArgs sInit) (defBody sInit) (defScope sInit) .none kV dc pm an cd ct), sl⟩) (c : PySem.W.codeIn K cd "Doing.__init__" = true) (k : PySem.W.keepIn K (.ref f) = true) :
    HasInit K C := ⟨f, _, a, i, fun_mk (st := sInit) l c k, (fun_mk (st := sInit) l c k).binds (ps := ["self", "ground"]) fun _ _ _ _ _ _ us hl => match us, hl with | [_, _], _ => rfl⟩
theorem hd_do {C : Addr} (X : K.In h) (G : h.Ns mainGlobals mg) (a : PySem.W.nsIn K mainGlobals "Doing" = some (some (.ref C))) (pg : PySem.W.plainGet K C Str.empty = true) (hd : PySem.W.hasDictIn K C = true) (po : PySem.W.plainOver K C = true) (sa : PySem.W.findIn K (.ref C) "__setattr__" = some (some (.builtin "object.__setattr__")))
    (n1 : PySem.W.findIn K (.ref C) "ground" = some none) (n2 : PySem.W.findIn K (.ref C) "slots" = some none) (n3 : PySem.W.findIn K (.ref C) "gifts" = some none) (n4 : PySem.W.findIn K (.ref C) "sayings" = some none) (mk : PySem.W.makesIn K C = true) (kc : PySem.W.keepIn K (.ref C) = true) (I : HasInit K C) :
    ∃ (C f : Addr) (fd : FuncData), DoT K mg C ∧ Mk K C f ∧ Fun K "__init__" "Doing.__init__" sInit f fd ∧ Binds K fd ["self", "ground"] [] :=
  let ⟨f, fd, h1, h2, h3, h4⟩ := I
  ⟨C, f, fd, ⟨⟨pg, hd, po, sa⟩, n1, n2, n3, n4, PySem.W.mg_of X G a⟩, ⟨mk, h1, h2, kc⟩, h3, h4⟩
theorem hd_err {C : Addr} {x : Str} (X : K.In h) (G : h.Ns mainGlobals mg) (a : PySem.W.nsIn K mainGlobals x = some (some (.ref C))) (ex : PySem.W.excIn K C [.type "ValueError", .type "Exception", .type "BaseException", .type "object"] "ValueError.__new__" = true) (kp : PySem.W.keepIn K (.ref C) = true)
    (sb : PySem.W.subIn K (.ref C) (.type "BaseException") = some true) (ty : PySem.W.typeIn K (.ref C) = some (.type "type")) : ErrAt K mg x C := ⟨PySem.W.mg_of X G a, ex, kp, sb, ty⟩
theorem exm_ref {S E : Addr} {b : Bool} (h1 : PySem.W.subIn K (.ref S) (.type "BaseException") = some true) (h2 : PySem.W.isClsIn K S = true) (h3 : PySem.W.typeIn K (.ref S) = some (.type "type")) (h4 : PySem.W.subIn K (.ref E) (.ref S) = some b) : PySem.W.exmOne K (.ref E) (.ref S) = some b := by
  have a1 : (PySem.W.subIn K (.ref S) (.type "BaseException") == some true) = true := by rw [h1] <;> rfl
  have a2 : ((PySem.W.clsIn K S).isSome && PySem.W.typeIn K (.ref S) == some (.type "type")) = true := by
    have h2' : (PySem.W.clsIn K S).isSome = true := h2
    rw [h2', h3] <;> rfl
  show (if (PySem.W.subIn K (.ref S) (.type "BaseException") == some true) = true then (if ((PySem.W.clsIn K S).isSome && PySem.W.typeIn K (.ref S) == some (.type "type")) = true then PySem.W.subIn K (.ref E) (.ref S) else none) else none) = some b
  rw [if_pos a1, if_pos a2]
  exact h4
theorem hd_most {t : Tok} (X : K.In h) (G : h.Ns mainGlobals mg) (a : PySem.W.nsIn K mainGlobals "MOST" = some (some (.int 1000000000000000000000000000000 t))) : ∃ t, mg "MOST" = some (.int BIG t) := ⟨t, PySem.W.mg_of X G a⟩
theorem hd_doers {aD : Addr} {dd : Option Addr} {n : Nat} {t1 t2 t3 t4 t5 t6 t7 : Tok} (X : K.In h) (G : h.Ns mainGlobals mg) (a : PySem.W.nsIn K mainGlobals "DOERS" = some (some (.ref aD)))
    (l : K.lookup aD = some ⟨.type "tuple", dd, .seq #[.str "plus" t1, .str "minus" t2, .str "times" t3, .str "over" t4, .str "rest" t5, .str "under" t6, .str "same" t7] n, sl⟩) : ∃ aD, mg "DOERS" = some (.ref aD) ∧ ∀ H : Hp, SqT K H aD (doers.map V.str) :=
  ⟨aD, PySem.W.mg_of X G a, fun H => .inr ⟨_, _, _, l, rfl, rfl, (by show 7 ≤ sizeLine; decide), .cons ⟨t1, rfl⟩ (.cons ⟨t2, rfl⟩ (.cons ⟨t3, rfl⟩ (.cons ⟨t4, rfl⟩ (.cons ⟨t5, rfl⟩ (.cons ⟨t6, rfl⟩ (.cons ⟨t7, rfl⟩ .nil))))))⟩⟩
theorem hd_blt (X : K.In h) (G : h.Ns mainGlobals mg) (z0 : PySem.W.nsIn K mainGlobals "len" = some none) (z1 : PySem.W.nsIn K mainGlobals "range" = some none) (z2 : PySem.W.nsIn K mainGlobals "sorted" = some none) (z3 : PySem.W.nsIn K mainGlobals "isinstance" = some none) (z4 : PySem.W.nsIn K mainGlobals "int" = some none) (z5 : PySem.W.nsIn K mainGlobals "bool" = some none) (z6 : PySem.W.nsIn K mainGlobals "list" = some none) (z7 : PySem.W.nsIn K mainGlobals "tuple" = some none) (z8 : PySem.W.nsIn K mainGlobals "dict" = some none) (z9 : PySem.W.nsIn K mainGlobals "str" = some none) : Blt mg :=
  ⟨PySem.W.mg_none_of X G z0, PySem.W.mg_none_of X G z1, PySem.W.mg_none_of X G z2, PySem.W.mg_none_of X G z3, PySem.W.mg_none_of X G z4, PySem.W.mg_none_of X G z5, PySem.W.mg_none_of X G z6, PySem.W.mg_none_of X G z7, PySem.W.mg_none_of X G z8, PySem.W.mg_none_of X G z9⟩
end
theorem all_mk {P : Program} {w : World} {K : PySem.W.Frag} {mg : Str → Option Value} {fa CG CN : Addr} (hfa : mg "law" = some (.ref fa)) (B : Blt mg) (EG : ErrAt K mg "Great" CG) (EN : ErrAt K mg "Nought" CN) (CT : CatchT K CG CN)
    (HD : ∃ aD, mg "DOERS" = some (.ref aD) ∧ ∀ H : Hp, SqT K H aD (doers.map V.str)) (HM : ∃ t, mg "MOST" = some (.int BIG t)) (HO : ∃ (C f : Addr) (fd : FuncData), DoT K mg C ∧ Mk K C f ∧ Fun K "__init__" "Doing.__init__" sInit f fd ∧ Binds K fd ["self", "ground"] [])
    (h_laid : HasDef K mg "laid_on" sLaid ["table", "gifts"])
    (h_stands : HasDef K mg "stands" sStands ["table", "place"])
    (h_worthy : HasDef K mg "is_worth" sWorthy ["thing"])
    (h_comes : HasDef K mg "comes_to" sComes ["word", "first", "second"])
    (h_reck : HasDef K mg "reckoned" sReck ["term", "slots"])
    (h_oneRow : HasDef K mg "one_row" sOneRow ["row", "doing"])
    (h_gone : HasDef K mg "gone_through" sGone ["rows", "doing"])
    (h_alone : HasDef K mg "alone" sAlone ["rows", "table"])
    (h_cell : HasDef K mg "_law_cell_at" sCell ["script", "k"])
    (h_draw : HasDef K mg "_law_draw" sDraw ["cell", "j"])
    (h_names : HasDef K mg "_law_names" sNames ["cell", "many"])
    (h_number : HasDef K mg "_law_number" sNumber ["cell", "j"])
    (h_part : HasDef K mg "_law_part" sPart ["cell", "j", "slots"])
    (h_word : HasDef K mg "_law_word" sWord ["cell", "j"])
    (h_term : HasDef K mg "_law_term" sTerm ["cell", "j", "slots"])
    (h_spot : HasDef K mg "_law_spot" sSpot ["cell", "j", "slots"])
    (h_row : HasDef K mg "_law_row" sRow ["cell", "slots", "shelves"])
    (h_closed : HasDef K mg "_law_closed" sClosed ["frames"])
    (h_rows : HasDef K mg "_law_rows" sRows ["cells", "slots", "shelves"])
    (h_table : HasDef K mg "_law_table" sTable ["cell", "shelves"])
    (h_two : HasDef K mg "_law_two" sTwo ["one", "other", "word"])
    (h_lworth : HasDef K mg "_law_worth" sLWorth ["term", "state"])
    (h_lone : HasDef K mg "_law_one" sLOne ["row", "state"])
    (h_through : HasDef K mg "_law_through" sThrough ["rows", "state"])
    (h_walked : HasDef K mg "_law_walked" sWalked ["rows", "table"])
    (h_copied : HasDef K mg "_law_copied" sCopied ["rows"])
    (h_plain : HasDef K mg "_law_plain" sPlain ["found"])
    (h_law : HasLaw K mg) :
    ∃ fd : FuncData, (∀ (s : Shared) (u : Value), BindsTo s fd ⟨[u], []⟩ [("script", u)]) ∧ ∀ base : Heap, K.In base → base.Ns mainGlobals mg → FnOk P w K mg base CX0 16 fa fd ["script"] (spLaw K) := by
  obtain ⟨f_laid, d_laid, D_laid⟩ := h_laid
  obtain ⟨f_stands, d_stands, D_stands⟩ := h_stands
  obtain ⟨f_worthy, d_worthy, D_worthy⟩ := h_worthy
  obtain ⟨f_comes, d_comes, D_comes⟩ := h_comes
  obtain ⟨f_reck, d_reck, D_reck⟩ := h_reck
  obtain ⟨f_oneRow, d_oneRow, D_oneRow⟩ := h_oneRow
  obtain ⟨f_gone, d_gone, D_gone⟩ := h_gone
  obtain ⟨f_alone, d_alone, D_alone⟩ := h_alone
  obtain ⟨f_cell, d_cell, D_cell⟩ := h_cell
  obtain ⟨f_draw, d_draw, D_draw⟩ := h_draw
  obtain ⟨f_names, d_names, D_names⟩ := h_names
  obtain ⟨f_number, d_number, D_number⟩ := h_number
  obtain ⟨f_part, d_part, D_part⟩ := h_part
  obtain ⟨f_word, d_word, D_word⟩ := h_word
  obtain ⟨f_term, d_term, D_term⟩ := h_term
  obtain ⟨f_spot, d_spot, D_spot⟩ := h_spot
  obtain ⟨f_row, d_row, D_row⟩ := h_row
  obtain ⟨f_closed, d_closed, D_closed⟩ := h_closed
  obtain ⟨f_rows, d_rows, D_rows⟩ := h_rows
  obtain ⟨f_table, d_table, D_table⟩ := h_table
  obtain ⟨f_two, d_two, D_two⟩ := h_two
  obtain ⟨f_lworth, d_lworth, D_lworth⟩ := h_lworth
  obtain ⟨f_lone, d_lone, D_lone⟩ := h_lone
  obtain ⟨f_through, d_through, D_through⟩ := h_through
  obtain ⟨f_walked, d_walked, D_walked⟩ := h_walked
  obtain ⟨f_copied, d_copied, D_copied⟩ := h_copied
  obtain ⟨f_plain, d_plain, D_plain⟩ := h_plain
  obtain ⟨f_law, d_law, D_law, b_law⟩ := h_law
  obtain ⟨C, fI, dI, T, M, FI, bI⟩ := HO
  have e : fa = f_law := by
    have q := hfa.symm.trans D_law.m
    injection q with q
    injection q
  subst e
  refine ⟨d_law, b_law, fun base _ _ => ?_⟩
  have TT : TopT K mg CG CN := ⟨EG, EN, HD, HM⟩
  have gDraw : FnOk P w K mg base CX0 1 f_draw d_draw ["cell", "j"] spDraw := ok_draw D_draw
  have gNumber : FnOk P w K mg base CX0 2 f_number d_number ["cell", "j"] spNumber := ok_number D_number D_draw
  have gTerm : FnOk P w K mg base CX0 4 f_term d_term ["cell", "j", "slots"] spTerm := ok_term D_term D_draw D_number D_part D_word B
  have gSpot : FnOk P w K mg base CX0 5 f_spot d_spot ["cell", "j", "slots"] spSpot := ok_spot D_spot D_draw gDraw D_term gTerm
  have gRow : FnOk P w K mg base CX0 6 f_row d_row ["cell", "slots", "shelves"] spRow := ok_row D_row D_draw gDraw D_number gNumber D_term gTerm D_spot gSpot
  have gClosed : FnOk P w K mg base CX0 1 f_closed d_closed ["frames"] spClosed := ok_closed D_closed
  have gReck : FnOk P w K mg base (L2.CX P w) 2 f_reck d_reck ["term", "slots"] (spReck CG CN) := ok_reck D_reck D_comes D_worthy B TT
  have gStands : FnOk P w K mg base CX0 1 f_stands d_stands ["table", "place"] spStands := ok_stands D_stands
  have gOne : FnOk P w K mg base (L2.CX P w) 3 f_oneRow d_oneRow ["row", "doing"] (spOneRow C CG CN) := ok_oneRow D_oneRow D_reck gReck D_stands gStands T
  have gGone : FnOk P w K mg base (L2.CX P w) 10 f_gone d_gone ["rows", "doing"] (spGone C CG CN 6) := ok_gone D_gone D_reck gReck D_oneRow gOne T 6
  have gInit : FnOk P w K mg base CX0 1 fI dI ["self", "ground"] (spInit C) := ok_init FI T B
  have gLaid : FnOk P w K mg base CX0 1 f_laid d_laid ["table", "gifts"] spLaid := ok_laid D_laid B
  have gAlone : FnOk P w K mg base CX0 11 f_alone d_alone ["rows", "table"] spAlone := ok_alone D_alone M gInit bI T D_gone gGone D_laid gLaid B EG.g EN.g CT
  have gWorth : FnOk P w K mg base CX0 2 f_lworth d_lworth ["term", "state"] spLWorth := ok_lworth D_lworth D_two B
  have gThr : FnOk P w K mg base CX0 14 f_through d_through ["rows", "state"] (spThr 6) := ok_thr D_through D_lone D_lworth gWorth B 6
  exact ok_law D_law B ⟨D_names, ok_names D_names D_draw gDraw B, D_cell, ok_cell D_cell B, D_table, ok_table D_table D_draw gDraw D_number gNumber B, D_draw, gDraw,
    D_rows, ok_rows D_rows D_draw gDraw D_term gTerm D_row gRow D_closed gClosed B, D_walked, ok_walked D_walked D_through gThr B, D_copied, ok_cop D_copied 6, D_alone, gAlone, D_plain, ok_plain D_plain B 6⟩
theorem walk {l : PySem.W.OpenLaw} {q : Program} {loose : List Str} {XP : (Str → Option Value) → Heap → Prop} {YP : World → Heap → Prop} {d : DefRec} {K : Params → PySem.W.Frag} (hn : l.most = some 63) (hdf : d.params.defaults = [])
    (hY : ∀ (w : World) (h : Heap), YP w h → (K w.params).In h)
    (F : ∀ (w : World) (mg : Str → Option Value) (fa : Addr) (h : Heap), (K w.params).In h → h.Ns mainGlobals mg → mg d.name = some (.ref fa) →
      ∃ fd : FuncData, (∀ (s : Shared) (u : Value), BindsTo s fd ⟨[u], []⟩ [("script", u)]) ∧ ∀ base : Heap, (K w.params).In base → base.Ns mainGlobals mg → FnOk l.prog w (K w.params) mg base CX0 16 fa fd ["script"] (spLaw (K w.params))) :
    PySem.W.WalkO q loose XP YP l.row.toRowW d [] (fun f vs => PySem.call f vs) :=
  L2.walk_of (n := 63) (k := 16) (x := "script") (CX := fun _ => CX0) (sp := fun w => spLaw (K w.params)) hn (by decide) hdf ⟨rfl, by decide, by decide⟩ hY F (fun _ _ a ns hl _ hS => ⟨a, ns, rfl, hl, hS, fun _ => rfl⟩) fun _ _ _ _ _ z => z
end FR

open PySem PySem.W PyProof.Rows
set_option maxRecDepth 100000 in
set_option maxHeartbeats 0 in
theorem PySem.Challenge.cw_forerun_k23_whole_rows_done_holds : PySem.Challenge.rw_forerun_k23_whole_rows_done.Holds := by
  w_on; o_law; k_head; (case hw => w_witness2)
  k_fill
  refine FR.walk (l := PySem.Challenge.rw_forerun_k23_whole_rows_done) rfl rfl (fun w h Y => PySem.W.kIn_of Y) ?F
  case F =>
    intro w mg fa h KX G hmg
    refine' FR.all_mk hmg ?B ?EG ?EN ?CT ?HD ?HM ?HO ?h_laid ?h_stands ?h_worthy ?h_comes ?h_reck ?h_oneRow ?h_gone ?h_alone ?h_cell ?h_draw ?h_names ?h_number ?h_part ?h_word ?h_term ?h_spot ?h_row ?h_closed ?h_rows ?h_table ?h_two ?h_lworth ?h_lone ?h_through ?h_walked ?h_copied ?h_plain ?h_law
    case B =>
      refine' FR.hd_blt KX G ?z0 ?z1 ?z2 ?z3 ?z4 ?z5 ?z6 ?z7 ?z8 ?z9
      (case z0 => k_is)
      (case z1 => k_is)
      (case z2 => k_is)
      (case z3 => k_is)
      (case z4 => k_is)
      (case z5 => k_is)
      (case z6 => k_is)
      (case z7 => k_is)
      (case z8 => k_is)
      (case z9 => k_is)
    case EG =>
      refine' FR.hd_err KX G ?a ?ex ?kp ?sb ?ty
      (case a => k_is)
      (case ex => k_exc)
      (case kp => k_is)
      (case sb => k_is)
      (case ty => k_is)
    case EN =>
      refine' FR.hd_err KX G ?a ?ex ?kp ?sb ?ty
      (case a => k_is)
      (case ex => k_exc)
      (case kp => k_is)
      (case sb => k_is)
      (case ty => k_is)
    case CT =>
      refine' ⟨FR.exm_ref ?a1 ?a2 ?a3 ?a4, FR.exm_ref ?b1 ?b2 ?b3 ?b4, FR.exm_ref ?c1 ?c2 ?c3 ?c4⟩
      (case a1 => first | rfl | k_is)
      (case a2 => first | rfl | k_is)
      (case a3 => first | rfl | k_is)
      (case a4 => first | rfl | k_is)
      (case b1 => first | rfl | k_is)
      (case b2 => first | rfl | k_is)
      (case b3 => first | rfl | k_is)
      (case b4 => first | rfl | k_is)
      (case c1 => first | rfl | k_is)
      (case c2 => first | rfl | k_is)
      (case c3 => first | rfl | k_is)
      (case c4 => first | rfl | k_is)
    case HD =>
      refine' FR.hd_doers KX G ?a ?l
      (case a => k_is)
      (case l => k_is)
    case HM =>
      refine' FR.hd_most KX G ?a
      (case a => k_is)
    case HO =>
      refine' FR.hd_do KX G ?a ?pg ?hd ?po ?sa ?n1 ?n2 ?n3 ?n4 ?mk ?kc ?I
      (case a => k_is)
      (case pg => k_is)
      (case hd => k_is)
      (case po => k_is)
      (case sa => k_is)
      (case n1 => k_is)
      (case n2 => k_is)
      (case n3 => k_is)
      (case n4 => k_is)
      (case mk => k_is)
      (case kc => k_is)
      case I =>
        refine' FR.hd_init ?a ?i ?l ?c ?k
        (case a => k_is)
        (case i => k_is)
        (case l => k_is)
        (case c => k_is)
        (case k => k_is)
    case h_laid =>
      refine' FR.hd_laid KX G ?a ?l ?c ?k
      (case a => k_is)
      (case l => k_is)
      (case c => k_is)
      (case k => k_is)
    case h_stands =>
      refine' FR.hd_stands KX G ?a ?l ?c ?k
      (case a => k_is)
      (case l => k_is)
      (case c => k_is)
      (case k => k_is)
    case h_worthy =>
      refine' FR.hd_worthy KX G ?a ?l ?c ?k
      (case a => k_is)
      (case l => k_is)
      (case c => k_is)
      (case k => k_is)
    case h_comes =>
      refine' FR.hd_comes KX G ?a ?l ?c ?k
      (case a => k_is)
      (case l => k_is)
      (case c => k_is)
      (case k => k_is)
    case h_reck =>
      refine' FR.hd_reck KX G ?a ?l ?c ?k
      (case a => k_is)
      (case l => k_is)
      (case c => k_is)
      (case k => k_is)
    case h_oneRow =>
      refine' FR.hd_oneRow KX G ?a ?l ?c ?k
      (case a => k_is)
      (case l => k_is)
      (case c => k_is)
      (case k => k_is)
    case h_gone =>
      refine' FR.hd_gone KX G ?a ?l ?c ?k
      (case a => k_is)
      (case l => k_is)
      (case c => k_is)
      (case k => k_is)
    case h_alone =>
      refine' FR.hd_alone KX G ?a ?l ?c ?k
      (case a => k_is)
      (case l => k_is)
      (case c => k_is)
      (case k => k_is)
    case h_cell =>
      refine' FR.hd_cell KX G ?a ?l ?c ?k
      (case a => k_is)
      (case l => k_is)
      (case c => k_is)
      (case k => k_is)
    case h_draw =>
      refine' FR.hd_draw KX G ?a ?l ?c ?k
      (case a => k_is)
      (case l => k_is)
      (case c => k_is)
      (case k => k_is)
    case h_names =>
      refine' FR.hd_names KX G ?a ?l ?c ?k
      (case a => k_is)
      (case l => k_is)
      (case c => k_is)
      (case k => k_is)
    case h_number =>
      refine' FR.hd_number KX G ?a ?l ?c ?k
      (case a => k_is)
      (case l => k_is)
      (case c => k_is)
      (case k => k_is)
    case h_part =>
      refine' FR.hd_part KX G ?a ?l ?c ?k
      (case a => k_is)
      (case l => k_is)
      (case c => k_is)
      (case k => k_is)
    case h_word =>
      refine' FR.hd_word KX G ?a ?l ?c ?k
      (case a => k_is)
      (case l => k_is)
      (case c => k_is)
      (case k => k_is)
    case h_term =>
      refine' FR.hd_term KX G ?a ?l ?c ?k
      (case a => k_is)
      (case l => k_is)
      (case c => k_is)
      (case k => k_is)
    case h_spot =>
      refine' FR.hd_spot KX G ?a ?l ?c ?k
      (case a => k_is)
      (case l => k_is)
      (case c => k_is)
      (case k => k_is)
    case h_row =>
      refine' FR.hd_row KX G ?a ?l ?c ?k
      (case a => k_is)
      (case l => k_is)
      (case c => k_is)
      (case k => k_is)
    case h_closed =>
      refine' FR.hd_closed KX G ?a ?l ?c ?k
      (case a => k_is)
      (case l => k_is)
      (case c => k_is)
      (case k => k_is)
    case h_rows =>
      refine' FR.hd_rows KX G ?a ?l ?c ?k
      (case a => k_is)
      (case l => k_is)
      (case c => k_is)
      (case k => k_is)
    case h_table =>
      refine' FR.hd_table KX G ?a ?l ?c ?k
      (case a => k_is)
      (case l => k_is)
      (case c => k_is)
      (case k => k_is)
    case h_two =>
      refine' FR.hd_two KX G ?a ?l ?c ?k
      (case a => k_is)
      (case l => k_is)
      (case c => k_is)
      (case k => k_is)
    case h_lworth =>
      refine' FR.hd_lworth KX G ?a ?l ?c ?k
      (case a => k_is)
      (case l => k_is)
      (case c => k_is)
      (case k => k_is)
    case h_lone =>
      refine' FR.hd_lone KX G ?a ?l ?c ?k
      (case a => k_is)
      (case l => k_is)
      (case c => k_is)
      (case k => k_is)
    case h_through =>
      refine' FR.hd_through KX G ?a ?l ?c ?k
      (case a => k_is)
      (case l => k_is)
      (case c => k_is)
      (case k => k_is)
    case h_walked =>
      refine' FR.hd_walked KX G ?a ?l ?c ?k
      (case a => k_is)
      (case l => k_is)
      (case c => k_is)
      (case k => k_is)
    case h_copied =>
      refine' FR.hd_copied KX G ?a ?l ?c ?k
      (case a => k_is)
      (case l => k_is)
      (case c => k_is)
      (case k => k_is)
    case h_plain =>
      refine' FR.hd_plain KX G ?a ?l ?c ?k
      (case a => k_is)
      (case l => k_is)
      (case c => k_is)
      (case k => k_is)
    case h_law =>
      refine' FR.hd_law KX G ?a ?l ?c ?k
      (case a => k_is)
      (case l => k_is)
      (case c => k_is)
      (case k => k_is)
