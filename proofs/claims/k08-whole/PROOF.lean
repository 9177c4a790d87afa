import PyProof.Rows.All
import Wide.All
import OpenK.AllK
import Wide.FinOn
import HandS.ForMost
import HandS.IsInst
import HandS.TupAny
import HandS.DictComp
import HandS.Walk
import HandS.Strs
import HandS.SetFor
import HandS.Zip
import HandS.ExcSuper
import HandS.ExcField
import HandS.ExcIs
import HandS.ForExc
import HandS.Style
import KE.GoesMore
import KE.GoesEnum
import KE.KDictPairs
import HandS.SetTxt0
import KE.KExcSuper
import KE.KExcIs
import HandS.Codes
import HandS.ExcOwn
import KE.RegKSuper
import PySem.Challenge.RW_usecounts_k08_whole_faults_and_kinds
set_option Elab.async false
set_option linter.all false
set_option maxRecDepth 100000
set_option maxHeartbeats 8000000
/-! KA: kinds, words, ends, owners: plain mathematics -/
namespace K8
inductive Kd where
  | leaf (n : Int)
  | pair (a b : Kd)
  deriving DecidableEq
inductive Wd (N : Type) where
  | use
  | name (s : N)
  | take (s : N) (k : Kd)
  deriving DecidableEq
variable {N : Type}
def Wd.isTake : Wd N → Bool
  | .take _ _ => true
  | _ => false
/-- n whole programs in a row -/
inductive Wf : List (Wd N) → Nat → Prop where
  | nil : Wf [] 0
  | name {r : List (Wd N)} {n : Nat} (s : N) : Wf r n → Wf (.name s :: r) (n + 1)
  | take {r : List (Wd N)} {n : Nat} (s : N) (k : Kd) : Wf r (n + 1) → Wf (.take s k :: r) (n + 1)
  | use {r : List (Wd N)} {n : Nat} : Wf r (n + 2) → Wf (.use :: r) (n + 1)
theorem Wf.append : ∀ {a b : List (Wd N)} {n m : Nat}, Wf a n → Wf b m → Wf (a ++ b) (n + m)
  | _, b, _, m, .nil, h => by simpa using h
  | _, b, _, m, .name (r := r) (n := n) s h1, h => by
    have q := Wf.append h1 h
    have e : n + 1 + m = (n + m) + 1 := by omega
    rw [e]; exact .name s q
  | _, b, _, m, .take (r := r) (n := n) s k h1, h => by
    have q := Wf.append h1 h
    have e : n + 1 + m = (n + m) + 1 := by omega
    rw [e]; rw [e] at q; exact .take s k q
  | _, b, _, m, .use (r := r) (n := n) h1, h => by
    have q := Wf.append h1 h
    have e : n + 1 + m = (n + m) + 1 := by omega
    have e2 : n + 2 + m = (n + m) + 2 := by omega
    rw [e]; rw [e2] at q; exact .use q
theorem Wf.one_name (s : N) : Wf [Wd.name s] 1 := .name s .nil
theorem Wf.one_use {f a : List (Wd N)} (hf : Wf f 1) (ha : Wf a 1) : Wf (.use :: (f ++ a)) 1 := .use (hf.append ha)
theorem Wf.one_take {b : List (Wd N)} (s : N) (k : Kd) (hb : Wf b 1) : Wf (.take s k :: b) 1 := .take s k hb
theorem Wf.pos : ∀ {ws : List (Wd N)} {n : Nat}, Wf ws n → ws ≠ [] → 1 ≤ n
  | _, _, .nil, h => absurd rfl h
  | _, _, .name _ _, _ => by omega
  | _, _, .take _ _ _, _ => by omega
  | _, _, .use _, _ => by omega
theorem Wf.ne {ws : List (Wd N)} {n : Nat} (h : Wf ws (n + 1)) : ws ≠ [] := by cases h <;> simp
theorem Wf.tail {w : Wd N} {r : List (Wd N)} {n : Nat} (h : Wf (w :: r) n) : ∃ m, Wf r m := by
  cases h with
  | name _ h => exact ⟨_, h⟩
  | take _ _ h => exact ⟨_, h⟩
  | use h => exact ⟨_, h⟩
theorem Wf.drop : ∀ {ws : List (Wd N)} {n : Nat} (i : Nat), Wf ws n → ∃ m, Wf (ws.drop i) m
  | _, n, 0, h => ⟨n, h⟩
  | [], _, _ + 1, _ => ⟨0, .nil⟩
  | _ :: r, _, i + 1, h => by
    obtain ⟨m, q⟩ := h.tail
    exact Wf.drop i q
/-! ### the stack of ends -/
/-- the stack, top first, behind the words from place i on -/
def stk : Nat → List (Wd N) → List Nat
  | _, [] => []
  | i, .use :: r => (stk (i + 1) r).tail
  | i, .take _ _ :: r => stk (i + 1) r
  | i, .name _ :: r => (i + 1) :: stk (i + 1) r
theorem stk_len : ∀ {ws : List (Wd N)} {n : Nat} (i : Nat), Wf ws n → (stk i ws).length = n
  | _, _, i, .nil => rfl
  | _, _, i, .name s h => by simp [stk, stk_len (i + 1) h]
  | _, _, i, .take s k h => by simp [stk, stk_len (i + 1) h]
  | _, _, i, .use h => by simp [stk, stk_len (i + 1) h]
/-- where the part at place i ends -/
def endAt (i : Nat) (ws : List (Wd N)) : Nat := (stk i ws).headD 0
def endsFrom : Nat → List (Wd N) → List Nat
  | _, [] => []
  | i, w :: r => endAt i (w :: r) :: endsFrom (i + 1) r
def ends (ws : List (Wd N)) : List Nat := endsFrom 0 ws
theorem endsFrom_len : ∀ (i : Nat) (ws : List (Wd N)), (endsFrom i ws).length = ws.length
  | _, [] => rfl
  | i, _ :: r => by simp [endsFrom, endsFrom_len (i + 1) r]
theorem ends_len (ws : List (Wd N)) : (ends ws).length = ws.length := endsFrom_len 0 ws
theorem endsFrom_drop : ∀ (i : Nat) (ws : List (Wd N)) (p : Nat), (endsFrom i ws).drop p = endsFrom (i + p) (ws.drop p)
  | _, _, 0 => rfl
  | _, [], p + 1 => by simp [endsFrom]
  | i, _ :: r, p + 1 => by
    have q := endsFrom_drop (i + 1) r p
    simp only [endsFrom, List.drop_succ_cons]
    rw [q]
    congr 1
    omega
theorem ends_drop (ws : List (Wd N)) (p : Nat) : (ends ws).drop p = endsFrom p (ws.drop p) := by
  have q := endsFrom_drop 0 ws p
  rw [Nat.zero_add] at q
  exact q
theorem ends_at {ws : List (Wd N)} {p : Nat} (h : p < ws.length) : (ends ws)[p]? = some (endAt p (ws.drop p)) := by
  have q := ends_drop ws p
  have e : ws.drop p = ws[p] :: ws.drop (p + 1) := List.drop_eq_getElem_cons h
  have q2 : ((ends ws).drop p)[0]? = some (endAt p (ws.drop p)) := by
    rw [q, e]
    rfl
  simpa using q2
/-- the stack at place p -/
def S (ws : List (Wd N)) (p : Nat) : List Nat := stk p (ws.drop p)
def E (ws : List (Wd N)) (p : Nat) : Nat := (S ws p).headD 0
theorem ends_E {ws : List (Wd N)} {p : Nat} (h : p < ws.length) : (ends ws)[p]? = some (E ws p) := ends_at h
section
variable {ws : List (Wd N)} {n : Nat}
theorem S_name {p : Nat} {s : N} (h : ws[p]? = some (.name s)) : S ws p = (p + 1) :: S ws (p + 1) := by
  obtain ⟨hp, e⟩ := List.getElem?_eq_some_iff.mp h
  unfold S
  rw [List.drop_eq_getElem_cons hp, e]
  rfl
theorem S_take {p : Nat} {s : N} {k : Kd} (h : ws[p]? = some (.take s k)) : S ws p = S ws (p + 1) := by
  obtain ⟨hp, e⟩ := List.getElem?_eq_some_iff.mp h
  unfold S
  rw [List.drop_eq_getElem_cons hp, e]
  rfl
theorem S_use {p : Nat} (h : ws[p]? = some .use) : S ws p = (S ws (p + 1)).tail := by
  obtain ⟨hp, e⟩ := List.getElem?_eq_some_iff.mp h
  unfold S
  rw [List.drop_eq_getElem_cons hp, e]
  rfl
theorem S_end : S ws ws.length = [] := by
  unfold S
  rw [List.drop_length]
  rfl
theorem S_ne (h : Wf ws n) {p : Nat} (hp : p < ws.length) : S ws p ≠ [] := by
  obtain ⟨m, q⟩ := h.drop p
  have e := stk_len p q
  have ne : ws.drop p ≠ [] := by
    intro z
    have : (ws.drop p).length = 0 := by rw [z]; rfl
    rw [List.length_drop] at this
    omega
  have m1 := q.pos ne
  intro z
  unfold S at z
  rw [z] at e
  simp at e
  omega
theorem S_cons (h : Wf ws n) {p : Nat} (hp : p < ws.length) : S ws p = E ws p :: (S ws p).tail := by
  have q := S_ne h hp
  unfold E
  cases e : S ws p with
  | nil => exact absurd e q
  | cons a r => rfl
theorem use_two (h : Wf ws n) {p : Nat} (hp : ws[p]? = some .use) : ∃ a b r, S ws (p + 1) = a :: b :: r ∧ S ws p = b :: r := by
  obtain ⟨hl, e⟩ := List.getElem?_eq_some_iff.mp hp
  have q := S_ne h hl
  rw [S_use hp] at q
  cases e1 : S ws (p + 1) with
  | nil => rw [e1] at q; exact absurd rfl q
  | cons a t =>
    cases t with
    | nil => rw [e1] at q; exact absurd rfl q
    | cons b r => exact ⟨a, b, r, rfl, by rw [S_use hp, e1]; rfl⟩
theorem succ_lt_use (h : Wf ws n) {p : Nat} (hp : ws[p]? = some .use) : p + 1 < ws.length := by
  obtain ⟨a, b, r, e1, e2⟩ := use_two h hp
  obtain ⟨hl, e⟩ := List.getElem?_eq_some_iff.mp hp
  by_cases q : p + 1 < ws.length
  · exact q
  · have e3 : p + 1 = ws.length := by omega
    rw [e3, S_end] at e1
    cases e1
theorem succ_lt_take (h : Wf ws n) {p : Nat} {s : N} {k : Kd} (hp : ws[p]? = some (.take s k)) : p + 1 < ws.length := by
  obtain ⟨hl, e⟩ := List.getElem?_eq_some_iff.mp hp
  have q := S_ne h hl
  rw [S_take hp] at q
  by_cases q2 : p + 1 < ws.length
  · exact q2
  · have e3 : p + 1 = ws.length := by omega
    rw [e3, S_end] at q
    exact absurd rfl q
theorem wd_cases {p : Nat} (hp : p < ws.length) : ws[p]? = some .use ∨ (∃ s, ws[p]? = some (.name s)) ∨ ∃ s k, ws[p]? = some (.take s k) := by
  have e : ws[p]? = some ws[p] := List.getElem?_eq_getElem hp
  rw [e]
  cases ws[p] with
  | use => exact .inl rfl
  | name s => exact .inr (.inl ⟨s, rfl⟩)
  | take s k => exact .inr (.inr ⟨s, k, rfl⟩)
/-- what the stack is behind its top; its items rise; the top lies behind the place and within the words -/
theorem S_all (h : Wf ws n) : ∀ (d p : Nat), p + d = ws.length → p < ws.length →
    (S ws p).tail = S ws (E ws p) ∧ (S ws p).Pairwise (· < ·) ∧ (∀ x ∈ S ws p, p < x ∧ x ≤ ws.length)
  | 0, p, e, hp => by omega
  | d + 1, p, e, hp => by
    have ih : p + 1 < ws.length → (S ws (p + 1)).tail = S ws (E ws (p + 1)) ∧ (S ws (p + 1)).Pairwise (· < ·) ∧ (∀ x ∈ S ws (p + 1), p + 1 < x ∧ x ≤ ws.length) := fun q => S_all h d (p + 1) (by omega) q
    rcases wd_cases hp with c | ⟨s, c⟩ | ⟨s, k, c⟩
    · obtain ⟨a, b, r, e1, e2⟩ := use_two h c
      have q := succ_lt_use h c
      obtain ⟨i1, i2, i3⟩ := ih q
      rw [e1] at i1 i2 i3
      have ea : E ws (p + 1) = a := by unfold E; rw [e1]; rfl
      have eb : E ws p = b := by unfold E; rw [e2]; rfl
      rw [ea] at i1
      have i1' : b :: r = S ws a := i1
      have ha := i3 a (List.mem_cons_self)
      have hal : a < ws.length := by
        by_cases z : a < ws.length
        · exact z
        · have : a = ws.length := by omega
          rw [this, S_end] at i1'
          cases i1'
      have j := S_all h (ws.length - a) a (by omega) hal
      have Ea : E ws a = b := by unfold E; rw [← i1']; rfl
      refine ⟨?_, ?_, ?_⟩
      · rw [e2, eb]
        have j1 := j.1
        rw [← i1', Ea] at j1
        exact j1
      · rw [e2]; exact (List.pairwise_cons.mp i2).2
      · intro x hx
        rw [e2] at hx
        have := i3 x (List.mem_cons_of_mem _ hx)
        omega
    · have e1 := S_name c
      have eE : E ws p = p + 1 := by unfold E; rw [e1]; rfl
      refine ⟨by rw [e1, eE]; rfl, ?_, ?_⟩
      · rw [e1]
        refine List.pairwise_cons.mpr ⟨?_, ?_⟩
        · intro x hx
          by_cases q : p + 1 < ws.length
          · exact ((ih q).2.2 x hx).1
          · have : p + 1 = ws.length := by omega
            rw [this, S_end] at hx
            cases hx
        · by_cases q : p + 1 < ws.length
          · exact (ih q).2.1
          · have : p + 1 = ws.length := by omega
            rw [this, S_end]
            exact .nil
      · intro x hx
        rw [e1] at hx
        rcases List.mem_cons.mp hx with z | z
        · omega
        · by_cases q : p + 1 < ws.length
          · have := (ih q).2.2 x z
            omega
          · have : p + 1 = ws.length := by omega
            rw [this, S_end] at z
            cases z
    · have q := succ_lt_take h c
      obtain ⟨i1, i2, i3⟩ := ih q
      have e1 := S_take c
      have eE : E ws p = E ws (p + 1) := by unfold E; rw [e1]
      rw [e1, eE]
      exact ⟨i1, i2, fun x hx => by have := i3 x hx; omega⟩
termination_by d p => ws.length - p
decreasing_by all_goals omega
theorem E_bounds (h : Wf ws n) {p : Nat} (hp : p < ws.length) : p < E ws p ∧ E ws p ≤ ws.length := by
  have q := (S_all h (ws.length - p) p (by omega) hp).2.2
  rw [S_cons h hp] at q
  exact q _ List.mem_cons_self
theorem S_suffix (h : Wf ws n) : ∀ (d p q : Nat), p + d = ws.length → p < ws.length → p ≤ q → q < E ws p → S ws p <:+ S ws q
  | 0, p, q, e, hp, _, _ => by omega
  | d + 1, p, q, e, hp, hpq, hq => by
    by_cases epq : p = q
    · subst epq; exact List.suffix_refl _
    · have hpq' : p + 1 ≤ q := by omega
      rcases wd_cases hp with c | ⟨s, c⟩ | ⟨s, k, c⟩
      · obtain ⟨a, b, r, e1, e2⟩ := use_two h c
        have q1 := succ_lt_use h c
        have ea : E ws (p + 1) = a := by unfold E; rw [e1]; rfl
        have eb : E ws p = b := by unfold E; rw [e2]; rfl
        have t := (S_all h (ws.length - (p + 1)) (p + 1) (by omega) q1).1
        rw [e1, ea] at t
        have t' : b :: r = S ws a := t
        have bd := E_bounds h q1
        rw [ea] at bd
        by_cases qa : q < a
        · have i := S_suffix h d (p + 1) q (by omega) q1 hpq' (by rw [ea]; exact qa)
          rw [e1] at i
          rw [e2]
          exact List.IsSuffix.trans (List.suffix_cons a _) i
        · have hal : a < ws.length := by
            by_cases z : a < ws.length
            · exact z
            · have : a = ws.length := by omega
              rw [this, S_end] at t'
              cases t'
          have Ea : E ws a = b := by unfold E; rw [← t']; rfl
          have i := S_suffix h (ws.length - a) a q (by omega) hal (by omega) (by rw [Ea, ← eb]; exact hq)
          rw [← t'] at i
          rw [e2]
          exact i
      · have eE : E ws p = p + 1 := by unfold E; rw [S_name c]; rfl
        omega
      · have q1 := succ_lt_take h c
        have eE : E ws p = E ws (p + 1) := by unfold E; rw [S_take c]
        rw [S_take c]
        exact S_suffix h d (p + 1) q (by omega) q1 hpq' (by rw [← eE]; exact hq)
termination_by d p => ws.length - p
decreasing_by all_goals omega
/-- parts lie within each other or apart -/
theorem E_nest (h : Wf ws n) {p q : Nat} (hp : p < ws.length) (hpq : p ≤ q) (hq : q < E ws p) : E ws q ≤ E ws p := by
  have b := E_bounds h hp
  have hql : q < ws.length := by omega
  have sf := S_suffix h (ws.length - p) p q (by omega) hp hpq hq
  have pw := (S_all h (ws.length - q) q (by omega) hql).2.1
  rw [S_cons h hql] at pw sf
  rw [S_cons h hp] at sf
  obtain ⟨t, ht⟩ := sf
  cases t with
  | nil =>
    have : E ws p = E ws q := by
      simp at ht
      exact ht.1
    omega
  | cons x t =>
    have ht' : x = E ws q ∧ t ++ E ws p :: (S ws p).tail = (S ws q).tail := by
      simpa using ht
    have m : E ws p ∈ (S ws q).tail := by rw [← ht'.2]; simp
    have := (List.pairwise_cons.mp pw).1 _ m
    omega
end
end K8
/-! KB: owners of names, the list of takes that are open -/
namespace K8
variable {N : Type} [DecidableEq N]
/-- the word at `at_` is a take of the name that stands at p -/
def takesName : Option (Wd N) → Option (Wd N) → Bool
  | some (.take s _), some (.name t) => decide (s = t)
  | _, _ => false
/-- the take at `a` takes the name at p -/
def Cand (ws : List (Wd N)) (p a : Nat) : Bool := decide (a < p) && decide (p < E ws a) && takesName ws[a]? ws[p]?
def owner (ws : List (Wd N)) (p : Nat) : Option Nat := (List.range p).reverse.find? (Cand ws p)
def owners (ws : List (Wd N)) : List (Option Nat) := (List.range ws.length).map (owner ws)
theorem find_rev_range (C : Nat → Bool) : ∀ (n : Nat) (a : Nat), (List.range n).reverse.find? C = some a ↔ (a < n ∧ C a = true ∧ ∀ b, b < n → C b = true → b ≤ a)
  | 0, a => by simp
  | n + 1, a => by
    rw [List.range_succ, List.reverse_append]
    show (List.find? C (n :: (List.range n).reverse)) = some a ↔ _
    rw [List.find?_cons]
    cases c : C n with
    | true =>
      simp only [Option.some.injEq]
      constructor
      · rintro rfl
        exact ⟨by omega, c, fun b hb _ => by omega⟩
      · rintro ⟨h1, h2, h3⟩
        have := h3 n (by omega) c
        omega
    | false =>
      simp only
      rw [find_rev_range C n a]
      constructor
      · rintro ⟨h1, h2, h3⟩
        refine ⟨by omega, h2, fun b hb hc => ?_⟩
        by_cases e : b = n
        · rw [e, c] at hc; cases hc
        · exact h3 b (by omega) hc
      · rintro ⟨h1, h2, h3⟩
        have : a ≠ n := fun e => by rw [e, c] at h2; cases h2
        exact ⟨by omega, h2, fun b hb hc => h3 b (by omega) hc⟩
theorem find_rev_none (C : Nat → Bool) (n : Nat) : (List.range n).reverse.find? C = none ↔ ∀ b, b < n → C b = false := by
  rw [List.find?_eq_none]
  constructor
  · intro h b hb
    have := h b (by simp [hb])
    simpa using this
  · intro h b hb
    have := h b (by simpa using hb)
    simp [this]
theorem Cand_lt {ws : List (Wd N)} {p a : Nat} (h : Cand ws p a = true) : a < p := by
  unfold Cand at h
  simp at h
  omega
theorem owner_some {ws : List (Wd N)} {p a : Nat} : owner ws p = some a ↔ (Cand ws p a = true ∧ ∀ b, Cand ws p b = true → b ≤ a) := by
  unfold owner
  rw [find_rev_range]
  constructor
  · rintro ⟨h1, h2, h3⟩
    exact ⟨h2, fun b hb => h3 b (Cand_lt hb) hb⟩
  · rintro ⟨h1, h2⟩
    exact ⟨Cand_lt h1, h1, fun b _ hb => h2 b hb⟩
theorem owner_none {ws : List (Wd N)} {p : Nat} : owner ws p = none ↔ ∀ b, Cand ws p b = false := by
  unfold owner
  rw [find_rev_none]
  constructor
  · intro h b
    by_cases q : b < p
    · exact h b q
    · cases c : Cand ws p b with
      | false => rfl
      | true => exact absurd (Cand_lt c) q
  · intro h b _
    exact h b
theorem Cand_iff {ws : List (Wd N)} {p a : Nat} : Cand ws p a = true ↔ (a < p ∧ p < E ws a ∧ ∃ s k, ws[a]? = some (.take s k) ∧ ws[p]? = some (.name s)) := by
  unfold Cand
  simp only [Bool.and_eq_true, decide_eq_true_eq]
  constructor
  · rintro ⟨⟨h1, h2⟩, h3⟩
    refine ⟨h1, h2, ?_⟩
    unfold takesName at h3
    split at h3
    · rename_i s k t e1 e2
      have e3 := of_decide_eq_true h3
      subst e3
      exact ⟨s, k, e1, e2⟩
    · cases h3
  · rintro ⟨h1, h2, s, k, e1, e2⟩
    refine ⟨⟨h1, h2⟩, ?_⟩
    rw [e1, e2]
    simp [takesName]
theorem owner_lt {ws : List (Wd N)} {p a : Nat} (h : owner ws p = some a) : a < p := Cand_lt (owner_some.mp h).1
theorem owner_take {ws : List (Wd N)} {p a : Nat} (h : owner ws p = some a) : ∃ s k, ws[a]? = some (.take s k) ∧ ws[p]? = some (.name s) :=
  (Cand_iff.mp (owner_some.mp h).1).2.2
theorem owner_notname {ws : List (Wd N)} {p : Nat} (h : ∀ s, ws[p]? ≠ some (.name s)) : owner ws p = none := by
  cases e : owner ws p with
  | none => rfl
  | some a =>
    obtain ⟨s, k, _, e2⟩ := owner_take e
    exact absurd e2 (h s)
theorem owners_len (ws : List (Wd N)) : (owners ws).length = ws.length := by simp [owners]
theorem owners_at {ws : List (Wd N)} {p : Nat} (h : p < ws.length) : (owners ws)[p]? = some (owner ws p) := by
  simp [owners, h]
/-! ### the open takes while the places are gone through -/
/-- the takes ahead of p that are still open ahead of p -/
def opn (ws : List (Wd N)) (p : Nat) : List Nat := (List.range p).filter fun a => ((ws[a]?.map Wd.isTake).getD false) && decide (p ≤ E ws a)
/-- .. at p -/
def opq (ws : List (Wd N)) (p : Nat) : List Nat := (List.range p).filter fun a => ((ws[a]?.map Wd.isTake).getD false) && decide (p < E ws a)
theorem mem_opn {ws : List (Wd N)} {p a : Nat} : a ∈ opn ws p ↔ a < p ∧ (∃ s k, ws[a]? = some (.take s k)) ∧ p ≤ E ws a := by
  unfold opn
  rw [List.mem_filter, List.mem_range]
  constructor
  · rintro ⟨h1, h2⟩
    simp only [Bool.and_eq_true, decide_eq_true_eq] at h2
    refine ⟨h1, ?_, h2.2⟩
    cases e : ws[a]? with
    | none => rw [e] at h2; simp at h2
    | some w =>
      rw [e] at h2
      cases w with
      | use => simp [Wd.isTake] at h2
      | name s => simp [Wd.isTake] at h2
      | take s k => exact ⟨s, k, rfl⟩
  · rintro ⟨h1, ⟨s, k, e⟩, h3⟩
    exact ⟨h1, by rw [e]; simp [Wd.isTake, h3]⟩
theorem mem_opq {ws : List (Wd N)} {p a : Nat} : a ∈ opq ws p ↔ a < p ∧ (∃ s k, ws[a]? = some (.take s k)) ∧ p < E ws a := by
  unfold opq
  rw [List.mem_filter, List.mem_range]
  constructor
  · rintro ⟨h1, h2⟩
    simp only [Bool.and_eq_true, decide_eq_true_eq] at h2
    refine ⟨h1, ?_, h2.2⟩
    cases e : ws[a]? with
    | none => rw [e] at h2; simp at h2
    | some w =>
      rw [e] at h2
      cases w with
      | use => simp [Wd.isTake] at h2
      | name s => simp [Wd.isTake] at h2
      | take s k => exact ⟨s, k, rfl⟩
  · rintro ⟨h1, ⟨s, k, e⟩, h3⟩
    exact ⟨h1, by rw [e]; simp [Wd.isTake, h3]⟩
theorem range_sorted (n : Nat) : (List.range n).Pairwise (· < ·) := List.pairwise_lt_range
theorem opn_sorted (ws : List (Wd N)) (p : Nat) : (opn ws p).Pairwise (· < ·) := (range_sorted p).filter _
theorem opq_sorted (ws : List (Wd N)) (p : Nat) : (opq ws p).Pairwise (· < ·) := (range_sorted p).filter _
/-- ascending lists with the same items are one -/
theorem sorted_ext : ∀ {a b : List Nat}, a.Pairwise (· < ·) → b.Pairwise (· < ·) → (∀ x, x ∈ a ↔ x ∈ b) → a = b
  | [], [], _, _, _ => rfl
  | [], y :: b, _, _, h => absurd ((h y).mpr List.mem_cons_self) (by simp)
  | x :: a, [], _, _, h => absurd ((h x).mp List.mem_cons_self) (by simp)
  | x :: a, y :: b, ha, hb, h => by
    have ha' := List.pairwise_cons.mp ha
    have hb' := List.pairwise_cons.mp hb
    have e : x = y := by
      have h1 := (h x).mp List.mem_cons_self
      have h2 := (h y).mpr List.mem_cons_self
      rcases List.mem_cons.mp h1 with z | z
      · exact z
      · rcases List.mem_cons.mp h2 with z2 | z2
        · exact z2.symm
        · have := hb'.1 x z
          have := ha'.1 y z2
          omega
    subst e
    refine congrArg _ (sorted_ext ha'.2 hb'.2 fun z => ?_)
    have hz := h z
    constructor
    · intro m
      have := ha'.1 z m
      rcases List.mem_cons.mp (hz.mp (List.mem_cons_of_mem _ m)) with q | q
      · omega
      · exact q
    · intro m
      have := hb'.1 z m
      rcases List.mem_cons.mp (hz.mpr (List.mem_cons_of_mem _ m)) with q | q
      · omega
      · exact q
section
variable {ws : List (Wd N)} {n : Nat}
/-- from p to p + 1 -/
theorem opn_succ_take {p : Nat} {s : N} {k : Kd} (h : Wf ws n) (hp : ws[p]? = some (.take s k)) : opn ws (p + 1) = opq ws p ++ [p] := by
  have hl := (List.getElem?_eq_some_iff.mp hp).1
  refine sorted_ext (opn_sorted _ _) ?_ fun x => ?_
  · rw [List.pairwise_append]
    refine ⟨opq_sorted _ _, List.pairwise_singleton _ _, fun a ha b hb => ?_⟩
    rw [List.mem_singleton] at hb
    subst hb
    exact (mem_opq.mp ha).1
  · rw [mem_opn, List.mem_append, mem_opq, List.mem_singleton]
    constructor
    · rintro ⟨h1, h2, h3⟩
      by_cases e : x = p
      · exact .inr e
      · exact .inl ⟨by omega, h2, by omega⟩
    · rintro (⟨h1, h2, h3⟩ | rfl)
      · exact ⟨by omega, h2, by omega⟩
      · exact ⟨by omega, ⟨s, k, hp⟩, (E_bounds h hl).1⟩
theorem opn_succ_other {p : Nat} (hp : ∀ s k, ws[p]? ≠ some (.take s k)) : opn ws (p + 1) = opq ws p := by
  refine sorted_ext (opn_sorted _ _) (opq_sorted _ _) fun x => ?_
  rw [mem_opn, mem_opq]
  constructor
  · rintro ⟨h1, ⟨s, k, h2⟩, h3⟩
    have : x ≠ p := fun e => hp s k (e ▸ h2)
    exact ⟨by omega, ⟨s, k, h2⟩, by omega⟩
  · rintro ⟨h1, h2, h3⟩
    exact ⟨by omega, h2, by omega⟩
/-- the while: those that are over lie behind -/
theorem opn_nested (h : Wf ws n) {p : Nat} (hp : p ≤ ws.length) : (opn ws p).Pairwise fun a b => E ws b ≤ E ws a := by
  have q := opn_sorted ws p
  refine List.Pairwise.imp_of_mem (fun {a b} ha hb hab => ?_) q
  obtain ⟨h1, _, h3⟩ := mem_opn.mp ha
  obtain ⟨h4, _, h6⟩ := mem_opn.mp hb
  exact E_nest h (by omega) (by omega) (by omega)
/-- a list between opn and opq: an initial part of opn that holds all of opq -/
theorem opq_of_prefix (h : Wf ws n) {p : Nat} (hp : p ≤ ws.length) {l : List Nat} (hl : l <+: opn ws p) (hall : ∀ a ∈ opq ws p, a ∈ l) (hlast : l = [] ∨ ∃ a, l.getLast? = some a ∧ p < E ws a) : l = opq ws p := by
  have ls : l.Pairwise (· < ·) := (opn_sorted ws p).sublist hl.sublist
  refine sorted_ext ls (opq_sorted _ _) fun x => ⟨fun m => ?_, hall x⟩
  have mo := mem_opn.mp (hl.subset m)
  rcases hlast with e | ⟨a, e1, e2⟩
  · rw [e] at m; cases m
  · have ln : l.Pairwise fun a b => E ws b ≤ E ws a := (opn_nested h hp).sublist hl.sublist
    have le : E ws a ≤ E ws x := by
      obtain ⟨t, ht⟩ : ∃ t, l = t ++ [a] := by
        have := List.getLast?_eq_some_iff.mp e1
        exact this
      rw [ht] at m ln
      rw [List.pairwise_append] at ln
      rcases List.mem_append.mp m with z | z
      · exact ln.2.2 x z a (by simp)
      · rw [List.mem_singleton] at z; rw [z]; omega
    exact mem_opq.mpr ⟨mo.1, mo.2.1, by omega⟩
/-- one turn of the while -/
theorem opq_pop {p a : Nat} {t : List Nat} (hall : ∀ x ∈ opq ws p, x ∈ t ++ [a]) (ha : E ws a ≤ p) : ∀ x ∈ opq ws p, x ∈ t := by
  intro x hx
  rcases List.mem_append.mp (hall x hx) with z | z
  · exact z
  · rw [List.mem_singleton] at z
    subst z
    have := (mem_opq.mp hx).2.2
    omega
/-- those of a name -/
def ofName (ws : List (Wd N)) (s : N) (l : List Nat) : List Nat := l.filter fun a => match ws[a]? with
  | some (.take t _) => decide (t = s)
  | _ => false
theorem mem_ofName {s : N} {l : List Nat} {a : Nat} : a ∈ ofName ws s l ↔ a ∈ l ∧ ∃ k, ws[a]? = some (.take s k) := by
  unfold ofName
  rw [List.mem_filter]
  constructor
  · rintro ⟨h1, h2⟩
    refine ⟨h1, ?_⟩
    split at h2
    · rename_i t k e
      have := of_decide_eq_true h2
      subst this
      exact ⟨k, e⟩
    · cases h2
  · rintro ⟨h1, k, e⟩
    exact ⟨h1, by rw [e]; simp⟩
theorem ofName_append_same {s : N} {k : Kd} {l : List Nat} {a : Nat} (e : ws[a]? = some (.take s k)) : ofName ws s (l ++ [a]) = ofName ws s l ++ [a] := by
  unfold ofName
  rw [List.filter_append]
  congr 1
  rw [List.filter_cons]
  simp [e]
theorem ofName_append_other {s t : N} {k : Kd} {l : List Nat} {a : Nat} (e : ws[a]? = some (.take s k)) (hne : s ≠ t) : ofName ws t (l ++ [a]) = ofName ws t l := by
  unfold ofName
  rw [List.filter_append]
  rw [List.filter_cons]
  simp [e, hne]
/-- the owner is the last open take of the name -/
theorem owner_last {p : Nat} {s : N} (hp : ws[p]? = some (.name s)) : owner ws p = (ofName ws s (opq ws p)).getLast? := by
  have srt : (ofName ws s (opq ws p)).Pairwise (· < ·) := (opq_sorted ws p).filter _
  have cm : ∀ a, Cand ws p a = true ↔ a ∈ ofName ws s (opq ws p) := fun a => by
    rw [Cand_iff, mem_ofName, mem_opq]
    constructor
    · rintro ⟨h1, h2, t, k, e1, e2⟩
      rw [hp] at e2
      cases e2
      exact ⟨⟨h1, ⟨s, k, e1⟩, h2⟩, k, e1⟩
    · rintro ⟨⟨h1, _, h2⟩, k, e⟩
      exact ⟨h1, h2, s, k, e, hp⟩
  cases e : (ofName ws s (opq ws p)).getLast? with
  | none =>
    have nil := List.getLast?_eq_none_iff.mp e
    refine owner_none.mpr fun b => ?_
    cases c : Cand ws p b with
    | false => rfl
    | true => have := (cm b).mp c; rw [nil] at this; cases this
  | some a =>
    obtain ⟨t, ht⟩ := List.getLast?_eq_some_iff.mp e
    refine owner_some.mpr ⟨(cm a).mpr (by rw [ht]; simp), fun b hb => ?_⟩
    have mb := (cm b).mp hb
    rw [ht] at mb srt
    rcases List.mem_append.mp mb with z | z
    · have := (List.pairwise_append.mp srt).2.2 b z a (by simp)
      omega
    · rw [List.mem_singleton] at z; omega
end
end K8
/-! KC: kinds of parts, faults, other taken names -/
namespace K8
variable {N : Type} [DecidableEq N]
def takeKind : Option (Wd N) → Option Kd
  | some (.take _ k) => some k
  | _ => none
/-- the kind of a use by those of its f and its a; whether they do not go together -/
def useKind : Option Kd → Option Kd → Option Kd × Bool
  | some (.pair a b), some c => if a = c then (some b, false) else (none, true)
  | some (.leaf _), some _ => (none, true)
  | _, _ => (none, false)
/-- the kinds of the parts from place p on, and the least place that is wrong -/
def kst (ws : List (Wd N)) (known : N → Option Kd) : Nat → List (Wd N) → List (Option Kd) × Option Nat
  | _, [] => ([], none)
  | p, .take _ k :: r => (((kst ws known (p + 1) r).1.headD none).map (Kd.pair k) :: (kst ws known (p + 1) r).1, (kst ws known (p + 1) r).2)
  | p, .name s :: r => ((match owner ws p with
      | none => known s
      | some a => takeKind ws[a]?) :: (kst ws known (p + 1) r).1, (kst ws known (p + 1) r).2)
  | p, .use :: r => ((useKind ((kst ws known (p + 1) r).1.headD none) (((kst ws known (p + 1) r).1[E ws (p + 1) - (p + 1)]?).getD none)).1 :: (kst ws known (p + 1) r).1,
      if (useKind ((kst ws known (p + 1) r).1.headD none) (((kst ws known (p + 1) r).1[E ws (p + 1) - (p + 1)]?).getD none)).2 then some p else (kst ws known (p + 1) r).2)
theorem kst_len (ws : List (Wd N)) (known : N → Option Kd) : ∀ (p : Nat) (r : List (Wd N)), (kst ws known p r).1.length = r.length
  | _, [] => rfl
  | p, .take _ _ :: r => by simp [kst, kst_len ws known (p + 1) r]
  | p, .name _ :: r => by simp [kst, kst_len ws known (p + 1) r]
  | p, .use :: r => by simp [kst, kst_len ws known (p + 1) r]
def kinds (ws : List (Wd N)) (known : N → Option Kd) : List (Option Kd) := (kst ws known 0 ws).1
def wrongKind (ws : List (Wd N)) (known : N → Option Kd) : Option Nat := (kst ws known 0 ws).2
def Kd.depth : Kd → Nat
  | .leaf _ => 0
  | .pair a b => 1 + max a.depth b.depth
theorem kst_depth (ws : List (Wd N)) (known : N → Option Kd) (D : Nat) (hk : ∀ s k, known s = some k → k.depth ≤ D) (ht : ∀ s k, Wd.take s k ∈ ws → k.depth ≤ D) :
    ∀ (p : Nat) (r : List (Wd N)), (∀ w ∈ r, w ∈ ws) → ∀ k, some k ∈ (kst ws known p r).1 → k.depth + 1 ≤ D + r.length
  | _, [], _, k, h => by simp [kst] at h
  | p, .take s j :: r, hr, k, h => by
    have ih := kst_depth ws known D hk ht (p + 1) r (fun w hw => hr w (List.mem_cons_of_mem _ hw))
    simp only [kst] at h
    rcases List.mem_cons.mp h with z | z
    · cases e : (kst ws known (p + 1) r).1 with
      | nil => rw [e] at z; cases z
      | cons o t =>
        rw [e] at z ih
        cases o with
        | none => cases z
        | some b =>
          have z' : k = Kd.pair j b := by simpa using z
          have h1 := ih b List.mem_cons_self
          have h2 := ht s j (hr _ List.mem_cons_self)
          rw [z']
          simp only [Kd.depth, List.length_cons]
          have : 1 ≤ r.length := by
            have q := kst_len ws known (p + 1) r
            rw [e] at q
            simp at q
            omega
          omega
    · have := ih k z
      simp only [List.length_cons]
      omega
  | p, .name s :: r, hr, k, h => by
    have ih := kst_depth ws known D hk ht (p + 1) r (fun w hw => hr w (List.mem_cons_of_mem _ hw))
    simp only [kst] at h
    rcases List.mem_cons.mp h with z | z
    · simp only [List.length_cons]
      cases e : owner ws p with
      | none =>
        rw [e] at z
        have := hk s k z.symm
        omega
      | some a =>
        rw [e] at z
        obtain ⟨t, j, e1, e2⟩ := owner_take e
        have z' : k = j := by simpa [takeKind, e1] using z
        have := ht t j (List.mem_of_getElem? e1)
        rw [z']
        omega
    · have := ih k z
      simp only [List.length_cons]
      omega
  | p, .use :: r, hr, k, h => by
    have ih := kst_depth ws known D hk ht (p + 1) r (fun w hw => hr w (List.mem_cons_of_mem _ hw))
    simp only [kst] at h
    simp only [List.length_cons]
    rcases List.mem_cons.mp h with z | z
    · cases e : (kst ws known (p + 1) r).1 with
      | nil => rw [e] at z; simp [useKind] at z
      | cons o t =>
        rw [e] at z
        cases o with
        | none => simp [useKind] at z
        | some f =>
          have hf := ih f (by rw [e]; exact List.mem_cons_self)
          cases f with
          | leaf i =>
            cases e2 : ((some (Kd.leaf i) :: t)[E ws (p + 1) - (p + 1)]?).getD none with
            | none => rw [e2] at z; simp [useKind] at z
            | some c => rw [e2] at z; simp [useKind] at z
          | pair a b =>
            cases e2 : ((some (Kd.pair a b) :: t)[E ws (p + 1) - (p + 1)]?).getD none with
            | none => rw [e2] at z; simp [useKind] at z
            | some c =>
              rw [e2] at z
              simp only [List.headD_cons, useKind] at z
              split at z
              · have z' : k = b := by simpa using z
                rw [z']
                simp only [Kd.depth] at hf
                omega
              · cases z
    · have := ih k z
      omega
/-! ### faults -/
inductive Flt (N : Type) where
  | opn (p : Nat)
  | knd (p : Nat)
  | handed (s : N) (n : Nat)
  | cnt (p n : Nat)
  deriving DecidableEq
/-- the name that stands open at p -/
def openName (ws : List (Wd N)) (p : Nat) : Option N := match ws[p]? with
  | some (.name s) => if (owner ws p).isNone then some s else none
  | _ => none
def badOpen (ws : List (Wd N)) (known : N → Option Kd) (p : Nat) : Bool := match openName ws p with
  | some s => (known s).isNone
  | none => false
def wrongName (ws : List (Wd N)) (known : N → Option Kd) : Option Nat := (List.range ws.length).find? (badOpen ws known)
def standing (ws : List (Wd N)) (s : N) : Nat := ((List.range ws.length).filter fun p => decide (openName ws p = some s)).length
def taken (ws : List (Wd N)) (a : Nat) : Nat := (owners ws).count (some a)
def wrongHanded (hold : Nat → Bool) (ws : List (Wd N)) (handed : List N) : Option N := handed.find? fun s => !hold (standing ws s)
def wrongTake (hold : Nat → Bool) (ws : List (Wd N)) : Option Nat := (List.range ws.length).find? fun p => ((ws[p]?.map Wd.isTake).getD false) && !hold (taken ws p)
def countFault (hold : Nat → Bool) (ws : List (Wd N)) (handed : List N) : Option (Flt N) := match wrongHanded hold ws handed with
  | some s => some (.handed s (standing ws s))
  | none => match wrongTake hold ws with
    | some p => some (.cnt p (taken ws p))
    | none => none
def judge (hold : Nat → Bool) (known : N → Option Kd) (handed : List N) (ws : List (Wd N)) : Option (Flt N) := match wrongName ws known with
  | some p => some (.opn p)
  | none => match wrongKind ws known with
    | some p => some (.knd p)
    | none => countFault hold ws handed
/-! ### other taken names -/
def nw (ws : List (Wd N)) (nm : Nat → N) (p : Nat) : Wd N → Wd N
  | .use => .use
  | .take _ k => .take (nm p) k
  | .name s => match owner ws p with
    | none => .name s
    | some a => .name (nm a)
def namedFrom (ws : List (Wd N)) (nm : Nat → N) : Nat → List (Wd N) → List (Wd N)
  | _, [] => []
  | p, w :: r => nw ws nm p w :: namedFrom ws nm (p + 1) r
def named (ws : List (Wd N)) (nm : Nat → N) : List (Wd N) := namedFrom ws nm 0 ws
theorem namedFrom_len (ws : List (Wd N)) (nm : Nat → N) : ∀ (p : Nat) (r : List (Wd N)), (namedFrom ws nm p r).length = r.length
  | _, [] => rfl
  | p, _ :: r => by simp [namedFrom, namedFrom_len ws nm (p + 1) r]
theorem named_len (ws : List (Wd N)) (nm : Nat → N) : (named ws nm).length = ws.length := namedFrom_len ws nm 0 ws
theorem namedFrom_at (ws : List (Wd N)) (nm : Nat → N) : ∀ (p : Nat) (r : List (Wd N)) (i : Nat), (namedFrom ws nm p r)[i]? = r[i]?.map (nw ws nm (p + i))
  | _, [], i => by simp [namedFrom]
  | p, w :: r, 0 => by simp [namedFrom]
  | p, w :: r, i + 1 => by
    simp only [namedFrom, List.getElem?_cons_succ]
    rw [namedFrom_at ws nm (p + 1) r i]
    congr 2
    omega
theorem named_at (ws : List (Wd N)) (nm : Nat → N) (i : Nat) : (named ws nm)[i]? = ws[i]?.map (nw ws nm i) := by
  have q := namedFrom_at ws nm 0 ws i
  rw [Nat.zero_add] at q
  exact q
theorem namedFrom_drop (ws : List (Wd N)) (nm : Nat → N) : ∀ (p : Nat) (r : List (Wd N)) (i : Nat), (namedFrom ws nm p r).drop i = namedFrom ws nm (p + i) (r.drop i)
  | _, _, 0 => rfl
  | _, [], i + 1 => by simp [namedFrom]
  | p, w :: r, i + 1 => by
    simp only [namedFrom, List.drop_succ_cons]
    rw [namedFrom_drop ws nm (p + 1) r i]
    congr 1
    omega
theorem stk_named (ws : List (Wd N)) (nm : Nat → N) : ∀ (i p : Nat) (r : List (Wd N)), stk i (namedFrom ws nm p r) = stk i r
  | _, _, [] => rfl
  | i, p, .use :: r => by simp [namedFrom, nw, stk, stk_named ws nm (i + 1) (p + 1) r]
  | i, p, .take _ _ :: r => by simp [namedFrom, nw, stk, stk_named ws nm (i + 1) (p + 1) r]
  | i, p, .name s :: r => by
    simp only [namedFrom, nw]
    cases owner ws p <;> simp [stk, stk_named ws nm (i + 1) (p + 1) r]
theorem E_named (ws : List (Wd N)) (nm : Nat → N) (p : Nat) : E (named ws nm) p = E ws p := by
  unfold E S named
  rw [namedFrom_drop, stk_named]
theorem Wf_named (ws : List (Wd N)) (nm : Nat → N) : ∀ (p : Nat) {r : List (Wd N)} {n : Nat}, Wf r n → Wf (namedFrom ws nm p r) n
  | _, _, _, .nil => .nil
  | p, _, _, .use h => .use (Wf_named ws nm (p + 1) h)
  | p, _, _, .take s k h => .take _ _ (Wf_named ws nm (p + 1) h)
  | p, _, _, .name s h => by
    have q := Wf_named ws nm (p + 1) h
    simp only [namedFrom, nw]
    cases owner ws p with
    | none => exact .name _ q
    | some a => exact .name _ q
theorem named_Wf {ws : List (Wd N)} {nm : Nat → N} {n : Nat} (h : Wf ws n) : Wf (named ws nm) n := Wf_named ws nm 0 h
structure Fresh (ws : List (Wd N)) (nm : Nat → N) : Prop where
  inj : ∀ a b s k t j, ws[a]? = some (.take s k) → ws[b]? = some (.take t j) → nm a = nm b → a = b
  off : ∀ a s k p, ws[a]? = some (.take s k) → openName ws p ≠ some (nm a)
section
variable {ws : List (Wd N)} {nm : Nat → N}
theorem named_take {a : Nat} {t : N} {k : Kd} : (named ws nm)[a]? = some (.take t k) ↔ t = nm a ∧ ∃ s, ws[a]? = some (.take s k) := by
  rw [named_at]
  cases e : ws[a]? with
  | none => simp
  | some w =>
    cases w with
    | use => simp [nw]
    | take s j =>
      simp only [Option.map_some, nw, Option.some.injEq, Wd.take.injEq]
      constructor
      · rintro ⟨h1, h2⟩
        exact ⟨h1.symm, s, rfl, h2⟩
      · rintro ⟨h1, u, h2, h3⟩
        exact ⟨h1.symm, h3⟩
    | name s =>
      simp only [Option.map_some, nw]
      cases owner ws a <;> simp
theorem openName_some {p : Nat} {s : N} : openName ws p = some s ↔ ws[p]? = some (.name s) ∧ owner ws p = none := by
  unfold openName
  cases e : ws[p]? with
  | none => simp
  | some w =>
    cases w with
    | use => simp
    | take s j => simp
    | name t =>
      simp only [Option.some.injEq, Wd.name.injEq]
      cases owner ws p <;> simp
theorem owner_named (f : Fresh ws nm) (p : Nat) : owner (named ws nm) p = owner ws p := by
  cases e : owner ws p with
  | none =>
    refine owner_none.mpr fun b => ?_
    cases c : Cand (named ws nm) p b with
    | false => rfl
    | true =>
      obtain ⟨h1, h2, t, k, e1, e2⟩ := Cand_iff.mp c
      obtain ⟨et, s, es⟩ := named_take.mp e1
      rw [named_at] at e2
      cases ew : ws[p]? with
      | none => rw [ew] at e2; cases e2
      | some w =>
        rw [ew] at e2
        cases w with
        | use => simp [nw] at e2
        | take _ _ => simp [nw] at e2
        | name u =>
          simp only [Option.map_some, nw, e, Option.some.injEq, Wd.name.injEq] at e2
          exact absurd (openName_some.mpr ⟨ew, e⟩) (by rw [e2, et]; exact f.off b s k p es)
  | some a =>
    obtain ⟨hc, hm⟩ := owner_some.mp e
    obtain ⟨h1, h2, s, k, e1, e2⟩ := Cand_iff.mp hc
    have en : (named ws nm)[p]? = some (.name (nm a)) := by rw [named_at, e2]; simp [nw, e]
    refine owner_some.mpr ⟨Cand_iff.mpr ⟨h1, by rw [E_named]; exact h2, nm a, k, named_take.mpr ⟨rfl, s, e1⟩, en⟩, fun b hb => ?_⟩
    obtain ⟨b1, b2, t, j, f1, f2⟩ := Cand_iff.mp hb
    obtain ⟨et, u, eu⟩ := named_take.mp f1
    rw [en] at f2
    cases f2
    exact Nat.le_of_eq (f.inj b a u j s k eu e1 et.symm)
theorem owners_named (f : Fresh ws nm) : owners (named ws nm) = owners ws := by
  unfold owners
  rw [named_len]
  exact List.map_congr_left fun p _ => owner_named f p
theorem openName_named (f : Fresh ws nm) (p : Nat) : openName (named ws nm) p = openName ws p := by
  cases e : openName ws p with
  | some s =>
    obtain ⟨h1, h2⟩ := openName_some.mp e
    exact openName_some.mpr ⟨by rw [named_at, h1]; simp [nw, h2], by rw [owner_named f]; exact h2⟩
  | none =>
    cases q : openName (named ws nm) p with
    | none => rfl
    | some s =>
      obtain ⟨h1, h2⟩ := openName_some.mp q
      rw [owner_named f] at h2
      rw [named_at] at h1
      cases ew : ws[p]? with
      | none => rw [ew] at h1; cases h1
      | some w =>
        rw [ew] at h1
        cases w with
        | use => simp [nw] at h1
        | take _ _ => simp [nw] at h1
        | name u =>
          have := openName_some.mpr ⟨ew, h2⟩
          rw [e] at this
          cases this
theorem kst_named (f : Fresh ws nm) (known : N → Option Kd) : ∀ (p : Nat) (r : List (Wd N)), kst (named ws nm) known p (namedFrom ws nm p r) = kst ws known p r
  | _, [] => rfl
  | p, .use :: r => by simp [namedFrom, nw, kst, kst_named f known (p + 1) r, E_named]
  | p, .take _ _ :: r => by simp [namedFrom, nw, kst, kst_named f known (p + 1) r]
  | p, .name s :: r => by
    have ih := kst_named f known (p + 1) r
    have eo := owner_named f p
    cases e : owner ws p with
    | none =>
      rw [e] at eo
      simp only [namedFrom, nw, e, kst, ih, eo]
    | some a =>
      rw [e] at eo
      obtain ⟨t, k, e1, _⟩ := owner_take e
      have et : takeKind (named ws nm)[a]? = takeKind ws[a]? := by
        rw [named_at, e1]
        simp [nw, takeKind]
      simp only [namedFrom, nw, e, kst, ih, eo, et]
theorem judge_named (f : Fresh ws nm) (hold : Nat → Bool) (known : N → Option Kd) (handed : List N) : judge hold known handed (named ws nm) = judge hold known handed ws := by
  have h1 : wrongName (named ws nm) known = wrongName ws known := by
    unfold wrongName
    rw [named_len]
    congr 1
    funext p
    unfold badOpen
    rw [openName_named f]
  have h2 : wrongKind (named ws nm) known = wrongKind ws known := by
    unfold wrongKind
    have := kst_named f known 0 ws
    unfold named at this ⊢
    rw [this]
  have h3 : standing (named ws nm) = standing ws := by
    funext s
    unfold standing
    rw [named_len]
    congr 2
    funext p
    rw [openName_named f]
  have h4 : taken (named ws nm) = taken ws := by
    funext a
    unfold taken
    rw [owners_named f]
  have h5 : wrongTake hold (named ws nm) = wrongTake hold ws := by
    unfold wrongTake
    rw [named_len, h4]
    congr 1
    funext p
    congr 1
    rw [named_at]
    cases e : ws[p]? with
    | none => rfl
    | some w =>
      cases w with
      | use => simp [nw, Wd.isTake]
      | take _ _ => simp [nw, Wd.isTake]
      | name s => simp only [Option.map_some, nw]; cases owner ws p <;> rfl
  have h6 : countFault hold (named ws nm) handed = countFault hold ws handed := by
    unfold countFault wrongHanded
    rw [h3, h4, h5]
  unfold judge
  rw [h1, h2, h6]
end
end K8
/-! KD: lots: sums of makers, the least sums by rests -/
namespace K8
inductive IsSum (ms : List Nat) : Nat → Prop where
  | zero : IsSum ms 0
  | add {m n : Nat} : m ∈ ms → IsSum ms n → IsSum ms (n + m)
theorem IsSum.plus {ms : List Nat} {a b : Nat} (ha : IsSum ms a) (hb : IsSum ms b) : IsSum ms (a + b) := by
  induction hb with
  | zero => exact ha
  | add hm _ ih => rw [← Nat.add_assoc]; exact .add hm ih
theorem IsSum.mul {ms : List Nat} {m : Nat} (hm : m ∈ ms) : ∀ k, IsSum ms (k * m)
  | 0 => by rw [Nat.zero_mul]; exact .zero
  | k + 1 => by rw [Nat.succ_mul]; exact .add hm (IsSum.mul hm k)
theorem IsSum.one {ms : List Nat} {m : Nat} (hm : m ∈ ms) : IsSum ms m := by
  have := IsSum.add hm (IsSum.zero (ms := ms))
  rw [Nat.zero_add] at this
  exact this
theorem IsSum.of {as bs : List Nat} (h : ∀ a ∈ as, IsSum bs a) {n : Nat} (q : IsSum as n) : IsSum bs n := by
  induction q with
  | zero => exact .zero
  | add hm _ ih => exact ih.plus (h _ hm)
/-! ### the table of sums (the law's way) -/
/-- found holds, for each number below its length, whether it is a sum -/
def SumsOk (ms : List Nat) (found : List Bool) : Prop := ∀ (n : Nat) (b : Bool), found[n]? = some b → (b = true ↔ IsSum ms n)
theorem sums_next {ms : List Nat} {found : List Bool} (hpos : ∀ m ∈ ms, 0 < m) (h : SumsOk ms found) (h0 : 0 < found.length) {b : Bool}
    (hb : b = true ↔ ∃ m ∈ ms, m ≤ found.length ∧ found[found.length - m]? = some true) : SumsOk ms (found ++ [b]) := by
  intro n c hc
  by_cases hn : n < found.length
  · rw [List.getElem?_append_left hn] at hc
    exact h n c hc
  · have hl := (List.getElem?_eq_some_iff.mp hc).1
    rw [List.length_append, List.length_singleton] at hl
    have en : n = found.length := by omega
    subst en
    rw [List.getElem?_append_right (Nat.le_refl _)] at hc
    simp at hc
    subst hc
    rw [hb]
    constructor
    · rintro ⟨m, hm, hle, hf⟩
      have q := (h _ _ hf).mp rfl
      have := IsSum.add hm q
      have e : found.length - m + m = found.length := by omega
      rw [e] at this
      exact this
    · intro q
      generalize e : found.length = L at q
      cases q with
      | zero => omega
      | @add m n hm q =>
        have := hpos m hm
        refine ⟨m, hm, by omega, ?_⟩
        have e2 : n + m - m = n := by omega
        rw [e2]
        have hlt : n < found.length := by omega
        have hx : found[n]? = some found[n] := List.getElem?_eq_getElem hlt
        have := (h n _ hx).mpr q
        rw [hx, this]
/-! ### the least sums by their rests (the program's way) -/
structure LInv (ms : List Nat) (first M : Nat) (f : List (Option Nat)) : Prop where
  len : f.length = first
  sum : ∀ (r v : Nat), f[r]? = some (some v) → IsSum ms v ∧ v % first = r
  zero : f[0]? = some (some 0)
  bound : ∀ (r v : Nat), f[r]? = some (some v) → v + M ≤ M * (f.filter (·.isSome)).length
/-- the measure -/
def lmeas (M first : Nat) (f : List (Option Nat)) : Nat := (f.map fun o => match o with
  | none => M * first + 1
  | some v => v).sum
/-- what relaxing does -/
def Relaxed (first : Nat) (f : List (Option Nat)) (r m : Nat) : Prop := ∀ (v : Nat), f[r]? = some (some v) → ∃ u, f[(v + m) % first]? = some (some u) ∧ u ≤ v + m
theorem filter_len_le (f : List (Option Nat)) : (f.filter (·.isSome)).length ≤ f.length := List.length_filter_le _ _
theorem filter_set_some : ∀ (f : List (Option Nat)) (j v u : Nat), f[j]? = some (some u) → ((f.set j (some v)).filter (·.isSome)).length = (f.filter (·.isSome)).length
  | [], j, v, u, h => by simp at h
  | a :: t, 0, v, u, h => by
    have e : a = some u := by simpa using h
    subst e
    simp
  | a :: t, j + 1, v, u, h => by
    have ih := filter_set_some t j v u (by simpa using h)
    simp only [List.set_cons_succ, List.filter_cons]
    split <;> simp [ih]
theorem filter_set_none : ∀ (f : List (Option Nat)) (j v : Nat), f[j]? = some none → ((f.set j (some v)).filter (·.isSome)).length = (f.filter (·.isSome)).length + 1
  | [], j, v, h => by simp at h
  | a :: t, 0, v, h => by
    have e : a = none := by simpa using h
    subst e
    simp
  | a :: t, j + 1, v, h => by
    have ih := filter_set_none t j v (by simpa using h)
    simp only [List.set_cons_succ, List.filter_cons]
    split <;> simp [ih]
theorem meas_set : ∀ (f : List (Option Nat)) (B j v : Nat) (o : Option Nat), f[j]? = some o → (∀ u, o = some u → v < u) → (o = none → v < B) →
    ((f.set j (some v)).map fun o => match o with | none => B | some v => v).sum < (f.map fun o => match o with | none => B | some v => v).sum
  | [], B, j, v, o, h, _, _ => by simp at h
  | a :: t, B, 0, v, o, h, h1, h2 => by
    have e : a = o := by simpa using h
    subst e
    simp only [List.set_cons_zero, List.map_cons, List.sum_cons]
    cases a with
    | none => have := h2 rfl; simp; omega
    | some u => have := h1 u rfl; simp; omega
  | a :: t, B, j + 1, v, o, h, h1, h2 => by
    have ih := meas_set t B j v o (by simpa using h) h1 h2
    simp only [List.set_cons_succ, List.map_cons, List.sum_cons]
    omega
/-- an entry is made, or made less -/
theorem LInv.set {ms : List Nat} {first M : Nat} {f : List (Option Nat)} (I : LInv ms first M f) (hM : ∀ m ∈ ms, m ≤ M) (hpos : ∀ m ∈ ms, 0 < m) {r v m : Nat} {o : Option Nat} (hv : f[r]? = some (some v)) (hm : m ∈ ms)
    (ho : f[(v + m) % first]? = some o) (hlt : ∀ u, o = some u → v + m < u) :
    LInv ms first M (f.set ((v + m) % first) (some (v + m))) ∧ lmeas M first (f.set ((v + m) % first) (some (v + m))) < lmeas M first f := by
  have hj : (v + m) % first < f.length := (List.getElem?_eq_some_iff.mp ho).1
  have mp := hpos m hm
  have mle := hM m hm
  have hv0 := I.bound r v hv
  have hs := filter_len_le f
  have cnt : M * (f.filter (·.isSome)).length ≤ M * first := Nat.mul_le_mul_left _ (by rw [← I.len]; exact hs)
  have j0 : (v + m) % first ≠ 0 ∨ o ≠ some 0 := by
    by_cases e : o = some 0
    · exact absurd (hlt 0 e) (by omega)
    · exact .inr e
  refine ⟨⟨by rw [List.length_set]; exact I.len, fun r' v' h' => ?_, ?_, fun r' v' h' => ?_⟩, ?_⟩
  · by_cases e : (v + m) % first = r'
    · subst e
      rw [List.getElem?_set_self hj] at h'
      cases h'
      exact ⟨.add hm (I.sum r v hv).1, rfl⟩
    · rw [List.getElem?_set_ne e] at h'
      exact I.sum r' v' h'
  · by_cases e : (v + m) % first = 0
    · rw [e, I.zero] at ho
      have : o = some 0 := by simpa using ho.symm
      rcases j0 with z | z
      · exact absurd e z
      · exact absurd this z
    · rw [List.getElem?_set_ne e]
      exact I.zero
  · have le : (f.filter (·.isSome)).length ≤ ((f.set ((v + m) % first) (some (v + m))).filter (·.isSome)).length := by
      cases o with
      | none => rw [filter_set_none _ _ _ ho]; omega
      | some u => rw [filter_set_some _ _ _ u ho]; omega
    by_cases e : (v + m) % first = r'
    · subst e
      rw [List.getElem?_set_self hj] at h'
      cases h'
      cases o with
      | none =>
        rw [filter_set_none _ _ _ ho, Nat.mul_succ]
        omega
      | some u =>
        have h1 := I.bound _ u ho
        have h2 := hlt u rfl
        rw [filter_set_some _ _ _ u ho]
        omega
    · rw [List.getElem?_set_ne e] at h'
      exact Nat.le_trans (I.bound r' v' h') (Nat.mul_le_mul_left _ le)
  · refine meas_set f (M * first + 1) _ _ o ho hlt fun e => ?_
    subst e
    have h1 := filter_set_none f _ (v + m) ho
    have h2 := filter_len_le (f.set ((v + m) % first) (some (v + m)))
    rw [h1, List.length_set, I.len] at h2
    have : M * (f.filter (·.isSome)).length + M ≤ M * first := by
      rw [← Nat.mul_succ]
      exact Nat.mul_le_mul_left _ h2
    omega
/-- at the end -/
theorem LInv.done {ms : List Nat} {first M : Nat} {f : List (Option Nat)} (I : LInv ms first M f) (hf : first ∈ ms) (fix : ∀ r m, r < first → m ∈ ms → Relaxed first f r m) (n : Nat) :
    IsSum ms n ↔ ∃ l, f[n % first]? = some (some l) ∧ l ≤ n := by
  constructor
  · intro h
    induction h with
    | zero => exact ⟨0, by rw [Nat.zero_mod]; exact I.zero, Nat.le_refl _⟩
    | @add m n hm _ ih =>
      obtain ⟨l, e, hl⟩ := ih
      have hlt : n % first < first := by
        have := (List.getElem?_eq_some_iff.mp e).1
        rw [I.len] at this
        exact this
      obtain ⟨u, e2, hu⟩ := fix _ m hlt hm l e
      have er := (I.sum _ l e).2
      have em : (l + m) % first = (n + m) % first := by
        rw [Nat.add_mod, er, ← Nat.add_mod]
      rw [em] at e2
      exact ⟨u, e2, by omega⟩
  · rintro ⟨l, e, hl⟩
    obtain ⟨s, er⟩ := I.sum _ l e
    have hd : first ∣ n - l := by
      have : (n - l) % first = 0 := Nat.sub_mod_eq_zero_of_mod_eq er.symm
      exact Nat.dvd_of_mod_eq_zero this
    obtain ⟨k, hk⟩ := hd
    have : n = l + k * first := by rw [Nat.mul_comm]; omega
    rw [this]
    exact s.plus (IsSum.mul hf k)
theorem filter_rep : ∀ n : Nat, (List.replicate n (none : Option Nat)).filter (·.isSome) = []
  | 0 => rfl
  | n + 1 => by rw [List.replicate_succ, List.filter_cons]; simp [filter_rep n]
theorem LInv.start {ms : List Nat} {first M : Nat} (hf : 0 < first) : LInv ms first M ((List.replicate first none).set 0 (some 0)) := by
  have h0 : (List.replicate first (none : Option Nat))[0]? = some none := by simp [hf]
  refine ⟨by simp, fun r v h => ?_, by rw [List.getElem?_set_self (by simpa using hf)], fun r v h => ?_⟩
  · by_cases e : 0 = r
    · subst e
      rw [List.getElem?_set_self (by simpa using hf)] at h
      cases h
      exact ⟨.zero, Nat.zero_mod _⟩
    · rw [List.getElem?_set_ne e, List.getElem?_replicate] at h
      split at h <;> cases h
  · rw [filter_set_none _ _ _ h0, filter_rep]
    by_cases e : 0 = r
    · subst e
      rw [List.getElem?_set_self (by simpa using hf)] at h
      cases h
      simp
    · rw [List.getElem?_set_ne e, List.getElem?_replicate] at h
      split at h <;> cases h
/-- what a table of least sums is -/
def LeastsOf (ms : List Nat) (f : List (Option Nat)) : Prop := 0 < f.length ∧ ∀ n, IsSum ms n ↔ ∃ l, f[n % f.length]? = some (some l) ∧ l ≤ n
/-! ### lots -/
inductive Lt where
  | once | loan | free
  | more (ms : List Nat)
  | raw (heads rounds : List Bool)
open Classical in
noncomputable def Lt.holds : Lt → Nat → Bool
  | .once, n => decide (n = 1)
  | .loan, n => decide (n < 2)
  | .free, _ => true
  | .more ms, n => decide (0 < n ∧ IsSum ms (n - 1))
  | .raw hs rs, n => if n < hs.length then (hs[n]?).getD false else (rs[(n - hs.length) % rs.length]?).getD false
/-- the flags of the law for the numbers below m -/
def FlagsOk (l : Lt) (m : Nat) (fl : List Bool) : Prop := ∀ n, n < m → fl[n]? = some (l.holds n)
end K8
/-! KW: the ground of the walk -/
namespace K8
open PySem PySem.Spec PyProof.Rows L2
def topS (i : Nat) : Stmt := PySem.Challenge.pw_usecounts_k08_whole_faults_and_kinds.main.body.getD i (.Pass ⟨0, 0, 0, 0⟩)
/-! ### calls of defs -/
structure Cl (P : Program) (w : World) (K : PySem.W.Frag) (mg : Str → Option Value) (base : Heap) (x : Str) (k : Nat) (ps : List Str) (sp : Sp) : Prop where
  ex : ∃ f fd, mg x = some (.ref f) ∧ PySem.W.keepIn K (.ref f) = true ∧ Binds K fd ps [] ∧ FnOk P w K mg base CX0 k f fd ps sp
/-- the reading of a call -/
def tCl (sp : Sp) (t : TA) : TE := fun σ H Q => t σ H fun vs H1 => sp vs H1 Q E0
section
variable {X : Cx} {x : Str} {p pos : Pos} {e : Expr} {es : List Expr} {t : TA} {k j : Nat} {ps : List Str} {sp : Sp}
theorem pe_cl (C : Cl X.prog X.w X.K X.mg X.base x k ps sp) (hr : Room j X.A) (hk : k ≤ j) (ha : PA X (e :: es) t) (hg : Gl X x := by rfl) (hdb : (x == ("__debug__" : Str)) = false := by decide)
    (he : starEach (e :: es) X.env = (false, eval e X.env) :: starEach es X.env := by rfl) (hpl : (backTo pos (starEach es X.env)).any (·.1) = false := by rfl) : PE X (.Call (.Name x p) (e :: es) [] pos) (tCl sp t) := by
  obtain ⟨f, fd, hm, kp, b, F⟩ := C.ex
  have q := pe_call (X := X) (p := p) (pos := pos) F (hr.mono hk) hg hm kp b .nil (pass0 (X := X)) ha hdb he hpl
  refine ⟨fun pins s σ H Q I h => q.run pins s σ H Q I ?_⟩
  show t σ H fun vs H1 => sp (vs ++ []) H1 Q E0
  have e2 : (fun (vs : List V) (H1 : Hp) => sp (vs ++ []) H1 Q E0) = fun vs H1 => sp vs H1 Q E0 := by
    funext vs H1
    rw [List.append_nil]
  rw [e2]
  exact h
/-- a module's constant -/
theorem pe_gs {z : Str} (hm : ∃ t, X.mg x = some (.str z t)) (hg : Gl X x := by rfl) (hd : (x == ("__debug__" : Str)) = false := by decide) : PE X (.Name x p) (tC (.str z)) := by
  obtain ⟨t, hm⟩ := hm
  exact pe_glob hg hm ⟨_, rfl⟩ hd
theorem pe_gi {z : Int} (hm : ∃ t, X.mg x = some (.int z t)) (hg : Gl X x := by rfl) (hd : (x == ("__debug__" : Str)) = false := by decide) : PE X (.Name x p) (tC (.int z)) := by
  obtain ⟨t, hm⟩ := hm
  exact pe_glob hg hm ⟨_, rfl⟩ hd
/-- a built-in type as a value -/
theorem pe_ty {Ty : String} (hm : X.mg x = none) (hv : bootBuiltins x = some (.type Ty)) (hg : Gl X x := by rfl) (hn : x ≠ "__name__" := by decide) (hd : (x == ("__debug__" : Str)) = false := by decide) : PE X (.Name x p) (tC (.ty Ty)) :=
  pe_bltn hg hm hv (show RelV (.ty Ty) (.type Ty) from rfl) hn hd
end
theorem blT {Q : VK} {H : Hp} {b : Bool} (h : b = true) (q : Q (.bl true) H) : Q (.bl b) H := by rw [h]; exact q
theorem blF {Q : VK} {H : Hp} {b : Bool} (h : b = false) (q : Q (.bl false) H) : Q (.bl b) H := by rw [h]; exact q
theorem eT {c : Prop} [Decidable c] (h : c) : V.bl (decide c) = V.bl true := congrArg V.bl (decide_eq_true h)
theorem eF {c : Prop} [Decidable c] (h : ¬ c) : V.bl (decide c) = V.bl false := congrArg V.bl (decide_eq_false h)
theorem hu64_of {A : Around} {k : Nat} (hr : Room k A) : A.units + 64 < cLine := hr.units
/-! ### heaps -/
theorem same_new {H : Hp} {p : Addr} (o : HO) (h : H p = none) : Same H (upd H p o) := fun b x e => by
  rw [upd_ne (ne_of_none e h)]
  exact e
/-- a new object, the heap by another name -/
theorem new_f {H H1 : Hp} {p : Addr} {o : HO} (h : H p = none) (e : upd H p o = H1) : Same H H1 ∧ H1 p = some o ∧ ∀ b, b ≠ p → H1 b = H b := by
  subst e
  exact ⟨same_new o h, upd_same, fun b hb => upd_ne hb⟩
/-- an object changed, the heap by another name -/
theorem mut_f {H H1 : Hp} {p : Addr} {o : HO} (e : upd H p o = H1) : H1 p = some o ∧ ∀ b, b ≠ p → H1 b = H b := by
  subst e
  exact ⟨upd_same, fun b hb => upd_ne hb⟩
/-- .. that was not there at first -/
theorem _root_.L2.Same.mut {H0 H H1 : Hp} {p : Addr} (s : Same H0 H) (n : H0 p = none) (f : ∀ b, b ≠ p → H1 b = H b) : Same H0 H1 := fun b o e => by
  rw [f b (ne_of_none e n)]
  exact s b o e
theorem SqL.h {K : PySem.W.Frag} {H : Hp} {a : Addr} {xs : List V} (h : H a = some (.lst xs)) : SqL K H a xs := .inl (.inl h)
theorem SqT.h {K : PySem.W.Frag} {H : Hp} {a : Addr} {xs : List V} (h : H a = some (.tup xs)) : SqT K H a xs := .inl (.inl h)
/-- the tuples stay -/
def Tups (H H' : Hp) : Prop := ∀ p xs, H p = some (.tup xs) → H' p = some (.tup xs)
theorem _root_.L2.Same.tups {H H' : Hp} (s : Same H H') : Tups H H' := fun p xs e => s p _ e
theorem Tups.refl (H : Hp) : Tups H H := fun _ _ e => e
theorem Tups.trans {H H1 H2 : Hp} (a : Tups H H1) (b : Tups H1 H2) : Tups H H2 := fun p xs e => b p xs (a p xs e)
/-! ### what the program's top has written: built-ins that stand, constants -/
structure Txt (mg : Str → Option Value) : Prop where
  len : mg "len" = none
  range : mg "range" = none
  isinstance : mg "isinstance" = none
  set : mg "set" = none
  sorted : mg "sorted" = none
  enumerate : mg "enumerate" = none
  int : mg "int" = none
  bool : mg "bool" = none
  str : mg "str" = none
  tuple : mg "tuple" = none
  list : mg "list" = none
  dict : mg "dict" = none
  abs : mg "abs" = none
  min : mg "min" = none
  max : mg "max" = none
  all : mg "all" = none
  any : mg "any" = none
  ValueError : mg "ValueError" = none
  cSMALL : ∃ t, mg "SMALL" = some (.str "abcdefghijklmnopqrstuvwxyz" t)
  cMOST_SIGNS : ∃ t, mg "MOST_SIGNS" = some (.int 8 t)
  cLAST_LETTER : ∃ t, mg "LAST_LETTER" = some (.int 25 t)
  cONCE : ∃ t, mg "ONCE" = some (.str "once" t)
  cLOAN : ∃ t, mg "LOAN" = some (.str "loan" t)
  cFREE : ∃ t, mg "FREE" = some (.str "free" t)
  cMORE : ∃ t, mg "MORE" = some (.str "more" t)
  cMOST_MAKERS : ∃ t, mg "MOST_MAKERS" = some (.int 4 t)
  cMOST_MAKER : ∃ t, mg "MOST_MAKER" = some (.int 12 t)
  cMOST_HEADS : ∃ t, mg "MOST_HEADS" = some (.int 8 t)
  cMOST_ROUNDS : ∃ t, mg "MOST_ROUNDS" = some (.int 6 t)
  cUSE : ∃ t, mg "USE" = some (.str "@" t)
  cMOST_TOOLS : ∃ t, mg "MOST_TOOLS" = some (.int 8 t)
  cMOST_HANDED : ∃ t, mg "MOST_HANDED" = some (.int 6 t)
/-! ### names, kinds, words as they lie -/
/-- a name: 1 to 8 letters -/
def nameOk (s : Str) : Bool := decide (1 ≤ s.cps.size) && decide (s.cps.size ≤ 8) && s.cps.toList.all fun c => decide (97 ≤ c) && decide (c ≤ 122)
/-- a kind with letters from 0 to 25 -/
def KdV (H : Hp) : V → Kd → Prop
  | v, .leaf n => v = .int n ∧ 0 ≤ n ∧ n ≤ 25
  | v, .pair a b => ∃ p x y, v = .ref p ∧ H p = some (.tup [x, y]) ∧ KdV H x a ∧ KdV H y b
theorem KdV.mono {H H' : Hp} (t : Tups H H') : ∀ {k : Kd} {v : V}, KdV H v k → KdV H' v k
  | .leaf _, _, h => h
  | .pair a b, v, h => by
    obtain ⟨p, x, y, e, ep, ha, hb⟩ := h
    exact ⟨p, x, y, e, t _ _ ep, ha.mono t, hb.mono t⟩
abbrev W := Wd Str
def WdV (H : Hp) : V → W → Prop
  | v, .use => v = .str "@"
  | v, .name s => v = .str s ∧ nameOk s = true
  | v, .take s k => ∃ p x, v = .ref p ∧ H p = some (.tup [.str s, x]) ∧ nameOk s = true ∧ KdV H x k ∧ k.depth ≤ 3
theorem WdV.mono {H H' : Hp} (t : Tups H H') : ∀ {w : W} {v : V}, WdV H v w → WdV H' v w
  | .use, _, h => h
  | .name _, _, h => h
  | .take s k, v, h => by
    obtain ⟨p, x, e, ep, hn, hk, hd⟩ := h
    exact ⟨p, x, e, t _ _ ep, hn, hk.mono t, hd⟩
abbrev WsV (H : Hp) : List V → List W → Prop := Paired (WdV H)
theorem pd_imp {α β : Type} {R R' : α → β → Prop} (h : ∀ a b, R a b → R' a b) : ∀ {xs : List α} {ys : List β}, Paired R xs ys → Paired R' xs ys
  | _, _, .nil => .nil
  | _, _, .cons r t => .cons (h _ _ r) (pd_imp h t)
theorem WsV.mono {H H' : Hp} (t : Tups H H') {vs : List V} {ws : List W} (h : WsV H vs ws) : WsV H' vs ws := pd_imp (fun _ _ r => WdV.mono t r) h
theorem pd_at_left {α β : Type} {R : α → β → Prop} : ∀ {xs : List α} {ys : List β} {i : Nat} {x : α}, Paired R xs ys → xs[i]? = some x → ∃ y, ys[i]? = some y ∧ R x y
  | _, _, _, _, .nil, e => by simp at e
  | _, _, 0, x, .cons r _, e => ⟨_, rfl, by have e' := Option.some.inj e; rw [← e']; exact r⟩
  | _, _, i + 1, x, .cons _ t, e => by
    obtain ⟨y, e2, r⟩ := pd_at_left (i := i) t (by simpa using e)
    exact ⟨y, by simpa using e2, r⟩
theorem pd_at_right {α β : Type} {R : α → β → Prop} : ∀ {xs : List α} {ys : List β} {i : Nat} {y : β}, Paired R xs ys → ys[i]? = some y → ∃ x, xs[i]? = some x ∧ R x y
  | _, _, _, _, .nil, e => by simp at e
  | _, _, 0, x, .cons r _, e => ⟨_, rfl, by have e' := Option.some.inj e; rw [← e']; exact r⟩
  | _, _, i + 1, x, .cons _ t, e => by
    obtain ⟨y, e2, r⟩ := pd_at_right (i := i) t (by simpa using e)
    exact ⟨y, by simpa using e2, r⟩
/-! ### as data, for == -/
def kdD : Kd → PyData
  | .leaf n => .int n
  | .pair a b => .tuple [kdD a, kdD b]
theorem KdV.dp {K : PySem.W.Frag} {H : Hp} : ∀ {k : Kd} {v : V}, KdV H v k → Dp K H v (kdD k)
  | .leaf n, v, h => by rw [h.1]; exact .int n
  | .pair a b, v, h => by
    obtain ⟨p, x, y, rfl, ep, ha, hb⟩ := h
    exact .tup (SqT.h ep) (.cons ha.dp (.cons hb.dp .nil))
theorem kdD_lay : ∀ k : Kd, (kdD k).canLay0 = true
  | .leaf n => by simp [kdD, PyData.canLay0]
  | .pair a b => by simp [kdD, PyData.canLay0, PyData.canLayAll0, kdD_lay a, kdD_lay b]
theorem kdD_depth : ∀ k : Kd, (kdD k).depth = k.depth
  | .leaf n => by simp [kdD, PyData.depth, Kd.depth]
  | .pair a b => by
    simp only [kdD, PyData.depth, PyData.depthAll, Kd.depth, kdD_depth a, kdD_depth b]
    omega
theorem kd_shaped {k : Kd} (h : k.depth ≤ 64) : SeqAt.shaped (kdD k) = true := by
  unfold SeqAt.shaped
  rw [kdD_lay, kdD_depth]
  simp [h]
theorem kdD_eqv : ∀ a b : Kd, PyData.eqv (kdD a) (kdD b) = decide (a = b)
  | .leaf n, .leaf m => by
    simp only [kdD, PyData.eqv, Kd.leaf.injEq]
    exact (Bool.beq_eq_decide_eq n m)
  | .leaf n, .pair a b => by simp [kdD, PyData.eqv]
  | .pair a b, .leaf n => by simp [kdD, PyData.eqv]
  | .pair a b, .pair c d => by
    simp only [kdD, PyData.eqv, PyData.eqvAll, kdD_eqv a c, kdD_eqv b d, Kd.pair.injEq, Bool.and_true, Bool.decide_and]
def wdD : W → PyData
  | .use => .str "@"
  | .name s => .str s
  | .take s k => .tuple [.str s, kdD k]
theorem WdV.dp {K : PySem.W.Frag} {H : Hp} : ∀ {w : W} {v : V}, WdV H v w → Dp K H v (wdD w)
  | .use, v, h => by rw [show v = .str "@" from h]; exact .str _
  | .name s, v, h => by rw [h.1]; exact .str _
  | .take s k, v, h => by
    obtain ⟨p, x, rfl, ep, _, hk, _⟩ := h
    exact .tup (SqT.h ep) (.cons (.str s) (.cons hk.dp .nil))
theorem nameOk_strOk {s : Str} (h : nameOk s = true) : PyData.strOk s = true := by
  unfold nameOk at h
  simp only [Bool.and_eq_true, decide_eq_true_eq, List.all_eq_true] at h
  unfold PyData.strOk
  rw [Array.all_eq_true']
  intro c hc
  have := h.2 c (by simpa using hc)
  simp only [decide_eq_true_eq]
  omega
theorem use_strOk : PyData.strOk "@" = true := by decide +kernel
theorem name_ne_use {s : Str} (h : nameOk s = true) : s ≠ ("@" : Str) := fun e => by
  subst e
  exact absurd h (by decide +kernel)
theorem str_shaped {s : Str} (h : PyData.strOk s = true) : SeqAt.shaped (.str s) = true := by
  unfold SeqAt.shaped
  simp [PyData.canLay0, h, PyData.depth]
theorem WdV.shaped {H : Hp} : ∀ {w : W} {v : V}, WdV H v w → SeqAt.shaped (wdD w) = true
  | .use, v, h => str_shaped use_strOk
  | .name s, v, h => str_shaped (nameOk_strOk h.2)
  | .take s k, v, h => by
    obtain ⟨p, x, rfl, ep, hn, hk, hd⟩ := h
    unfold SeqAt.shaped
    have e := kdD_depth k
    simp only [wdD, PyData.canLay0, PyData.canLayAll0, nameOk_strOk hn, kdD_lay, PyData.depth, PyData.depthAll, e, Bool.true_and, Bool.and_true, decide_eq_true_eq]
    omega
def isUse : W → Bool
  | .use => true
  | _ => false
theorem WdV.eqv_use {H : Hp} : ∀ {w : W} {v : V}, WdV H v w → PyData.eqv (wdD w) (.str "@") = isUse w
  | .use, v, h => by simp [wdD, PyData.eqv, isUse]
  | .name s, v, h => by
    simp only [wdD, PyData.eqv, isUse]
    have := name_ne_use h.2
    simpa using this
  | .take s k, v, h => by simp [wdD, PyData.eqv, isUse]
end K8
namespace K8
open PySem PySem.Spec PyProof.Rows L2
section
variable {P : Program} {w : World} {K : PySem.W.Frag} {mg : Str → Option Value} {base : Heap} {f : Addr} {fd : FuncData}
/-! ### isinstance -/
theorem isi_int_int {K : PySem.W.Frag} : PySem.W.kitOne K (.type "int") (.type "int") = some true := kit_ty (by decide +kernel)
theorem isi_int_bool {K : PySem.W.Frag} : PySem.W.kitOne K (.type "int") (.type "bool") = some false := kit_ty (by decide +kernel)
theorem isi_int_tuple {K : PySem.W.Frag} : PySem.W.kitOne K (.type "int") (.type "tuple") = some false := kit_ty (by decide +kernel)
theorem isi_str_tuple {K : PySem.W.Frag} : PySem.W.kitOne K (.type "str") (.type "tuple") = some false := kit_ty (by decide +kernel)
theorem isi_str_str {K : PySem.W.Frag} : PySem.W.kitOne K (.type "str") (.type "str") = some true := kit_ty (by decide +kernel)
theorem isi_tuple_str {K : PySem.W.Frag} : PySem.W.kitOne K (.type "tuple") (.type "str") = some false := kit_ty (by decide +kernel)
theorem isi_tuple_tuple {K : PySem.W.Frag} : PySem.W.kitOne K (.type "tuple") (.type "tuple") = some true := kit_ty (by decide +kernel)
theorem isi_bool_bool {K : PySem.W.Frag} : PySem.W.kitOne K (.type "bool") (.type "bool") = some true := kit_ty (by decide +kernel)
/-! ### is_integer -/
abbrev s_is_integer : Stmt := topS 10
abbrev Nis_integer : List Str := ["thing"]
theorem sc_is_integer : FnScope Nis_integer ["thing"] (defScope s_is_integer) := ⟨rfl, rfl, rfl, by decide +kernel, rfl, by decide +kernel, by decide +kernel⟩
def sp_is_integer : Sp := fun vs H Q _ => ∃ i, vs = [.int i] ∧ Q (.bl true) H
theorem ok_is_integer (T : Txt mg) (F : Fun K "is_integer" "is_integer" s_is_integer f fd) : FnOk P w K mg base CX0 1 f fd ["thing"] sp_is_integer := by
  have nd := sc_is_integer.nd
  refine F.ok sc_is_integer (fun vs H Q Ex h => ?_) (fun cdv A outer s H vs Q Ex hr h => ?_)
  · obtain ⟨i, rfl, _⟩ := h
    rfl
  · obtain ⟨i, rfl, q⟩ := h
    refine ⟨_, pss_one (ps_ret (pe_and (pe_callB call_isi (by rfl) T.isinstance (by decide +kernel) (pa_cons (pv 0) (pa_cons (pe_ty (Ty := "int") T.int (by decide +kernel)) pa_nil))) (pe_one (pe_not (pe_callB call_isi (by rfl) T.isinstance (by decide +kernel) (pa_cons (pv 0) (pa_cons (pe_ty (Ty := "bool") T.bool (by decide +kernel)) pa_nil))))))), ?_⟩
    refine ⟨_, rfl, _, _, _, _, true, rfl, .ty _, .base (.int i), isi_int_int, true, rfl, iteT ?_⟩
    exact ⟨_, rfl, _, _, _, _, false, rfl, .ty _, .base (.int i), isi_int_bool, false, rfl, q⟩
/-! ### is_within -/
abbrev s_is_within : Stmt := topS 11
abbrev Nis_within : List Str := ["thing", "least", "most"]
theorem sc_is_within : FnScope Nis_within ["thing", "least", "most"] (defScope s_is_within) := ⟨rfl, rfl, rfl, by decide +kernel, rfl, by decide +kernel, by decide +kernel⟩
def sp_is_within : Sp := fun vs H Q _ => ∃ i a b : Int, vs = [.int i, .int a, .int b] ∧ a ≤ i ∧ i ≤ b ∧ Q (.bl true) H
theorem ok_is_within (c_is_integer : Cl P w K mg base "is_integer" 1 ["thing"] sp_is_integer) (F : Fun K "is_within" "is_within" s_is_within f fd) : FnOk P w K mg base CX0 2 f fd ["thing", "least", "most"] sp_is_within := by
  have nd := sc_is_within.nd
  refine F.ok sc_is_within (fun vs H Q Ex h => ?_) (fun cdv A outer s H vs Q Ex hr h => ?_)
  · obtain ⟨i, a, b, rfl, _⟩ := h
    rfl
  · obtain ⟨i, a, b, rfl, h1, h2, q⟩ := h
    refine ⟨_, pss_one (ps_ret (pe_and (pe_cl c_is_integer hr (by omega) (pa_cons (pv 0) pa_nil)) (pe_one (pe_chain op_le op_le (pv 1) (pv 0) (pv 2))))), ?_⟩
    refine ⟨_, rfl, i, rfl, true, rfl, iteT ?_⟩
    refine ⟨_, rfl, _, rfl, _, _, rfl, rfl, true, eT h1, iteT ?_⟩
    exact ⟨_, rfl, _, _, rfl, rfl, blT (Q := Q) (decide_eq_true h2) q⟩
/-! ### is_pair -/
abbrev s_is_pair : Stmt := topS 12
abbrev Nis_pair : List Str := ["thing"]
theorem sc_is_pair : FnScope Nis_pair ["thing"] (defScope s_is_pair) := ⟨rfl, rfl, rfl, by decide +kernel, rfl, by decide +kernel, by decide +kernel⟩
def sp_is_pair : Sp := fun vs H Q _ => ∃ x, vs = [x] ∧ (((∃ i, x = .int i) ∨ (∃ s, x = .str s)) ∧ Q (.bl false) H ∨ ∃ p a b, x = .ref p ∧ H p = some (.tup [a, b]) ∧ Q (.bl true) H)
theorem ok_is_pair (T : Txt mg) (F : Fun K "is_pair" "is_pair" s_is_pair f fd) : FnOk P w K mg base CX0 1 f fd ["thing"] sp_is_pair := by
  have nd := sc_is_pair.nd
  refine F.ok sc_is_pair (fun vs H Q Ex h => ?_) (fun cdv A outer s H vs Q Ex hr h => ?_)
  · obtain ⟨x, rfl, _⟩ := h
    rfl
  · obtain ⟨x, rfl, h⟩ := h
    refine ⟨_, pss_one (ps_ret (pe_and (pe_callB call_isi (by rfl) T.isinstance (by decide +kernel) (pa_cons (pv 0) (pa_cons (pe_ty (Ty := "tuple") T.tuple (by decide +kernel)) pa_nil))) (pe_one (pe_cmpR op_eq (pe_callB call_len_seq (by rfl) T.len (by decide +kernel) (pa_cons (pv 0) pa_nil)) pe_int (nomark _))))), ?_⟩
    rcases h with ⟨⟨i, rfl⟩ | ⟨s, rfl⟩, q⟩ | ⟨p, a, b, rfl, hp, q⟩
    · exact ⟨_, rfl, _, _, _, _, false, rfl, .ty _, .base (.int i), isi_int_tuple, false, rfl, iteF q⟩
    · exact ⟨_, rfl, _, _, _, _, false, rfl, .ty _, .base (.str s), isi_str_tuple, false, rfl, iteF q⟩
    · refine ⟨_, rfl, _, _, _, _, true, rfl, .ty _, .base (.tup hp), isi_tuple_tuple, true, rfl, iteT ?_⟩
      exact ⟨_, rfl, p, _, rfl, .inr (SqT.h hp), rfl, q⟩
/-! ### is_name -/
abbrev s_is_name : Stmt := topS 13
abbrev Nis_name : List Str := ["thing", "sign"]
theorem sc_is_name : FnScope Nis_name ["thing"] (defScope s_is_name) := ⟨rfl, rfl, rfl, by decide +kernel, rfl, by decide +kernel, by decide +kernel⟩
def sp_is_name : Sp := fun vs H Q _ => ∃ s, vs = [.str s] ∧ nameOk s = true ∧ ∀ H', Same H H' → Q (.bl true) H'
theorem small_has {c : Nat} (h1 : 97 ≤ c) (h2 : c ≤ 122) : c ∈ (("abcdefghijklmnopqrstuvwxyz" : Str)).cps.toList := by
  have e : (("abcdefghijklmnopqrstuvwxyz" : Str)).cps.toList = [97, 98, 99, 100, 101, 102, 103, 104, 105, 106, 107, 108, 109, 110, 111, 112, 113, 114, 115, 116, 117, 118, 119, 120, 121, 122] := by decide +kernel
  rw [e]
  simp only [List.mem_cons, List.not_mem_nil, or_false]
  omega
theorem nameOk_at {s : Str} (h : nameOk s = true) {i c : Nat} (e : s.cps[i]? = some c) : 97 ≤ c ∧ c ≤ 122 := by
  unfold nameOk at h
  simp only [Bool.and_eq_true, decide_eq_true_eq, List.all_eq_true] at h
  have m : c ∈ s.cps.toList := by
    have e2 : s.cps.toList[i]? = some c := by simpa using e
    exact List.mem_of_getElem? e2
  exact h.2 c m
theorem nameOk_len {s : Str} (h : nameOk s = true) : 1 ≤ s.cps.size ∧ s.cps.size ≤ 8 := by
  unfold nameOk at h
  simp only [Bool.and_eq_true, decide_eq_true_eq] at h
  exact h.1
theorem rep_all (n : Nat) : (List.replicate n true).all id = true := by
  rw [List.all_eq_true]
  intro x hx
  exact (List.eq_of_mem_replicate hx)
theorem ok_is_name (T : Txt mg) (F : Fun K "is_name" "is_name" s_is_name f fd) : FnOk P w K mg base CX0 1 f fd ["thing"] sp_is_name := by
  have nd := sc_is_name.nd
  refine F.ok sc_is_name (fun vs H Q Ex h => ?_) (fun cdv A outer s H vs Q Ex hr h => ?_)
  · obtain ⟨x, rfl, _⟩ := h
    rfl
  · obtain ⟨z, rfl, hn, q⟩ := h
    refine ⟨_, pss_one (ps_ret (pe_and (pe_callB call_isi (by rfl) T.isinstance (by decide +kernel) (pa_cons (pv 0) (pa_cons (pe_ty (Ty := "str") T.str (by decide +kernel)) pa_nil))) (pe_and (pe_chain op_le op_le pe_int (pe_callB call_len_str (by rfl) T.len (by decide +kernel) (pa_cons (pv 0) pa_nil)) (pe_gi T.cMOST_SIGNS)) (pe_one (pe_callB (cr_all rfl) (by rfl) T.all (by decide +kernel) (pa_cons (pe_lc (own := [("sign", 1)]) (g := gName 1) rfl nd (pi_str (pv 0)) (blkOk_by (own := [("sign", 1)]) (N := Nis_name) (sc := defScope s_is_name) (by decide +kernel)) (fun _ _ _ _ _ => (pg_name (i := 1) nd rfl (Or.inl rfl))) (fun _ _ _ _ _ => pts_nil) (fun _ _ _ _ _ => (pe_cmpR op_in_sign (pv 1) (pe_gs T.cSMALL) rfl))) pa_nil)))))), ?_⟩
    obtain ⟨l1, l2⟩ := nameOk_len hn
    refine ⟨_, rfl, _, _, _, _, true, rfl, .ty _, .base (.str z), isi_str_str, true, rfl, iteT ?_⟩
    refine ⟨_, rfl, z, rfl, ?_, _, _, rfl, rfl, true, ?_, iteT ?_⟩
    · show z.cps.size ≤ sizeLine
      exact Nat.le_trans l2 (by decide)
    · exact eT (show (1 : Int) ≤ ((z.cps.size : Nat) : Int) by omega)
    refine ⟨_, _, rfl, rfl, ?_⟩
    refine ⟨true, ?_, iteT ?_⟩
    · exact eT (show ((z.cps.size : Nat) : Int) ≤ 8 by omega)
    -- the comprehension
    refine ⟨_, rfl, z, rfl, fun D nD => ?_⟩
    refine lc_it (walk_str (z := z)) (fun i H' => Same H H' ∧ H' D = some (.lst ((List.replicate i true).map V.bl))) ⟨same_new _ nD, upd_same⟩ (fun _ _ _ _ => trivial) ?_ ?_
    · rintro i x H1 H2 hi ⟨sm, eD⟩ ⟨rfl, c, hc, rfl⟩
      obtain ⟨c1, c2⟩ := nameOk_at hn hc
      refine ⟨rfl, _, rfl, c, _, rfl, rfl, _, eD, ?_, sm.mut nD (fun b hb => upd_ne hb), ?_⟩
      · rw [List.length_map, List.length_replicate]
        exact small1000 (by omega)
      · rw [upd_same, decide_eq_true (small_has c1 c2), List.replicate_succ', List.map_append]
        rfl
    · rintro H2 ⟨sm, eD⟩
      refine ⟨D, _, rfl, SqL.h eD, ?_⟩
      rw [rep_all]
      exact q _ sm
end
end K8
/-! KR1: rules that the layer lacks: list.extend(tuple), tuple[::-1], enumerate(tuple), dict(tuple of pairs), list(text) -/
namespace PySem.AutoSeq1
theorem k8_extend_tuple (l : Addr) (items : Array Value) (n : Nat) (b : Addr) (items2 : Array Value) (n2 : Nat) (dd : Option Addr) (sl : Array (Option Value)) (hs0 : ¬(!items.isEmpty && Builtin.List.listTooLong (items.size + items2.size)) = true) (hs1 : items.size ≤ sizeLine) (hs2 : items.size + items2.size ≤ sizeLine + 1 := by seq_fits) :
    Meets (Builtin.«list.extend» ⟨[.ref l, .ref b], []⟩) (fun _ R s => s.heap.get? l = some { cls := .type "list", dict := none, data := .seq items n, slots := #[] } ∧ s.heap.get? b = some { cls := .type "tuple", dict := dd, data := .seq items2 n2, slots := sl } ∧ R (.ok (.ret Value.none)) { s with heap := s.heap.update l (Obj.mapSeq fun x => x ++ items2), toks := s.toks }) :=
  .of_wp fun prog w A R s h => by
    obtain ⟨hp, g, d, tk, os⟩ := s; obtain ⟨hl, hb, h⟩ := h; have f1 := idx_int; have f2 := sub_tuple_tuple; have f3 := sub_list_list; have f4 := sub_tuple_list; have f5 := sub_list_tuple;
    have hz' : (items ++ items2).size ≤ sizeLine + 1 := by rw [Array.size_append]; exact hs2
    wp_walk using (wpAny_updateSeq hl rfl (hz := hs1) (_hz' := hz')), wpAny_loadPart' hl, wpAny_loadPart' hb; exact ⟨_, rfl, h⟩
end PySem.AutoSeq1
namespace K8
open PySem PySem.Spec PyProof.Rows L2
section
variable {X : Cx}
def rExtendT (K : PySem.W.Frag) : V → List V → Hp → VK → Prop := fun x vs H Q => ∃ l b xs zs, x = .ref l ∧ vs = [.ref b] ∧ H l = some (.lst xs) ∧ SqT K H b zs ∧ xs.length + zs.length ≤ sizeLine ∧ Q .non (upd H l (.lst (xs ++ zs)))
theorem mt_extendT : MtM X "list.extend" (rExtendT X.K) := by
  intro pins s σ H x vs v us Q I rx rv h
  obtain ⟨l, b, xs, zs, rfl, rfl, hH, hB, hz, q⟩ := h
  cases rx
  obtain ⟨u, rfl, ru⟩ := rv.one
  cases ru
  obtain ⟨z, its, n, r, hl, e⟩ := I.lstM hH
  obtain ⟨its2, r2, ⟨ob, e2, hc, n2, hd⟩, hl2⟩ := I.tuple hB
  obtain ⟨oc, od, dt, sl⟩ := ob
  simp only at hc hd
  subst hc hd
  have hlen2 := r2.length
  have hlen := r.length
  have hsz : its.toArray.size + its2.toArray.size ≤ sizeLine := by rw [List.size_toArray, List.size_toArray]; omega
  have hlong : ¬ (!its.toArray.isEmpty && Builtin.List.listTooLong (its.toArray.size + its2.toArray.size)) = true := by
    rw [notLongL hsz, Bool.and_false]
    exact Bool.false_ne_true
  refine call_meets F.slot_list_extend ⟨_, e, rfl⟩ F.entry_list_extend (F.args_list_extend_2 _ _)
    (AutoSeq1.k8_extend_tuple l its.toArray n b its2.toArray n2 od sl hlong (by rw [List.size_toArray]; omega) (by omega)) ⟨e, e2, ?_⟩
  refine ⟨.non, _, I.lset (its' := its ++ its2) hH e (by simp) (r.append r2) ?_, rfl, q⟩
  rw [List.length_append]
  omega
end
/-! ### t[::-1] -/
theorem k8_rev_places (n : Nat) : Builtin.Slice.slicePlaces ((n : Int) - 1) (-1) (-1) = n := by
  unfold Builtin.Slice.slicePlaces
  have h1 : ¬ ((-1 : Int) > 0) := by decide
  simp only [h1, if_false]
  split
  · have e : ((n : Int) - 1 - -1 - 1) / (- -1) = (n : Int) - 1 := by
      rw [show (- -1 : Int) = 1 by decide, Int.ediv_one]
      omega
    rw [e]
    omega
  · omega
section
variable {prog : Program} {w : World} {A : Around} {E : Value → Shared → Prop} {s : Shared}
theorem k8_sliceApplied_rev {sl : Addr} {vl vu vs : Value} {n : Nat} {Q : Int × Int × Nat → Shared → Prop} (hs : s.heap.IsSliceOf sl vl vu vs) (pl : IsPart vl none) (pu : IsPart vu none) (ps : IsPart vs (some (-1)))
    (h : Q ((n : Int) - 1, -1, n) s) : wpAny (model prog w) A (Builtin.Slice.sliceApplied (.ref sl) (pure (n : Int))) Q E s := by
  obtain ⟨os, hos, hcs, hds⟩ := id hs
  unfold Builtin.Slice.sliceApplied Builtin.Slice.sliceFields
  refine wpAny_bind (wpAny_bind (wpAny_field hos hds (x := vl) rfl (wpAny_bind (wpAny_field hos hds (x := vu) rfl (wpAny_bind (wpAny_field hos hds (x := vs) rfl (wpAny_pure ?_)))))))
  refine wpAny_bind (HT.slicePart_ ps ?_)
  show wpAny _ _ (if ((-1 : Int) == 0) = true then _ else _) _ _ s
  rw [if_neg (by decide)]
  refine wpAny_bind (HT.slicePart_ pl (wpAny_bind (HT.slicePart_ pu (wpAny_bind (wpAny_pure ?_)))))
  show wpAny _ _ (pure ((n : Int) - 1, (-1 : Int), Builtin.Slice.slicePlaces ((n : Int) - 1) (-1) (-1))) _ _ s
  rw [k8_rev_places]
  exact wpAny_pure h
theorem fm_congr {α β : Type} {f g : α → Option β} : ∀ {l : List α}, (∀ x ∈ l, f x = g x) → l.filterMap f = l.filterMap g
  | [], _ => rfl
  | a :: r, h => by
    rw [List.filterMap_cons, List.filterMap_cons, h a List.mem_cons_self, fm_congr fun x hx => h x (List.mem_cons_of_mem _ hx)]
theorem k8_pick_rev (xs : Array Value) : ((List.range xs.size).filterMap fun (k : Nat) => xs[((xs.size : Int) - 1 + (k : Int) * (-1)).toNat]?).toArray = xs.toList.reverse.toArray := by
  have e : (List.range xs.size).filterMap (fun (k : Nat) => xs[((xs.size : Int) - 1 + (k : Int) * (-1)).toNat]?) = ((List.range xs.size).map fun k => xs.size - 1 - k).filterMap (xs[·]?) := by
    rw [List.filterMap_map]
    apply fm_congr
    intro k hk
    have hk' := List.mem_range.mp hk
    have : ((xs.size : Int) - 1 + (k : Int) * (-1)).toNat = xs.size - 1 - k := by omega
    rw [this]
    rfl
  rw [e, PySem.W.krv_range, List.filterMap_reverse, PySem.W.krv_all]
theorem k8_getItem_tuple_rev {t sl : Addr} {items : Array Value} {vl vu vs : Value} {Q : Value → Shared → Prop} (ht : IsTup s.heap t items) (hs : s.heap.IsSliceOf sl vl vu vs) (pl : IsPart vl none) (pu : IsPart vu none) (ps : IsPart vs (some (-1)))
    (h : Q (.ref s.heap.objs.size) { s with heap := s.heap.push { cls := .type "tuple", data := .seq items.toList.reverse.toArray } })
    (hsz : items.size ≤ sizeLine) : wpAny (model prog w) A (getItem (.ref t) (.ref sl)) Q E s := by
  have htake : sizeOk (.seq items.toList.reverse.toArray) := by
    show items.toList.reverse.toArray.size ≤ sizeLine
    rw [List.size_toArray, List.length_reverse, Array.length_toList]
    exact hsz
  obtain ⟨os, hos, hcs, hds⟩ := id hs
  have hTs : s.TypeIs (.ref sl) "slice" := ⟨os, hos, hcs⟩
  unfold getItem
  try with_reducible refine wpAny_holding ?_
  first | refine wpAny_bind (wpAny_pure ?_) | skip
  refine wpAny_bind (wpAny_sequenceKey ht.typeIs (by decide) ?_)
  refine wpAny_bind (wpAny_callSpecial?_slot (name := Str.ofString "__getitem__") ht.typeIs PyProof.Rows.slot_tuple_getitem
    (wpAny_call_entry PyProof.Rows.slot_tuple_getitem ht.typeIs entry_tuple_getitem ?_ (args_tuple_getitem _ _)))
  show wpAny _ _ (Builtin.Tuple.tupleItemsOf (.ref t) >>= _) _ _ s
  refine wpAny_bind (tupleItemsOf_ ht ?_)
  refine wpAny_bind (wpAny_typeOf hTs ?_)
  rw [if_pos (by decide)]
  refine wpAny_bind (k8_sliceApplied_rev hs pl pu ps ?_)
  have hno : ¬ ((((items.size : Int) - 1) == 0 && (-1 : Int) == 1 && items.size == items.size) = true) := by
    rw [show ((-1 : Int) == 1) = false by decide, Bool.and_false, Bool.false_and]
    exact Bool.false_ne_true
  show wpAny _ _ (if (((items.size : Int) - 1) == 0 && (-1 : Int) == 1 && items.size == items.size) = true then _ else _) _ _ s
  rw [if_neg hno, k8_pick_rev]
  first
    | exact wpAny_bind (m := Builtin.Tuple.tupleExact _) (wpAny_newObj_type (wpAny_pure ⟨_, rfl, wpAny_pure h⟩) htake)
    | exact wpAny_bind (m := Builtin.Tuple.tupleExact _) (wpAny_newObj_type (wpAny_bind (wpAny_pure (wpAny_pure ⟨_, rfl, wpAny_pure h⟩))) htake)
    | exact wpAny_bind (wpAny_bind (m := Builtin.Tuple.tupleExact _) (wpAny_newObj_type (wpAny_pure (wpAny_pure ⟨_, rfl, wpAny_pure h⟩)) htake))
    | exact wpAny_bind (wpAny_bind (m := Builtin.Tuple.tupleExact _) (wpAny_newObj_type (wpAny_pure ⟨_, rfl, wpAny_pure h⟩) htake))
end
section
variable {X : Cx}
def tRevT (K : PySem.W.Frag) (te : TE) : TE := fun σ H Q => te σ H fun x H1 => ∃ a xs, x = .ref a ∧ SqT K H1 a xs ∧ ∀ p, H1 p = none → Q (.ref p) (upd H1 p (.tup xs.reverse))
theorem pe_rev_T {e : Expr} {te : TE} {k : Nat} {p1 p2 p3 pos : Pos} (he : PE X e te) : PE X (.Subscript e (.Slice none none (some (.UnaryOp .USub (.Constant (.int 1) k p1) p2)) p3) pos) (tRevT X.K te) := by
  refine ⟨fun pins s σ H Q I h => ?_⟩
  refine Subscript_ (thn (he.run pins s σ H _ I h) fun v s1 ⟨x, H1, I1, r1, q1⟩ => ?_)
  obtain ⟨a, xs, ex, hx, q⟩ := q1
  subst ex
  cases r1
  have hst : PO X (some (.UnaryOp .USub (.Constant (.int 1) k p1) p2)) (tPart (tUn (rU fun i => .int (-i)) (tC (.int 1)))) := po_some (pe_un un_neg pe_int)
  refine wpAny_Slice (thn (po_none.run pins s1 σ H1 (fun o H2 => o = none ∧ H2 = H1) I1 ⟨rfl, rfl⟩) fun vl s2 ⟨l, H2, I2, pl, el, e2⟩ => ?_)
  subst el e2
  refine thn (po_none.run pins s2 σ H2 (fun o H3 => o = none ∧ H3 = H2) I2 ⟨rfl, rfl⟩) fun vu s3 ⟨u, H3, I3, pu, eu, e3⟩ => ?_
  subst eu e3
  refine thn (hst.run pins s3 σ H3 (fun o H4 => o = some (-1) ∧ H4 = H3) I3 ⟨1, rfl, -1, rfl, rfl, rfl⟩) fun vs s4 ⟨o, H4, I4, ps, eo, e4⟩ => ?_
  subst eo e4
  have I5 : Inv X pins σ H4 { s4 with heap := s4.heap.push { cls := .type "slice", data := .fields #[vl, vu, vs] } } := I4.kept (t' := s4.toks) fun b ob q => Heap.get?_push_of_some _ q
  obtain ⟨its, r, ht, hz⟩ := I5.tuple hx
  have hlen := r.length
  show wpAny (model X.prog X.w) X.A (subscriptTail e (.Slice none none (some (.UnaryOp .USub (.Constant (.int 1) k p1) p2)) p3) (.ref a) (.ref s4.heap.objs.size)) (EP X pins σ Q) X.xe { s4 with heap := s4.heap.push { cls := .type "slice", data := .fields #[vl, vu, vs] } }
  refine tail_any (ops := [.ref a, .ref s4.heap.objs.size]) ht.typeIs (PyProof.Rows.slot_tuple_getitem.lookup) ?_ (by with_unfolding_all rfl)
  refine k8_getItem_tuple_rev ht (Heap.IsSliceOf.new _ vl vu vs) pl pu ps ?_ (by rw [List.size_toArray]; omega)
  refine ⟨.ref _, _, I5.laid (t' := s4.toks) (o := .tup xs.reverse) (fun b ob q => Heap.get?_push_of_some _ q) (Nat.le_refl _) ?_, rfl, q _ (I5.hok.fresh (Nat.le_refl _))⟩
  exact ⟨by rw [List.length_reverse]; exact hz, _, r.reverse, IsTup.new _ _⟩
end
/-! ### enumerate(tuple) -/
set_option maxHeartbeats 1000000 in
theorem k8_enum_newT (l : Addr) (items : Array Value) :
    Meets (Builtin.«enumerate.__new__» ⟨[.type "enumerate", .ref l], []⟩) (fun _ R s => s.heap.IsTuple l items ∧
      R (.ok (.ret (.ref (s.heap.push { cls := .type "tuple_iterator", data := .fields #[.ref l, .int 0 0] }).objs.size)))
        { s with heap := (s.heap.push { cls := .type "tuple_iterator", data := .fields #[.ref l, .int 0 0] }).push { cls := .type "enumerate", data := .fields #[.none, .bool false, .ref s.heap.objs.size, rawInt 0, .none, .none] } }) :=
  .of_wp fun prog w A R s h => by
    obtain ⟨hp, g, d, tk, os⟩ := s; obtain ⟨h1, h⟩ := h
    have hsub := sub_enumerate
    have q1 : ∀ {A' : Around} {E : Value → Shared → Prop} {Q : Value → Shared → Prop}, Q (.ref hp.objs.size) ⟨hp.push { cls := .type "tuple_iterator", data := .fields #[.ref l, .int 0 0] }, g, d, tk, os⟩ → wpAny (model prog w) A' (pyIter (.ref l)) Q E ⟨hp, g, d, tk, os⟩ :=
      fun q => (begins_tuple l items).iter prog w _ _ ⟨hp, g, d, tk, os⟩ _ h1 q
    wp_walk using q1
    refine wpAny_stack_any fun st => wpAny_pure ?_
    split
    · rename_i c _ _ _ _ _
      cases (c == Value.type "enumerate")
      · wp_walk using q1
        exact ⟨_, rfl, h⟩
      · wp_walk using q1
        exact ⟨_, rfl, h⟩
    · wp_walk using q1
      exact ⟨_, rfl, h⟩
section
variable {prog : Program} {w : World} {A : Around} {E : Value → Shared → Prop} {s : Shared}
theorem k8_call_enumT {l : Addr} {items : Array Value} {Q : Value → Shared → Prop} (hL : s.heap.IsTuple l items)
    (h : ∀ h', IsEnum h' (s.heap.objs.size + 1) s.heap.objs.size 0 .none → h'.IsTupleIter s.heap.objs.size l 0 → h'.objs.size = s.heap.objs.size + 2 →
      (∀ b o, s.heap.get? b = some o → h'.get? b = some o) → Q (.ref (s.heap.objs.size + 1)) { s with heap := h' }) :
    wpAny (model prog w) A (call (.type "enumerate") [.ref l]) Q E s := by
  refine callType_new F.called_enumerate (by decide) (F.typeCall_enumerate_1 _) (F.newCall_enumerate_1 _) (fun obj => F.args_object_init_2 obj _) F.entry_enumerate_new
    (k8_enum_newT l items) ⟨hL, ?_⟩
  have hz : (s.heap.push { cls := .type "tuple_iterator", data := .fields #[.ref l, .int 0 0] }).objs.size = s.heap.objs.size + 1 := Heap.size_push ..
  show _ ∧ _
  rw [hz]
  have he : IsEnum ((s.heap.push { cls := .type "tuple_iterator", data := .fields #[.ref l, .int 0 0] }).push
      { cls := .type "enumerate", data := .fields #[.none, .bool false, .ref s.heap.objs.size, rawInt 0, .none, .none] }) (s.heap.objs.size + 1) s.heap.objs.size 0 .none := by
    have := Heap.get?_push_size (s.heap.push { cls := .type "tuple_iterator", data := .fields #[.ref l, .int 0 0] })
      (o := { cls := .type "enumerate", data := .fields #[.none, .bool false, .ref s.heap.objs.size, rawInt 0, .none, .none] }) rfl
    rw [hz] at this; exact this
  refine ⟨⟨_, he, rfl⟩, h _ he ⟨_, Heap.get?_push_of_some _ (Heap.get?_push_size _ rfl), rfl, rfl⟩ (by rw [Heap.size_push, hz]) fun b o x => Heap.get?_push_of_some _ (Heap.get?_push_of_some _ x)⟩
end
/-- the tuple at a, each item in a new pair -/
def ItT (K : PySem.W.Frag) (a : Addr) : It :=
  ⟨fun i H => ∃ (xs : List V) (x : V), SqT K H a xs ∧ xs[i]? = some x, fun i H v H' => ∃ T x, v = .ref T ∧ H T = none ∧ H' = upd H T (.tup [.int (i : Nat), x]) ∧ ∀ xs, SqT K H a xs → xs[i]? = some x, fun i H => ∃ xs : List V, SqT K H a xs ∧ xs.length = i⟩
theorem tup_ne_iter {h : Heap} {a it : Addr} {i : Nat} {its : Array Value} (ht : h.IsTuple a its) (hi : h.IsTupleIter it a i) : a ≠ it := fun e => by
  obtain ⟨o, ho, hc, _⟩ := ht
  obtain ⟨o2, ho2, hc2, _⟩ := hi
  rw [e, ho2] at ho
  cases ho
  rw [hc2] at hc
  exact absurd hc (by decide)
theorem turn_enumT {P : Program} {w : World} {K : PySem.W.Frag} {elts : List Expr} {kk : Nat} {tpos : Pos} (a e it : Addr) :
    Turn P w K (.Tuple elts kk tpos) (ItT K a) [e, it] e (fun i h => (∃ old, IsEnum h e it ((i : Nat) : Int) old) ∧ h.IsTupleIter it a i ∧ e ≠ it) where
  mem := by simp
  obj := fun i h st b hb => by
    obtain ⟨⟨old, he⟩, ⟨o, ho, hc, hd⟩, _⟩ := st
    have e' : b = e ∨ b = it := by simpa using hb
    rcases e' with z | z
    · rw [z]; exact ⟨_, he, fun v q => nomatch q⟩
    · rw [z]; exact ⟨o, ho, fun v q => by rw [hd] at q; cases q⟩
  keep := fun i h h' st k => let ⟨⟨old, he⟩, hi, hne⟩ := st; ⟨⟨old, k e (by simp) _ he⟩, hi.at fun o q => k it (by simp) o q, hne⟩
  item := by
    intro X hP hw hK hc i pins s σ H E I hf st hg
    subst hP hw hK
    obtain ⟨⟨old, he⟩, hit, hne⟩ := st
    obtain ⟨xs, x, hq, hx⟩ := hg
    obtain ⟨its, rv, p, hz⟩ := I.tuple hq
    obtain ⟨u, hu, ru⟩ := rv.get hx
    have hel : e < s.heap.objs.size := Heap.lt_size he
    have hil : it < s.heap.objs.size := by obtain ⟨_, q, _⟩ := hit; exact Heap.lt_size q
    have hT : s.heap.IsTuple a its.toArray := p
    have hai : a ≠ it := tup_ne_iter hT hit
    have hlt : i < its.toArray.size := by rw [List.size_toArray]; exact (List.getElem?_eq_some_iff.mp hu).1
    have hae : e ≠ a := fun z => by
      obtain ⟨o, ho, hc', _⟩ := hT
      rw [← z, he] at ho
      cases ho
      exact absurd hc' (show ¬ (Value.type "enumerate" = Value.type "tuple") by decide)
    have D := Draws.tuple (prog := X.prog) (w := X.w) (A := X.A.in1) (I.ok.hd hc) it a hai its.toArray
    refine wpAny_pyNext_enum_itemD D he ⟨hit, hT⟩ hlt hne (by simp [hne, hae]) fun x' h' tk hx' ho hit' hT' hsz hk => ?_
    have ex : x' = u := by
      have q1 : its.toArray[i]? = some x' := hx'
      have q2 : its.toArray[i]? = some u := by simpa using hu
      exact Option.some.inj (q1.symm.trans q2)
    subst ex
    refine ⟨_, rfl, wpAny_letOwnedTupleGo_enum (s := { s with heap := h', toks := tk + 1 }) ho fun h'' he' sb => ?_⟩
    have hT2 : h''.get? s.heap.objs.size = some { cls := .type "tuple", data := .seq #[.int i tk, x'] } := (sb.2 _ (Nat.ne_of_gt hel)).trans hT'
    have new : ObjOk X.prog X.w (upd H s.heap.objs.size (.tup [.int (i : Nat), x])) h'' s.heap.objs.size (.tup [.int (i : Nat), x]) :=
      ⟨by show 2 ≤ sizeLine; decide, [.int i tk, x'], .cons ⟨_, rfl⟩ (.cons ru .nil), ⟨_, hT2, rfl, _, rfl⟩⟩
    have I1 : Inv X pins σ (upd H s.heap.objs.size (.tup [.int (i : Nat), x])) { s with heap := h'', toks := tk + 1 } :=
      I.turnedNew (ch := [e, it]) (fun b ob hb q => (sb.2 b (fun z => hb (by simp [z]))).trans (hk b ob (fun z => hb (by simp [z])) (fun z => hb (by simp [z])) q)) hf (Nat.le_refl _) new
    refine ⟨.ref s.heap.objs.size, _, I1, rfl, ⟨_, x, rfl, I.hok.fresh (Nat.le_refl _), rfl, fun ys hy => by rw [I.tuple_inj hy hq]; exact hx⟩, ⟨⟨x', ?_⟩, hit'.1.at fun o q => (sb.2 it (Ne.symm hne)).trans q, hne⟩, fun b hb => ?_⟩
    · have e1 : ((i + 1 : Nat) : Int) = (i : Int) + 1 := by omega
      rw [e1]; exact he'
    · have hb' : b < s.heap.objs.size := by
        have e' : b = e ∨ b = it := by simpa using hb
        rcases e' with z | z
        · rw [z]; exact hel
        · rw [z]; exact hil
      rw [upd_ne (Nat.ne_of_lt hb')]
      exact (hf b hb).1
  done := by
    intro X hP hw hK hc i pins s σ H E I hf st hg
    subst hP hw hK
    obtain ⟨⟨old, he⟩, hit, hne⟩ := st
    obtain ⟨xs, hq, hx⟩ := hg
    obtain ⟨its, rv, p, hz⟩ := I.tuple hq
    obtain ⟨f0, f1, f2, f3, f4, f5⟩ := hf it (by simp)
    have hl := rv.length
    have hT : s.heap.IsTuple a its.toArray := p
    have hai : a ≠ it := tup_ne_iter hT hit
    have D := Draws.tuple (prog := X.prog) (w := X.w) (A := X.A.in1) (I.ok.hd hc) it a hai its.toArray
    have ei : its.toArray.size = i := by rw [List.size_toArray]; omega
    refine wpAny_pyNext_enum_endD D he (by rw [ei]; exact ⟨hit, hT⟩) fun h' eb => ⟨rfl, I.turned (t' := s.toks) (fun b o hb q => eb b o hb q) f0 f1 f3 f4 f5⟩
  self := fun A i s Q E st h => let ⟨⟨_, he⟩, _⟩ := st; wpAny_pyIter_enum he h
def iEnumT (K : PySem.W.Frag) (ta : TA) : TI := fun σ H R => ta σ H fun vs H1 => ∃ a xs, vs = [.ref a] ∧ SqT K H1 a xs ∧ R (ItT K a) H1
theorem pi_enumT {X : Cx} {e : Expr} {ta : TA} {p pos tpos : Pos} {elts : List Expr} {kk : Nat} (hg : Gl X "enumerate") (hm : X.mg "enumerate" = none) (ha : PA X [e] ta) (hs : starEach [e] X.env = [(false, eval e X.env)] := by rfl) :
    PI X (.Tuple elts kk tpos) (.Call (.Name "enumerate" p) [e] [] pos) (iEnumT X.K ta) := by
  refine ⟨fun pins s σ H R I h => ?_⟩
  refine Call_ (ld_blt I hg hm boot_enumerate (PyProof.Rows.callWith_type1 (thn (ha.run pos pins s σ H _ I h) fun us s1 ⟨vs, H1, I1, r1, q1⟩ => ?_) hs rfl))
  obtain ⟨a, xs, ex, hq, q⟩ := q1
  subst ex
  cases r1 with
  | cons r rr =>
    cases rr
    cases r
    obtain ⟨its, rv, p', hz⟩ := I1.tuple hq
    have hT : s1.heap.IsTuple a its.toArray := p'
    refine k8_call_enumT hT fun h' he hit hsz hk => wpAny_pyIter_enum he ?_
    have I2 : Inv X pins σ H1 { s1 with heap := h' } := I1.kept (t' := s1.toks) hk
    refine ⟨s1.heap.objs.size + 1, [s1.heap.objs.size + 1, s1.heap.objs.size], _, _, H1, rfl, I2, turn_enumT a (s1.heap.objs.size + 1) s1.heap.objs.size, ⟨⟨.none, he⟩, hit, Nat.succ_ne_self _⟩, fun b hb => ?_, q⟩
    have e' : b = s1.heap.objs.size + 1 ∨ b = s1.heap.objs.size := by simpa using hb
    have hle : s1.heap.objs.size ≤ b := by
      rcases e' with z | z
      · rw [z]; exact Nat.le_add_right _ _
      · rw [z]; exact Nat.le_refl _
    exact I1.fpOk hle (I1.hok.fresh hle)
theorem walk_enumT {K : PySem.W.Frag} {a : Addr} {xs : List V} : Walk (ItT K a) xs.length (fun H => SqT K H a xs) (YPair (fun i => some (.int (i : Nat))) (fun i => xs[i]?)) := by
  refine ⟨fun i _ hi q => ⟨xs, xs[i], q, by simp [hi]⟩, fun _ q => ⟨xs, q, rfl⟩, fun i H v H' _ q y => ?_⟩
  obtain ⟨T, x, h1, h2, h3, h4⟩ := y
  exact ⟨T, .int (i : Nat), x, h1, h2, h3, rfl, h4 xs q⟩
end K8
namespace K8
open PySem PySem.Spec PyProof.Rows L2
/-! ### small lists -/
theorem pop_last {α : Type} (us : List α) (y : α) : (us ++ [y])[(us ++ [y]).length - 1]? = some y := by simp
theorem snoc_of {α : Type} : ∀ (xs : List α), xs ≠ [] → ∃ us y, xs = us ++ [y]
  | [], h => absurd rfl h
  | x :: r, h => ⟨(x :: r).dropLast, (x :: r).getLast h, (List.dropLast_concat_getLast h).symm⟩
theorem pd_snoc {α β : Type} {R : α → β → Prop} : ∀ {us : List α} {y : α} {zs : List β}, Paired R (us ++ [y]) zs → ∃ ks k, zs = ks ++ [k] ∧ Paired R us ks ∧ R y k
  | [], y, _, .cons r .nil => ⟨[], _, rfl, .nil, r⟩
  | u :: us, y, _, .cons r t => by
    obtain ⟨ks, k, rfl, h1, h2⟩ := pd_snoc (us := us) t
    exact ⟨_ :: ks, k, rfl, .cons r h1, h2⟩
theorem pd_app {α β : Type} {R : α → β → Prop} : ∀ {us us' : List α} {zs zs' : List β}, Paired R us zs → Paired R us' zs' → Paired R (us ++ us') (zs ++ zs')
  | _, _, _, _, .nil, h => h
  | _, _, _, _, .cons r t, h => .cons r (pd_app t h)
/-! ### the size of a kind -/
def Kd.sz : Kd → Nat
  | .leaf _ => 1
  | .pair a b => 1 + a.sz + b.sz
def szs (ks : List Kd) : Nat := (ks.map Kd.sz).sum
theorem Kd.sz_pos : ∀ k : Kd, 1 ≤ k.sz
  | .leaf _ => Nat.le_refl _
  | .pair a b => by simp only [Kd.sz]; omega
theorem szs_len : ∀ ks : List Kd, ks.length ≤ szs ks
  | [] => Nat.le_refl _
  | k :: r => by
    have := szs_len r
    have := k.sz_pos
    simp only [szs, List.map_cons, List.sum_cons, List.length_cons] at *
    omega
theorem szs_app (a b : List Kd) : szs (a ++ b) = szs a + szs b := by simp [szs]
theorem Kd.sz_depth : ∀ (k : Kd) (d : Nat), k.depth ≤ d → k.sz + 1 ≤ 2 ^ (d + 1)
  | .leaf _, d, _ => by
    have : 2 ^ 1 ≤ 2 ^ (d + 1) := Nat.pow_le_pow_right (by decide) (by omega)
    simp only [Kd.sz]
    omega
  | .pair a b, 0, h => by simp only [Kd.depth] at h; omega
  | .pair a b, d + 1, h => by
    simp only [Kd.depth] at h
    have h1 := Kd.sz_depth a d (by omega)
    have h2 := Kd.sz_depth b d (by omega)
    simp only [Kd.sz]
    rw [Nat.pow_succ]
    omega
section
variable {P : Program} {w : World} {K : PySem.W.Frag} {mg : Str → Option Value} {base : Heap} {f : Addr} {fd : FuncData}
/-! ### is_kind_of_any_size -/
abbrev s_is_kind_of_any_size : Stmt := topS 16
abbrev Nis_kind_of_any_size : List Str := ["thing", "waiting", "here"]
theorem sc_is_kind_of_any_size : FnScope Nis_kind_of_any_size ["thing"] (defScope s_is_kind_of_any_size) := ⟨rfl, rfl, rfl, by decide +kernel, rfl, by decide +kernel, by decide +kernel⟩
def sp_is_kind_of_any_size : Sp := fun vs H Q _ => ∃ v k, vs = [v] ∧ KdV H v k ∧ k.depth ≤ 3 ∧ ∀ H', Same H H' → Q (.bl true) H'
theorem ok_is_kind_of_any_size (T : Txt mg) (c_is_pair : Cl P w K mg base "is_pair" 1 ["thing"] sp_is_pair) (c_is_within : Cl P w K mg base "is_within" 2 ["thing", "least", "most"] sp_is_within)
    (F : Fun K "is_kind_of_any_size" "is_kind_of_any_size" s_is_kind_of_any_size f fd) : FnOk P w K mg base CX0 3 f fd ["thing"] sp_is_kind_of_any_size := by
  have nd := sc_is_kind_of_any_size.nd
  refine F.ok sc_is_kind_of_any_size (fun vs H Q Ex h => ?_) (fun cdv A outer s H vs Q Ex hr h => ?_)
  · obtain ⟨v, k, rfl, _⟩ := h
    rfl
  · obtain ⟨v, k, rfl, hk, hd, q⟩ := h
    refine ⟨_, pss_cons (ps_set (i := 1) nd rfl (Or.inl rfl) (pe_lst (pa_cons (pv 0) pa_nil)))
    (pss_cons (ps_while PassesOwn.never (pt_cmpR op_gt (pe_callB call_len_seq (by rfl) T.len (by decide +kernel) (pa_cons (pv 1) pa_nil)) pe_int (nomark _)) (pss_cons (ps_set (i := 2) nd rfl (Or.inl rfl) (pe_bm0 PySem.F.plainAttrs_list PySem.F.slot_list_pop PySem.F.type_list_pop mt_pop (pv 1)))
      (pss_one (ps_if (pt_val (pe_cl c_is_pair hr (by omega) (pa_cons (pv 2) pa_nil))) (pss_one (ps_expr (pe_bm PySem.F.plainAttrs_list PySem.F.slot_list_extend PySem.F.type_list_extend mt_extendT (pv 1) (pa_cons (pv 2) pa_nil)))) (pss_one (ps_if (pt_not (pt_val (pe_cl c_is_within hr (by omega) (pa_cons (pv 2) (pa_cons pe_int (pa_cons (pe_gi T.cLAST_LETTER) pa_nil)))))) (pss_one (ps_ret pe_bl)) pss_nil))))))
    (pss_one (ps_ret pe_bl))), ?_⟩
    have hsz := k.sz_depth 3 hd
    refine ⟨v, rfl, (by show 1 ≤ sizeLine; decide), fun l nl => ?_⟩
    generalize eH : upd H l (.lst [v]) = H1
    obtain ⟨s1, e1, f1⟩ := new_f nl eH
    refine ⟨fun m σ H' => ∃ (vs : List V) (ks : List Kd) (y : Option V), σ = [some v, some (.ref l), y] ∧ Same H H' ∧ H' l = some (.lst vs) ∧ Paired (KdV H') vs ks ∧ szs ks = m ∧ m ≤ 15,
      ⟨k.sz, [v], [k], none, rfl, s1, e1, .cons (hk.mono s1.tups) .nil, by simp [szs], by omega⟩, ?_⟩
    rintro m σ H2 ⟨vs, ks, y, rfl, s2, e2, hp, hm, hm15⟩
    have hlk := szs_len ks
    have hlen : vs.length = ks.length := Paired.length hp
    refine ⟨_, rfl, l, vs, rfl, .inl (SqL.h e2), _, _, rfl, rfl, _, rfl, ?_⟩
    refine ite2 (fun c => ?_) (fun c => ?_)
    · have c' : ((vs.length : Nat) : Int) > 0 := of_decide_eq_true c
      have hne : vs ≠ [] := by rintro rfl; simp at c'
      obtain ⟨us, x, rfl⟩ := snoc_of vs hne
      obtain ⟨ks', kx, rfl, hp1, hx⟩ := (pd_snoc hp)
      rw [szs_app] at hm
      refine ⟨fun σ' H' => ∃ m', m' < m ∧ ∃ (vs : List V) (ks : List Kd) (y : Option V), σ' = [some v, some (.ref l), y] ∧ Same H H' ∧ H' l = some (.lst vs) ∧ Paired (KdV H') vs ks ∧ szs ks = m' ∧ m' ≤ 15, fun σ' H' h => h, ?_⟩
      -- here = waiting.pop()
      refine ⟨_, rfl, .inl ⟨rfl, _, SqL.h e2⟩, l, _, x, rfl, rfl, e2, pop_last us x, ?_⟩
      rw [List.dropLast_concat]
      generalize eH2 : upd H2 l (.lst us) = H3
      obtain ⟨e3, f3⟩ := mut_f eH2
      have s3 : Same H H3 := s2.mut nl f3
      have t3 : Tups H2 H3 := fun p xs e => by
        rw [f3 p (ne_of e e2 (by intro z; cases z))]
        exact e
      have hx3 := hx.mono t3
      have hp3 : Paired (KdV H3) us ks' := pd_imp (fun _ _ r => KdV.mono t3 r) hp1
      cases kx with
      | leaf n =>
        obtain ⟨rfl, n0, n1⟩ := hx3
        refine ⟨_, rfl, _, rfl, .inl ⟨.inl ⟨n, rfl⟩, false, rfl, iteF ?_⟩⟩
        refine ⟨_, rfl, n, 0, 25, rfl, n0, n1, true, rfl, iteF ?_⟩
        refine ⟨szs ks', ?_, us, ks', _, rfl, s3, e3, hp3, rfl, by omega⟩
        simp only [szs, List.map_cons, List.map_nil, List.sum_cons, List.sum_nil, Kd.sz] at hm ⊢
        omega
      | pair a b =>
        obtain ⟨p, xa, xb, rfl, ep, ha, hb⟩ := hx3
        have npl : p ≠ l := ne_of ep e3 (by intro z; cases z)
        refine ⟨_, rfl, _, rfl, .inr ⟨p, xa, xb, rfl, ep, true, rfl, iteT ?_⟩⟩
        refine ⟨_, rfl, .inl ⟨rfl, _, SqL.h e3⟩, _, rfl, l, p, us, [xa, xb], rfl, rfl, e3, SqT.h ep, ?_, ?_⟩
        · have : us.length = ks'.length := Paired.length hp3
          have hl2 := szs_len ks'
          show us.length + 2 ≤ sizeLine
          exact Nat.le_of_lt (small1000 (by omega))
        generalize eH3 : upd H3 l (.lst (us ++ [xa, xb])) = H4
        obtain ⟨e4, f4⟩ := mut_f eH3
        have t4 : Tups H3 H4 := fun p xs e => by
          rw [f4 p (ne_of e e3 (by intro z; cases z))]
          exact e
        refine ⟨szs (ks' ++ [a, b]), ?_, us ++ [xa, xb], ks' ++ [a, b], _, rfl, s3.mut nl f4, e4, pd_app (pd_imp (fun _ _ r => KdV.mono t4 r) hp3) (.cons (ha.mono t4) (.cons (hb.mono t4) .nil)), rfl, ?_⟩
        all_goals
          rw [szs_app]
          simp only [szs, List.map_cons, List.map_nil, List.sum_cons, List.sum_nil, Kd.sz] at hm ⊢
          omega
    · exact q _ s2
/-! ### is_take -/
abbrev s_is_take : Stmt := topS 37
abbrev Nis_take : List Str := ["word"]
theorem sc_is_take : FnScope Nis_take ["word"] (defScope s_is_take) := ⟨rfl, rfl, rfl, by decide +kernel, rfl, by decide +kernel, by decide +kernel⟩
def sp_is_take : Sp := fun vs H Q _ => ∃ (v : V) (u : W), vs = [v] ∧ WdV H v u ∧ Q (.bl u.isTake) H
theorem ok_is_take (T : Txt mg) (F : Fun K "is_take" "is_take" s_is_take f fd) : FnOk P w K mg base CX0 1 f fd ["word"] sp_is_take := by
  have nd := sc_is_take.nd
  refine F.ok sc_is_take (fun vs H Q Ex h => ?_) (fun cdv A outer s H vs Q Ex hr h => ?_)
  · obtain ⟨v, u, rfl, _⟩ := h
    rfl
  · obtain ⟨v, u, rfl, hv, q⟩ := h
    refine ⟨_, pss_one (ps_ret (pe_callB call_isi (by rfl) T.isinstance (by decide +kernel) (pa_cons (pv 0) (pa_cons (pe_ty (Ty := "tuple") T.tuple (by decide +kernel)) pa_nil)))), ?_⟩
    cases u with
    | use =>
      rw [show v = .str "@" from hv]
      exact ⟨_, rfl, _, _, _, _, false, rfl, .ty _, .base (.str _), isi_str_tuple, q⟩
    | name s =>
      rw [hv.1]
      exact ⟨_, rfl, _, _, _, _, false, rfl, .ty _, .base (.str _), isi_str_tuple, q⟩
    | take s k =>
      obtain ⟨p, x, rfl, ep, _⟩ := hv
      exact ⟨_, rfl, _, _, _, _, true, rfl, .ty _, .base (.tup ep), isi_tuple_tuple, q⟩
/-! ### is_word -/
abbrev s_is_word : Stmt := topS 38
abbrev Nis_word : List Str := ["thing"]
theorem sc_is_word : FnScope Nis_word ["thing"] (defScope s_is_word) := ⟨rfl, rfl, rfl, by decide +kernel, rfl, by decide +kernel, by decide +kernel⟩
def sp_is_word : Sp := fun vs H Q _ => ∃ (v : V) (u : W), vs = [v] ∧ WdV H v u ∧ ∀ H', Same H H' → Q (.bl true) H'
theorem ok_is_word (T : Txt mg) (c_is_pair : Cl P w K mg base "is_pair" 1 ["thing"] sp_is_pair) (c_is_name : Cl P w K mg base "is_name" 1 ["thing"] sp_is_name)
    (c_is_kind_of_any_size : Cl P w K mg base "is_kind_of_any_size" 3 ["thing"] sp_is_kind_of_any_size) (F : Fun K "is_word" "is_word" s_is_word f fd) : FnOk P w K mg base CX0 4 f fd ["thing"] sp_is_word := by
  have nd := sc_is_word.nd
  refine F.ok sc_is_word (fun vs H Q Ex h => ?_) (fun cdv A outer s H vs Q Ex hr h => ?_)
  · obtain ⟨v, u, rfl, _⟩ := h
    rfl
  · obtain ⟨v, u, rfl, hv, q⟩ := h
    have hu64 := hu64_of hr
    refine ⟨_, pss_cons (ps_if (pt_val (pe_cl c_is_pair hr (by omega) (pa_cons (pv 0) pa_nil))) (pss_one (ps_ret (pe_and (pe_cl c_is_name hr (by omega) (pa_cons (pe_ix ix_tup (pv 0) pe_int (fun _ _ => rfl)) pa_nil)) (pe_one (pe_cl c_is_kind_of_any_size hr (by omega) (pa_cons (pe_ix ix_tup (pv 0) pe_int (fun _ _ => rfl)) pa_nil)))))) pss_nil)
    (pss_one (ps_ret (pe_and (pe_callB call_isi (by rfl) T.isinstance (by decide +kernel) (pa_cons (pv 0) (pa_cons (pe_ty (Ty := "str") T.str (by decide +kernel)) pa_nil))) (pe_one (pe_or (pe_cmpR (op_eqD hu64) (pv 0) (pe_gs T.cUSE) (nomark _)) (pe_one (pe_cl c_is_name hr (by omega) (pa_cons (pv 0) pa_nil)))))))), ?_⟩
    cases u with
    | use =>
      have ev : v = .str "@" := hv
      subst ev
      refine ⟨_, rfl, _, rfl, .inl ⟨.inr ⟨_, rfl⟩, false, rfl, iteF ?_⟩⟩
      refine ⟨_, rfl, _, _, _, _, true, rfl, .ty _, .base (.str _), isi_str_str, true, rfl, iteT ?_⟩
      exact ⟨_, rfl, .str "@", .str "@", .str _, .str _, str_shaped use_strOk, str_shaped use_strOk, true, by simp [PyData.eqv], iteT (q _ (Same.refl _))⟩
    | name s =>
      obtain ⟨rfl, hn⟩ := hv
      refine ⟨_, rfl, _, rfl, .inl ⟨.inr ⟨_, rfl⟩, false, rfl, iteF ?_⟩⟩
      refine ⟨_, rfl, _, _, _, _, true, rfl, .ty _, .base (.str _), isi_str_str, true, rfl, iteT ?_⟩
      have ne := name_ne_use hn
      refine ⟨_, rfl, .str s, .str "@", .str _, .str _, str_shaped (nameOk_strOk hn), str_shaped use_strOk, false, by simp [PyData.eqv, ne], iteF ?_⟩
      exact ⟨_, rfl, s, rfl, hn, q⟩
    | take s k =>
      obtain ⟨p, x, rfl, ep, hn, hk, hd⟩ := hv
      refine ⟨_, rfl, _, rfl, .inr ⟨p, _, _, rfl, ep, true, rfl, iteT ?_⟩⟩
      refine ⟨_, rfl, p, _, 0, .str s, rfl, rfl, SqT.h ep, rfl, s, rfl, hn, fun H1 s1 => ⟨true, rfl, iteT ?_⟩⟩
      refine ⟨_, rfl, p, _, 1, x, rfl, rfl, SqT.h (s1.tups _ _ ep), rfl, x, k, rfl, hk.mono s1.tups, hd, fun H2 s2 => ?_⟩
      exact q _ (s1.trans s2)
end
end K8
namespace K8
open PySem PySem.Spec PyProof.Rows L2
theorem Wf.uniq {N : Type} {ws : List (Wd N)} {n m : Nat} (h : Wf ws n) (h2 : Wf ws m) : n = m := (stk_len 0 h).symm.trans (stk_len 0 h2)
abbrev natV (n : Nat) : V := .int (n : Int)
abbrev optV : Option Nat → V
  | none => .non
  | some n => .int (n : Int)
theorem lt60 {n : Nat} (h : n ≤ 100) : n < sizeLine := small1000 (by omega)
theorem le60 {n : Nat} (h : n ≤ 100) : n ≤ sizeLine := Nat.le_of_lt (lt60 h)
theorem rep_set {α : Type} (z v : α) : ∀ (p : Nat) (t : List α), (List.replicate (p + 1) z ++ t).set p v = List.replicate p z ++ v :: t
  | 0, t => rfl
  | p + 1, t => by
    rw [List.replicate_succ, List.cons_append, List.set_cons_succ, rep_set z v p t]
    rfl
/-- a program as it lies at a -/
structure PgV (H : Hp) (a : Addr) (ws : List W) : Prop where
  at_ : ∃ vs, H a = some (.tup vs) ∧ WsV H vs ws
  wf : Wf ws 1
  len : ws.length ≤ 60
theorem PgV.mono {H H' : Hp} (t : Tups H H') {a : Addr} {ws : List W} (h : PgV H a ws) : PgV H' a ws := by
  obtain ⟨vs, e, r⟩ := h.at_
  exact ⟨⟨vs, t _ _ e, r.mono t⟩, h.wf, h.len⟩
section
variable {P : Program} {w : World} {K : PySem.W.Frag} {mg : Str → Option Value} {base : Heap} {f : Addr} {fd : FuncData}
/-! ### is_whole -/
abbrev s_is_whole : Stmt := topS 39
abbrev Nis_whole : List Str := ["words", "many", "word"]
theorem sc_is_whole : FnScope Nis_whole ["words"] (defScope s_is_whole) := ⟨rfl, rfl, rfl, by decide +kernel, rfl, by decide +kernel, by decide +kernel⟩
def sp_is_whole : Sp := fun vs H Q _ => ∃ a ws, vs = [.ref a] ∧ PgV H a ws ∧ ∀ H', Same H H' → Q (.bl true) H'
theorem ok_is_whole (T : Txt mg) (c_is_take : Cl P w K mg base "is_take" 1 ["word"] sp_is_take) (F : Fun K "is_whole" "is_whole" s_is_whole f fd) : FnOk P w K mg base CX0 2 f fd ["words"] sp_is_whole := by
  have nd := sc_is_whole.nd
  refine F.ok sc_is_whole (fun vs H Q Ex h => ?_) (fun cdv A outer s H vs Q Ex hr h => ?_)
  · obtain ⟨v, u, rfl, _⟩ := h
    rfl
  · obtain ⟨a, ws, rfl, hp, q⟩ := h
    refine ⟨_, pss_cons (ps_set (i := 1) nd rfl (Or.inl rfl) pe_int)
    (pss_cons (ps_for PassesOwn.never rfl (pi_tup (pe_rev_T (pv 0))) (pg_name (i := 2) nd rfl (Or.inl rfl))
      (pss_cons (ps_if (pt_not (pt_val (pe_cl c_is_take hr (by omega) (pa_cons (pv 2) pa_nil)))) (pss_one (ps_aug (i := 1) nd rfl (Or.inl rfl) (pe_ifExp (pt_cmpR op_eq (pv 2) (pe_gs T.cUSE) (nomark _)) (pe_un un_neg pe_int) pe_int) ip_add)) pss_nil)
      (pss_one (ps_if (pt_cmpR op_lt (pv 1) pe_int (nomark _)) (pss_one (ps_ret pe_bl)) pss_nil))))
    (pss_one (ps_ret (pe_cmpR op_eq (pv 1) pe_int (nomark _))))), ?_⟩
    obtain ⟨us, ea, hw⟩ := hp.at_
    have hlen : us.length = ws.length := Paired.length hw
    refine ⟨_, rfl, a, us, rfl, SqT.h ea, fun r nr => ?_⟩
    generalize eH : upd H r (.tup us.reverse) = H1
    obtain ⟨s1, e1, f1⟩ := new_f nr eH
    refine ⟨r, rfl, ⟨_, SqT.h e1⟩, for_tup (K := K) (a := r) (xs := us.reverse) (fun i σ H' => ∃ (n : Nat) (y : Option V), σ = [some (.ref a), some (.int n), y] ∧ Same H1 H' ∧ Wf (ws.drop (ws.length - i)) n) ?_ ?_ ?_ ?_⟩
    · exact ⟨0, none, rfl, Same.refl _, by rw [Nat.sub_zero, List.drop_length]; exact .nil⟩
    · rintro i σ H' hi ⟨n, y, _, s2, _⟩
      exact SqT.h (s2 _ _ e1)
    · rintro i x σ H2 hx ⟨n, y, rfl, s2, hn⟩
      have hi : i < us.length := by
        have := (List.getElem?_eq_some_iff.mp hx).1
        rw [List.length_reverse] at this
        exact this
      rw [List.getElem?_reverse hi] at hx
      obtain ⟨u, hu, wu⟩ := pd_at_left hw hx
      have hpl : us.length - 1 - i < ws.length := by omega
      have eu : ws[us.length - 1 - i] = u := by
        rw [List.getElem?_eq_getElem hpl] at hu
        exact Option.some.inj hu
      have ed : ws.drop (ws.length - (i + 1)) = u :: ws.drop (ws.length - i) := by
        have e2 : ws.length - (i + 1) = us.length - 1 - i := by omega
        rw [e2, List.drop_eq_getElem_cons hpl, eu]
        congr 2
        omega
      obtain ⟨m, hm⟩ := hp.wf.drop (ws.length - (i + 1))
      have m1 : 1 ≤ m := hm.pos (by rw [ed]; simp)
      rw [ed] at hm
      have t2 := (s1.trans s2).tups
      have wu2 : WdV H2 x u := wu.mono t2
      refine ⟨_, rfl, x, u, rfl, wu2, u.isTake, rfl, ?_⟩
      cases u with
      | take s k =>
        have e : n = m := by cases hm with | take _ _ h => exact hn.uniq h
        subst e
        refine iteF ?_
        refine ⟨_, rfl, _, _, rfl, rfl, false, eF (by omega), iteF ?_⟩
        exact ⟨n, _, rfl, s2, by rw [ed]; exact hm⟩
      | name s =>
        obtain ⟨rfl, hs⟩ := wu2
        have e : n + 1 = m := by cases hm with | name _ h => rw [hn.uniq h]
        refine iteT ?_
        refine ⟨_, rfl, _, rfl, rfl, false, eF (fun z => name_ne_use hs (V.str.inj z)), iteF ⟨_, _, rfl, rfl, ?_⟩⟩
        refine ⟨_, rfl, _, _, rfl, rfl, false, eF (show ¬ ((n : Int) + 1 < 1) by omega), iteF ?_⟩
        refine ⟨m, some (.str s), ?_, s2, by rw [ed]; exact hm⟩
        rw [← e]
        rfl
      | use =>
        have ev : x = .str "@" := wu2
        subst ev
        have e : n = m + 1 := by cases hm with | use h => rw [hn.uniq h]
        subst e
        refine iteT ?_
        refine ⟨_, rfl, _, rfl, rfl, true, eT rfl, iteT ⟨1, rfl, _, _, rfl, rfl, ?_⟩⟩
        have em : (((m + 1 : Nat) : Int) + -1) = (m : Int) := by omega
        refine ⟨_, rfl, _, _, rfl, rfl, false, eF (show ¬ (((m + 1 : Nat) : Int) + -1 < 1) by omega), iteF ?_⟩
        refine ⟨m, some (.str "@"), ?_, s2, by rw [ed]; exact hm⟩
        rw [← em]
        rfl
    · rintro σ H2 ⟨n, y, rfl, s2, hn⟩
      rw [List.length_reverse, hlen, Nat.sub_self, List.drop_zero] at hn
      have e : n = 1 := hn.uniq hp.wf
      subst e
      exact ⟨_, rfl, rfl, blT (Q := Q) (decide_eq_true rfl) (q _ (s1.trans s2))⟩
/-! ### check_program -/
abbrev s_check_program : Stmt := topS 40
abbrev Ncheck_program : List Str := ["thing", "word"]
theorem sc_check_program : FnScope Ncheck_program ["thing"] (defScope s_check_program) := ⟨rfl, rfl, rfl, by decide +kernel, rfl, by decide +kernel, by decide +kernel⟩
def sp_check_program : Sp := fun vs H Q _ => ∃ a ws, vs = [.ref a] ∧ PgV H a ws ∧ ∀ H', Same H H' → Q .non H'
theorem rep_all' (n : Nat) : (List.replicate n true).all id = true := by
  rw [List.all_eq_true]
  intro x hx
  exact (List.eq_of_mem_replicate hx)
theorem rep_snoc (n : Nat) : (List.replicate n true).map V.bl ++ [V.bl true] = (List.replicate (n + 1) true).map V.bl := by
  rw [List.replicate_succ', List.map_append]
  rfl
theorem ok_check_program (T : Txt mg) (c_is_word : Cl P w K mg base "is_word" 4 ["thing"] sp_is_word) (c_is_whole : Cl P w K mg base "is_whole" 2 ["words"] sp_is_whole)
    (F : Fun K "check_program" "check_program" s_check_program f fd) : FnOk P w K mg base CX0 5 f fd ["thing"] sp_check_program := by
  have nd := sc_check_program.nd
  refine F.ok sc_check_program (fun vs H Q Ex h => ?_) (fun cdv A outer s H vs Q Ex hr h => ?_)
  · obtain ⟨v, u, rfl, _⟩ := h
    rfl
  · obtain ⟨a, ws, rfl, hp, q⟩ := h
    refine ⟨_, pss_cons (ps_if (PW.pt (pw_or (pt_not (pt_val (pe_callB call_isi (by rfl) T.isinstance (by decide +kernel) (pa_cons (pv 0) (pa_cons (pe_ty (Ty := "tuple") T.tuple (by decide +kernel)) pa_nil))))) (pw_or (pt_cmpR op_eq (pe_callB call_len_seq (by rfl) T.len (by decide +kernel) (pa_cons (pv 0) pa_nil)) pe_int (nomark _)) (pw_or1 (pt_not (pt_val (pe_callB (cr_all rfl) (by rfl) T.all (by decide +kernel) (pa_cons (pe_lc (own := [("word", 1)]) (g := gName 1) rfl nd (pi_tup (pv 0)) (blkOk_by (own := [("word", 1)]) (N := Ncheck_program) (sc := defScope s_check_program) (by decide +kernel)) (fun _ _ _ _ _ => (pg_name (i := 1) nd rfl (Or.inl rfl))) (fun _ _ _ _ _ => pts_nil) (fun _ _ _ _ _ => (pe_cl c_is_word hr (by omega) (pa_cons (pv 1) pa_nil)))) pa_nil)))))))) (pss_one ps_never) pss_nil)
    (pss_one (ps_if (pt_not (pt_val (pe_cl c_is_whole hr (by omega) (pa_cons (pv 0) pa_nil)))) (pss_one ps_never) pss_nil)), ?_⟩
    obtain ⟨us, ea, hw⟩ := hp.at_
    have hlen : us.length = ws.length := Paired.length hw
    have h60 := hp.len
    refine ⟨_, rfl, _, _, _, _, true, rfl, .ty _, .base (.tup ea), isi_tuple_tuple, true, rfl, iteF ?_⟩
    refine ⟨_, rfl, a, us, rfl, .inr (SqT.h ea), rfl, false, ?_, iteF ?_⟩
    · refine eF fun z => ?_
      have z' : ((us.length : Nat) : Int) = 0 := V.int.inj z
      have z2 : ws = [] := List.eq_nil_of_length_eq_zero (by omega)
      have := hp.wf
      rw [z2] at this
      cases this
    refine ⟨_, rfl, a, rfl, ⟨_, SqT.h ea⟩, fun D nD => ?_⟩
    refine lc_tup (K := K) (a := a) (xs := us) (fun i H' => Same H H' ∧ H' D = some (.lst ((List.replicate i true).map V.bl))) ⟨same_new _ nD, upd_same⟩ (fun i H' _ h' => SqT.h (h'.1 _ _ ea)) ?_ ?_
    · rintro i x H1 hx ⟨s1, eD⟩
      obtain ⟨u, hu, wu⟩ := pd_at_left hw hx
      refine ⟨rfl, _, rfl, x, u, rfl, wu.mono s1.tups, fun H2 s2 => ⟨_, s2 _ _ eD, ?_, ?_, ?_⟩⟩
      · rw [List.length_map, List.length_replicate]
        have := (List.getElem?_eq_some_iff.mp hx).1
        exact lt60 (by omega)
      · exact (s1.trans s2).mut nD (fun b hb => upd_ne hb)
      · rw [upd_same, rep_snoc]
    · rintro H2 ⟨s2, eD⟩
      refine ⟨D, _, rfl, SqL.h eD, ?_⟩
      rw [rep_all']
      refine ⟨true, rfl, iteF ?_⟩
      refine ⟨_, rfl, a, ws, rfl, hp.mono s2.tups, fun H3 s3 => ⟨true, rfl, iteF ?_⟩⟩
      exact q _ (s2.trans s3)
/-! ### is_open_at -/
def openB : W → Option Nat → Bool
  | .name _, o => o.isNone
  | _, _ => false
abbrev s_is_open_at : Stmt := topS 43
abbrev Nis_open_at : List Str := ["words", "takers", "place"]
theorem sc_is_open_at : FnScope Nis_open_at ["words", "takers", "place"] (defScope s_is_open_at) := ⟨rfl, rfl, rfl, by decide +kernel, rfl, by decide +kernel, by decide +kernel⟩
def sp_is_open_at : Sp := fun vs H Q _ => ∃ (a t : Addr) (us : List V) (ws : List W) (os : List (Option Nat)) (p : Nat) (u : W) (o : Option Nat), vs = [.ref a, .ref t, .int (p : Int)] ∧ H a = some (.tup us) ∧ WsV H us ws ∧ H t = some (.lst (os.map optV)) ∧
  ws[p]? = some u ∧ os[p]? = some o ∧ Q (.bl (openB u o)) H
theorem ok_is_open_at (T : Txt mg) (c_is_take : Cl P w K mg base "is_take" 1 ["word"] sp_is_take) (F : Fun K "is_open_at" "is_open_at" s_is_open_at f fd) : FnOk P w K mg base CX0 2 f fd ["words", "takers", "place"] sp_is_open_at := by
  have nd := sc_is_open_at.nd
  refine F.ok sc_is_open_at (fun vs H Q Ex h => ?_) (fun cdv A outer s H vs Q Ex hr h => ?_)
  · obtain ⟨_, _, _, _, _, _, _, _, rfl, _⟩ := h
    rfl
  · obtain ⟨a, t, us, ws, os, p, u, o, rfl, ea, hw, et, hu, ho, q⟩ := h
    have hu64 := hu64_of hr
    refine ⟨_, pss_one (ps_ret (pe_and (pe_not (pe_cl c_is_take hr (by omega) (pa_cons (pe_ix ix_tup (pv 0) (pv 2) (fun _ _ => rfl)) pa_nil))) (pe_and (pe_cmpR (op_neD hu64) (pe_ix ix_tup (pv 0) (pv 2) (fun _ _ => rfl)) (pe_gs T.cUSE) (nomark _)) (pe_one (pe_cmpR op_isN (pe_ix ix_list (pv 1) (pv 2) (fun _ _ => rfl)) pe_non (nomark _)))))), ?_⟩
    obtain ⟨x, hx, wu⟩ := pd_at_right hw hu
    have hox : (os.map optV)[p]? = some (optV o) := by rw [List.getElem?_map, ho]; rfl
    have hsh := wu.shaped
    have heq := wu.eqv_use
    refine ⟨_, rfl, _, rfl, a, _, (p : Int), x, rfl, rfl, SqT.h ea, atI_nat hx, x, u, rfl, wu, u.isTake, rfl, ?_⟩
    cases u with
    | take s k => exact ⟨false, rfl, iteF q⟩
    | use =>
      refine ⟨true, rfl, iteT ?_⟩
      refine ⟨_, rfl, _, rfl, a, _, (p : Int), x, rfl, rfl, SqT.h ea, atI_nat hx, _, _, wu.dp, .str _, hsh, str_shaped use_strOk, ?_⟩
      rw [heq]
      exact ⟨false, rfl, iteF q⟩
    | name s =>
      refine ⟨true, rfl, iteT ?_⟩
      refine ⟨_, rfl, _, rfl, a, _, (p : Int), x, rfl, rfl, SqT.h ea, atI_nat hx, _, _, wu.dp, .str _, hsh, str_shaped use_strOk, ?_⟩
      rw [heq]
      refine ⟨true, rfl, iteT ?_⟩
      refine ⟨_, rfl, _, rfl, t, _, (p : Int), _, rfl, rfl, SqL.h et, atI_nat hox, rfl, ?_⟩
      cases o with
      | none => exact blT (Q := Q) (decide_eq_true rfl) q
      | some n => exact blF (Q := Q) (decide_eq_false (fun z => by cases z)) q
/-! ### ends_of -/
abbrev s_ends_of : Stmt := topS 41
abbrev Nends_of : List Str := ["words", "found", "waiting", "place", "end"]
theorem sc_ends_of : FnScope Nends_of ["words"] (defScope s_ends_of) := ⟨rfl, rfl, rfl, by decide +kernel, rfl, by decide +kernel, by decide +kernel⟩
def sp_ends_of : Sp := fun vs H Q _ => ∃ a ws, vs = [.ref a] ∧ PgV H a ws ∧ ∀ H' p, Same H H' → H p = none → H' p = some (.lst ((ends ws).map natV)) → Q (.ref p) H'
/-- what one turn does -/
theorem ends_turn {ws : List W} {n p : Nat} (h : Wf ws n) (hp : p < ws.length) : endsFrom p (ws.drop p) = E ws p :: endsFrom (p + 1) (ws.drop (p + 1)) := by
  rw [List.drop_eq_getElem_cons hp]
  show endAt p (ws[p] :: ws.drop (p + 1)) :: _ = _
  rw [← List.drop_eq_getElem_cons hp]
  rfl
theorem flat_rep (n : Nat) (v : V) : (List.replicate n [v]).flatten = List.replicate n v := by
  induction n with
  | zero => rfl
  | succ n ih => rw [List.replicate_succ, List.flatten_cons, ih]; rfl
theorem ok_ends_of (T : Txt mg) (c_is_take : Cl P w K mg base "is_take" 1 ["word"] sp_is_take) (F : Fun K "ends_of" "ends_of" s_ends_of f fd) : FnOk P w K mg base CX0 2 f fd ["words"] sp_ends_of := by
  have nd := sc_ends_of.nd
  refine F.ok sc_ends_of (fun vs H Q Ex h => ?_) (fun cdv A outer s H vs Q Ex hr h => ?_)
  · obtain ⟨v, u, rfl, _⟩ := h
    rfl
  · obtain ⟨a, ws, rfl, hp, q⟩ := h
    have hu64 := hu64_of hr
    refine ⟨_, pss_cons (ps_set (i := 1) nd rfl (Or.inl rfl) (pe_op op_rep (pe_lst (pa_cons pe_int pa_nil)) (pe_callB call_len_seq (by rfl) T.len (by decide +kernel) (pa_cons (pv 0) pa_nil))))
    (pss_cons (ps_set (i := 2) nd rfl (Or.inl rfl) (pe_lst pa_nil))
    (pss_cons (ps_for PassesOwn.never rfl (pi_range3 rfl T.range (pa_cons (pe_op op_sub (pe_callB call_len_seq (by rfl) T.len (by decide +kernel) (pa_cons (pv 0) pa_nil)) pe_int) (pa_cons (pe_un un_neg pe_int) (pa_cons (pe_un un_neg pe_int) pa_nil)))) (pg_name (i := 3) nd rfl (Or.inl rfl))
      (pss_cons (ps_set (i := 4) nd rfl (Or.inl rfl) (pe_op op_add (pv 3) pe_int))
      (pss_cons (ps_if (pt_cmpR (op_eqD hu64) (pe_ix ix_tup (pv 0) (pv 3) (fun _ _ => rfl)) (pe_gs T.cUSE) (nomark _)) (pss_cons (ps_expr (pe_bm0 PySem.F.plainAttrs_list PySem.F.slot_list_pop PySem.F.type_list_pop mt_pop (pv 2)))
        (pss_one (ps_set (i := 4) nd rfl (Or.inl rfl) (pe_bm0 PySem.F.plainAttrs_list PySem.F.slot_list_pop PySem.F.type_list_pop mt_pop (pv 2))))) (pss_one (ps_if (pt_val (pe_cl c_is_take hr (by omega) (pa_cons (pe_ix ix_tup (pv 0) (pv 3) (fun _ _ => rfl)) pa_nil))) (pss_one (ps_set (i := 4) nd rfl (Or.inl rfl) (pe_bm0 PySem.F.plainAttrs_list PySem.F.slot_list_pop PySem.F.type_list_pop mt_pop (pv 2)))) pss_nil)))
      (pss_cons (ps_asg (pv 4) (pg_sub (pv 1) (pv 3) set_list))
      (pss_one (ps_expr (pe_bm PySem.F.plainAttrs_list PySem.F.slot_list_append PySem.F.type_list_append mt_append (pv 2) (pa_cons (pv 4) pa_nil))))))))
    (pss_one (ps_ret (pv 1))))), ?_⟩
    obtain ⟨us, ea, hw⟩ := hp.at_
    have hlen : us.length = ws.length := Paired.length hw
    have h60 := hp.len
    -- found = [0] * len(words)
    refine ⟨(by show 1 ≤ sizeLine; decide), fun z nz => ?_⟩
    generalize eH : upd H z (.lst [V.int 0]) = H1
    obtain ⟨s1, e1, f1⟩ := new_f nz eH
    refine ⟨_, rfl, a, us, rfl, .inr (SqT.h (s1 _ _ ea)), z, _, _, rfl, rfl, e1, by omega, by omega, ?_, fun fo nfo => ?_⟩
    · show 1 * ((us.length : Nat) : Int).toNat ≤ sizeLine
      exact le60 (by omega)
    rw [show ((us.length : Nat) : Int).toNat = ws.length by omega, flat_rep]
    generalize eH2 : upd H1 fo (.lst (List.replicate ws.length (V.int 0))) = H2
    obtain ⟨s2, e2, f2⟩ := new_f nfo eH2
    -- waiting = []
    refine ⟨Nat.zero_le _, fun wa nwa => ?_⟩
    generalize eH3 : upd H2 wa (.lst []) = H3
    obtain ⟨s3, e3, f3⟩ := new_f nwa eH3
    have s03 : Same H H3 := (s1.trans s2).trans s3
    have nf0 : H fo = none := s1.free nfo
    have nw0 : H wa = none := (s1.trans s2).free nwa
    have nfw : fo ≠ wa := ne_of_none e2 nwa
    -- the loop
    refine ⟨_, rfl, a, us, rfl, .inr (SqT.h (s03 _ _ ea)), _, _, rfl, rfl, 1, rfl, 1, rfl, _, _, _, _, rfl, RgC.neg (by omega) (by omega) (by omega) (by omega), ?_⟩
    have en : (((us.length : Nat) : Int) - 1 - -1).toNat = ws.length := by omega
    rw [en]
    refine for_rangeC (fun i σ H' => ∃ (y3 y4 : Option V), σ = [some (.ref a), some (.ref fo), some (.ref wa), y3, y4] ∧ Same H H' ∧ H' fo = some (.lst (List.replicate (ws.length - i) (V.int 0) ++ (endsFrom (ws.length - i) (ws.drop (ws.length - i))).map natV)) ∧
      H' wa = some (.lst ((S ws (ws.length - i)).reverse.map natV))) ?_ ?_ ?_
    · refine ⟨none, none, rfl, s03, ?_, ?_⟩
      · rw [Nat.sub_zero, List.drop_length]
        show H3 fo = some (.lst (List.replicate ws.length (V.int 0) ++ []))
        rw [List.append_nil]
        exact s3 _ _ e2
      · rw [Nat.sub_zero, S_end]
        exact e3
    · rintro i σ H4 hi ⟨y3, y4, rfl, s4, ef, ew⟩
      obtain ⟨p, ep⟩ : ∃ p, ws.length - i = p + 1 := ⟨ws.length - i - 1, by omega⟩
      have epl : ws.length - (i + 1) = p := by omega
      have hpl : p < ws.length := by omega
      have eplace : (((us.length : Nat) : Int) - 1 + (i : Int) * -1) = (p : Int) := by omega
      rw [ep] at ef ew
      rw [epl]
      have eu : ws[p]? = some ws[p] := List.getElem?_eq_getElem hpl
      generalize ws[p] = u at eu
      obtain ⟨x, hx, wu⟩ := pd_at_right hw eu
      have t4 := s4.tups
      have wu4 : WdV H4 x u := wu.mono t4
      have ea4 := s4 _ _ ea
      have hT := ends_turn hp.wf hpl
      have hlenE : ((endsFrom (p + 1) (ws.drop (p + 1))).map natV).length = ws.length - (p + 1) := by rw [List.length_map, endsFrom_len, List.length_drop]
      -- the turn's end: found[place] = end; waiting.append(end)
      have fin : ∀ (H5 : Hp) (e : Nat) (r : List Nat) (D : Ends) (y3 : Option V), Same H H5 → H5 fo = some (.lst (List.replicate (p + 1) (V.int 0) ++ (endsFrom (p + 1) (ws.drop (p + 1))).map natV)) → H5 wa = some (.lst (r.reverse.map natV)) → S ws p = e :: r → r.length ≤ 60 →
          (∀ H6, Same H H6 → H6 fo = some (.lst (List.replicate p (V.int 0) ++ (endsFrom p (ws.drop p)).map natV)) → H6 wa = some (.lst ((S ws p).reverse.map natV)) → D.nx [some (.ref a), some (.ref fo), some (.ref wa), some (.int (p : Int)), some (.int (e : Int))] H6) →
          tSeq (tAsg (tVar 4) (gSub (tVar 1) (tVar 3) rSetL)) (tDrop (tBM K "list" rAppend (tVar 2) (tCons (tVar 4) tNil))) D [some (.ref a), some (.ref fo), some (.ref wa), some (.int (p : Int)), some (.int (e : Int))] H5 := by
        intro H5 e r D y3 s5 ef5 ew5 hS hr60 hD
        refine ⟨_, rfl, _, rfl, _, rfl, fo, _, (p : Int), p, rfl, rfl, ef5, ?_, ?_⟩
        · rw [List.length_append, List.length_replicate, hlenE]
          unfold ixN
          rw [if_pos (by omega), if_pos (by omega), Int.toNat_natCast]
        rw [rep_set]
        generalize eH6 : upd H5 fo (.lst (List.replicate p (V.int 0) ++ V.int (e : Int) :: (endsFrom (p + 1) (ws.drop (p + 1))).map natV)) = H6
        obtain ⟨e6, f6⟩ := mut_f eH6
        have ew6 : H6 wa = some (.lst (r.reverse.map natV)) := by rw [f6 wa nfw.symm]; exact ew5
        refine ⟨_, rfl, .inl ⟨rfl, _, SqL.h ew6⟩, _, rfl, wa, _, _, rfl, rfl, ew6, ?_, ?_⟩
        · rw [List.length_map, List.length_reverse]
          exact lt60 (by omega)
        generalize eH7 : upd H6 wa (.lst (r.reverse.map natV ++ [V.int (e : Int)])) = H7
        obtain ⟨e7, f7⟩ := mut_f eH7
        refine hD H7 ((s5.mut nf0 f6).mut nw0 f7) ?_ ?_
        · rw [f7 fo nfw, e6, hT]
          have : E ws p = e := by unfold E; rw [hS]; rfl
          rw [this]
          rfl
        · rw [e7, hS, List.reverse_cons, List.map_append]
          rfl
      have hSlen : ∀ j, (S ws j).length ≤ 60 := fun j => by
        obtain ⟨m, hm⟩ := hp.wf.drop j
        have q1 := stk_len j hm
        unfold S
        rw [q1]
        have : ∀ {ws : List W} {n : Nat}, Wf ws n → n ≤ ws.length := by
          intro ws n h
          induction h with
          | nil => exact Nat.le_refl _
          | name _ _ ih => simp only [List.length_cons]; omega
          | take _ _ _ ih => simp only [List.length_cons]; omega
          | use _ ih => simp only [List.length_cons]; omega
        have := this hm
        rw [List.length_drop] at this
        omega
      refine ⟨_, rfl, _, _, rfl, rfl, ?_⟩
      refine ⟨_, rfl, _, rfl, a, us, _, x, rfl, rfl, SqT.h ea4, (by rw [eplace]; exact atI_nat hx), _, _, wu4.dp, .str _, wu4.shaped, str_shaped use_strOk, ?_⟩
      rw [wu4.eqv_use, eplace]
      cases u with
      | use =>
        obtain ⟨c, e, r, h1, h2⟩ := use_two hp.wf eu
        rw [h1] at ew
        have hl1 := hSlen (p + 1)
        rw [h1] at hl1
        simp only [List.length_cons] at hl1
        refine ⟨true, rfl, iteT ?_⟩
        -- waiting.pop(); end = waiting.pop()
        have e1 : ((c :: e :: r).reverse.map natV) = (r.reverse.map natV ++ [natV e]) ++ [natV c] := by simp
        rw [e1] at ew
        refine ⟨_, rfl, .inl ⟨rfl, _, SqL.h ew⟩, wa, _, _, rfl, rfl, ew, pop_last _ _, ?_⟩
        rw [List.dropLast_concat]
        generalize eH5 : upd H4 wa (.lst (r.reverse.map natV ++ [natV e])) = H5
        obtain ⟨e5, f5⟩ := mut_f eH5
        refine ⟨_, rfl, .inl ⟨rfl, _, SqL.h e5⟩, wa, _, _, rfl, rfl, e5, pop_last _ _, ?_⟩
        rw [List.dropLast_concat]
        generalize eH6 : upd H5 wa (.lst (r.reverse.map natV)) = H6
        obtain ⟨e6, f6⟩ := mut_f eH6
        refine fin H6 e r _ none ((s4.mut nw0 f5).mut nw0 f6) (by rw [f6 fo nfw, f5 fo nfw]; exact ef) e6 h2 (by omega) fun H7 s7 ef7 ew7 => ?_
        exact ⟨_, _, rfl, s7, ef7, ew7⟩
      | take s k =>
        have h1 := S_take eu
        have h2 := S_cons hp.wf hpl
        have hl1 := hSlen p
        rw [h2] at hl1
        simp only [List.length_cons] at hl1
        rw [← h1, h2] at ew
        have e1 : ((E ws p :: (S ws p).tail).reverse.map natV) = (S ws p).tail.reverse.map natV ++ [natV (E ws p)] := by simp
        rw [e1] at ew
        refine ⟨false, rfl, iteF ?_⟩
        refine ⟨_, rfl, _, rfl, a, us, (p : Int), x, rfl, rfl, SqT.h ea4, atI_nat hx, x, _, rfl, wu4, true, rfl, iteT ?_⟩
        refine ⟨_, rfl, .inl ⟨rfl, _, SqL.h ew⟩, wa, _, _, rfl, rfl, ew, pop_last _ _, ?_⟩
        rw [List.dropLast_concat]
        generalize eH5 : upd H4 wa (.lst ((S ws p).tail.reverse.map natV)) = H5
        obtain ⟨e5, f5⟩ := mut_f eH5
        refine fin H5 (E ws p) _ _ none (s4.mut nw0 f5) (by rw [f5 fo nfw]; exact ef) e5 h2 (by omega) fun H7 s7 ef7 ew7 => ?_
        exact ⟨_, _, rfl, s7, ef7, ew7⟩
      | name s =>
        have h1 := S_name eu
        have hl1 := hSlen (p + 1)
        refine ⟨false, rfl, iteF ?_⟩
        refine ⟨_, rfl, _, rfl, a, us, (p : Int), x, rfl, rfl, SqT.h ea4, atI_nat hx, x, _, rfl, wu4, false, rfl, iteF ?_⟩
        refine fin H4 (p + 1) _ _ none s4 ef ew h1 (by omega) fun H7 s7 ef7 ew7 => ?_
        exact ⟨_, _, rfl, s7, ef7, ew7⟩
    · rintro σ H4 ⟨y3, y4, rfl, s4, ef, ew⟩
      rw [Nat.sub_self] at ef
      exact ⟨_, rfl, q _ fo s4 nf0 ef⟩
end
end K8
namespace K8
open PySem PySem.Spec PyProof.Rows L2
/-! ### the takes that are open, as they lie -/
/-- (name, end) of the take at `a` -/
def OtV (ws : List W) (H : Hp) (v : V) (a : Nat) : Prop := ∃ p s k, v = .ref p ∧ H p = some (.tup [.str s, natV (E ws a)]) ∧ ws[a]? = some (.take s k)
theorem OtV.mono {ws : List W} {H H' : Hp} (t : Tups H H') {v : V} {a : Nat} (h : OtV ws H v a) : OtV ws H' v a := by
  obtain ⟨p, s, k, e, ep, hk⟩ := h
  exact ⟨p, s, k, e, t _ _ ep, hk⟩
structure TkSt (ws : List W) (H0 H : Hp) (fo ad ot : Addr) (kvs : List (Key × V)) (l : List Nat) (tvs : List V) : Prop where
  same : Same H0 H
  nf : H0 fo = none
  na : H0 ad = none
  no : H0 ot = none
  fo_ot : fo ≠ ot
  fo_ad : fo ≠ ad
  d : H ad = some (.dK kvs)
  o : H ot = some (.lst tvs)
  tv : Paired (OtV ws H) tvs l
  arN : ∀ s, valV kvs (Sum.inr s) = none → ofName ws s l = []
  arS : ∀ s v, valV kvs (Sum.inr s) = some v → ∃ b, v = .ref b ∧ H0 b = none ∧ H b = some (.lst ((ofName ws s l).map natV)) ∧ b ≠ fo ∧ b ≠ ot
  inj : ∀ s t b, valV kvs (Sum.inr s) = some (.ref b) → valV kvs (Sum.inr t) = some (.ref b) → s = t
section
variable {ws : List W} {H0 H H1 H2 H3 : Hp} {fo ad ot : Addr} {kvs : List (Key × V)} {l : List Nat} {tvs : List V}
theorem tups_but {H H1 : Hp} {q : Addr} {xs : List V} (hq : H q = some (.lst xs)) (f : ∀ b o, b ≠ q → H b = some o → H1 b = some o) : Tups H H1 := fun p ys e => f p _ (ne_of e hq (by intro z; cases z)) e
theorem tups_butK {H H1 : Hp} {q : Addr} {xs : List (Key × V)} (hq : H q = some (.dK xs)) (f : ∀ b o, b ≠ q → H b = some o → H1 b = some o) : Tups H H1 := fun p ys e => f p _ (ne_of e hq (by intro z; cases z)) e
theorem but_of {H H1 : Hp} {q : Addr} (f : ∀ b, b ≠ q → H1 b = H b) : ∀ b o, b ≠ q → H b = some o → H1 b = some o := fun b o hb e => by rw [f b hb]; exact e
/-- new objects, or found changed -/
theorem TkSt.other (st : TkSt ws H0 H fo ad ot kvs l tvs) {xs : List V} (hfo : H fo = some (.lst xs)) (sm : Same H0 H1) (f : ∀ b o, b ≠ fo → H b = some o → H1 b = some o) : TkSt ws H0 H1 fo ad ot kvs l tvs := by
  have t := tups_but hfo f
  refine ⟨sm, st.nf, st.na, st.no, st.fo_ot, st.fo_ad, f _ _ (Ne.symm st.fo_ad) st.d, f _ _ (Ne.symm st.fo_ot) st.o, pd_imp (fun _ _ r => r.mono t) st.tv, st.arN, fun s v e => ?_, st.inj⟩
  obtain ⟨b, e1, e2, e3, e4, e5⟩ := st.arS s v e
  exact ⟨b, e1, e2, f _ _ e4 e3, e4, e5⟩
/-- the last open take goes: from open_takes (H1), then from the list of its name (H2) -/
theorem TkSt.pop {a : Nat} {s : Str} {k : Kd} {b : Addr} {us : List V} {v : V} (st : TkSt ws H0 H fo ad ot kvs (l ++ [a]) (us ++ [v])) (hk : ws[a]? = some (.take s k)) (hv : valV kvs (Sum.inr s) = some (.ref b))
    (e1 : H1 ot = some (.lst us)) (f1 : ∀ x, x ≠ ot → H1 x = H x) (e2 : H2 b = some (.lst ((ofName ws s l).map natV))) (f2 : ∀ x, x ≠ b → H2 x = H1 x) : TkSt ws H0 H2 fo ad ot kvs l us := by
  obtain ⟨b', eb, n0, hb, nf, no⟩ := st.arS s _ hv
  have eb' : b = b' := V.ref.inj eb
  subst eb'
  have hot := st.o
  have t1 : Tups H H1 := tups_but hot (but_of f1)
  have hb1 : H1 b = some (.lst ((ofName ws s (l ++ [a])).map natV)) := by rw [f1 b no]; exact hb
  have t2 : Tups H1 H2 := tups_but hb1 (but_of f2)
  have nad_ot : ad ≠ ot := ne_of st.d hot (by intro z; cases z)
  have nad_b : ad ≠ b := ne_of st.d hb (by intro z; cases z)
  obtain ⟨l', a', e, tv, _⟩ := pd_snoc st.tv
  have el := List.append_inj' e rfl
  rw [← el.1] at tv
  refine ⟨(st.same.mut st.no f1).mut n0 f2, st.nf, st.na, st.no, st.fo_ot, st.fo_ad, ?_, ?_, pd_imp (fun _ _ r => (r.mono t1).mono t2) tv, fun t ht => ?_, fun t x ht => ?_, st.inj⟩
  · rw [f2 _ nad_b, f1 _ nad_ot]; exact st.d
  · rw [f2 _ (Ne.symm no)]; exact e1
  · have ne : s ≠ t := fun z => by rw [z, ht] at hv; cases hv
    have := st.arN t ht
    rw [ofName_append_other hk ne] at this
    exact this
  · obtain ⟨c, ec, c0, hc, cf, co⟩ := st.arS t x ht
    by_cases e : s = t
    · subst e
      rw [hv] at ht
      have ecb : b = c := by
        have := Option.some.inj ht
        rw [ec] at this
        exact V.ref.inj this
      exact ⟨b, by rw [ec, ← ecb], n0, e2, nf, no⟩
    · have ncb : c ≠ b := fun z => e (st.inj s t b hv (by rw [ht, ec, z]))
      refine ⟨c, ec, c0, ?_, cf, co⟩
      rw [f2 _ ncb, f1 _ co, hc, ofName_append_other hk e]
/-- a take begins: the list of its name is made anew at q (put into the dict), its pair goes to open_takes -/
theorem TkSt.push {a : Nat} {s : Str} {k : Kd} {q T : Addr} (st : TkSt ws H0 H fo ad ot kvs l tvs) (hk : ws[a]? = some (.take s k)) (n0 : H0 q = none) (hq : H q = some (.lst ((ofName ws s l ++ [a]).map natV))) (hT : H T = some (.tup [.str s, natV (E ws a)]))
    (nq : ∀ t v, valV kvs (Sum.inr t) = some v → v ≠ .ref q) (qf : q ≠ fo) (qo : q ≠ ot)
    (e1 : H1 ad = some (.dK (putK kvs (Sum.inr s) (.ref q)))) (f1 : ∀ x, x ≠ ad → H1 x = H x) (e2 : H2 ot = some (.lst (tvs ++ [.ref T]))) (f2 : ∀ x, x ≠ ot → H2 x = H1 x) :
    TkSt ws H0 H2 fo ad ot (putK kvs (Sum.inr s) (.ref q)) (l ++ [a]) (tvs ++ [.ref T]) := by
  have hot := st.o
  have nad_ot : ad ≠ ot := ne_of st.d hot (by intro z; cases z)
  have t1 : Tups H H1 := tups_butK st.d (but_of f1)
  have hot1 : H1 ot = some (.lst tvs) := by rw [f1 _ (Ne.symm nad_ot)]; exact hot
  have t2 : Tups H1 H2 := tups_but hot1 (but_of f2)
  have nqa : q ≠ ad := ne_of hq st.d (by intro z; cases z)
  refine ⟨(st.same.mut st.na f1).mut st.no f2, st.nf, st.na, st.no, st.fo_ot, st.fo_ad, ?_, e2, pd_app (pd_imp (fun _ _ r => (r.mono t1).mono t2) st.tv) (.cons ⟨T, s, k, rfl, t2 _ _ (t1 _ _ hT), hk⟩ .nil), fun t ht => ?_, fun t x ht => ?_, fun t u b ht hu => ?_⟩
  · rw [f2 _ nad_ot]; exact e1
  · rw [valV_put] at ht
    by_cases e : (Sum.inr t : Key) = Sum.inr s
    · rw [if_pos e] at ht; cases ht
    · rw [if_neg e] at ht
      rw [ofName_append_other hk fun z => e (by rw [z])]
      exact st.arN t ht
  · rw [valV_put] at ht
    by_cases e : (Sum.inr t : Key) = Sum.inr s
    · rw [if_pos e] at ht
      have et : t = s := Sum.inr.inj e
      subst et
      have ex : V.ref q = x := Option.some.inj ht
      refine ⟨q, ex.symm, n0, ?_, qf, qo⟩
      rw [f2 _ qo, f1 _ nqa, hq, ofName_append_same hk]
    · rw [if_neg e] at ht
      obtain ⟨c, ec, c0, hc, cf, co⟩ := st.arS t x ht
      have nca : c ≠ ad := ne_of hc st.d (by intro z; cases z)
      refine ⟨c, ec, c0, ?_, cf, co⟩
      rw [f2 _ co, f1 _ nca, hc, ofName_append_other hk fun z => e (by rw [z])]
  · rw [valV_put] at ht hu
    by_cases e : (Sum.inr t : Key) = Sum.inr s
    · by_cases e2 : (Sum.inr u : Key) = Sum.inr s
      · exact Sum.inr.inj (e.trans e2.symm)
      · rw [if_pos e] at ht
        rw [if_neg e2] at hu
        have := Option.some.inj ht
        exact absurd this.symm (nq u _ hu)
    · rw [if_neg e] at ht
      by_cases e2 : (Sum.inr u : Key) = Sum.inr s
      · rw [if_pos e2] at hu
        have := Option.some.inj hu
        exact absurd this.symm (nq t _ ht)
      · rw [if_neg e2] at hu
        exact st.inj t u b ht hu
end
theorem ofName_len {ws : List W} {s : Str} {l : List Nat} : (ofName ws s l).length ≤ l.length := List.length_filter_le _ _
theorem opn_len (ws : List W) (p : Nat) : (opn ws p).length ≤ p := by
  unfold opn
  have := List.length_filter_le (fun a => ((ws[a]?.map Wd.isTake).getD false) && decide (p ≤ E ws a)) (List.range p)
  rw [List.length_range] at this
  exact this
theorem owners_take {ws : List W} {i : Nat} (h : i < ws.length) : (owners ws).take (i + 1) = (owners ws).take i ++ [owner ws i] := by
  rw [List.take_add_one, owners_at h]
  rfl
theorem set_last {α : Type} (xs : List α) (y z : α) : (xs ++ [y]).set xs.length z = xs ++ [z] := by
  rw [List.set_append_right _ _ (Nat.le_refl _), Nat.sub_self]
  rfl
theorem opn_zero (ws : List W) : opn ws 0 = [] := rfl
section
variable {P : Program} {w : World} {K : PySem.W.Frag} {mg : Str → Option Value} {base : Heap} {f : Addr} {fd : FuncData}
/-! ### takers_of -/
abbrev s_takers_of : Stmt := topS 42
abbrev Ntakers_of : List Str := ["words", "ends", "found", "around", "open_takes", "place", "word"]
theorem sc_takers_of : FnScope Ntakers_of ["words"] (defScope s_takers_of) := ⟨rfl, rfl, rfl, by decide +kernel, rfl, by decide +kernel, by decide +kernel⟩
def sp_takers_of : Sp := fun vs H Q _ => ∃ a ws, vs = [.ref a] ∧ PgV H a ws ∧ ∀ H' p, Same H H' → H p = none → H' p = some (.lst ((owners ws).map optV)) → Q (.ref p) H'
theorem ok_takers_of (T : Txt mg) (c_is_take : Cl P w K mg base "is_take" 1 ["word"] sp_is_take) (c_ends_of : Cl P w K mg base "ends_of" 2 ["words"] sp_ends_of) (F : Fun K "takers_of" "takers_of" s_takers_of f fd) :
    FnOk P w K mg base CX0 3 f fd ["words"] sp_takers_of := by
  have nd := sc_takers_of.nd
  refine F.ok sc_takers_of (fun vs H Q Ex h => ?_) (fun cdv A outer s H vs Q Ex hr h => ?_)
  · obtain ⟨v, u, rfl, _⟩ := h
    rfl
  · obtain ⟨a, ws, rfl, hp, q⟩ := h
    have hu := hu_of hr
    have hu64 := hu64_of hr
    refine ⟨_, pss_cons (ps_set (i := 1) nd rfl (Or.inl rfl) (pe_cl c_ends_of hr (by omega) (pa_cons (pv 0) pa_nil)))
    (pss_cons (ps_set (i := 2) nd rfl (Or.inl rfl) (pe_lst pa_nil))
    (pss_cons (ps_set (i := 3) nd rfl (Or.inl rfl) pe_dnewK)
    (pss_cons (ps_set (i := 4) nd rfl (Or.inl rfl) (pe_lst pa_nil))
    (pss_cons (ps_for PassesOwn.never rfl (pi_enumT (by rfl) T.enumerate (pa_cons (pv 0) pa_nil)) (pg_tup rfl (pgs_cons (pg_name (i := 5) nd rfl (Or.inl rfl)) (pgs_cons (pg_name (i := 6) nd rfl (Or.inl rfl)) pgs_nil)))
      (pss_cons (ps_while PassesOwn.never (PW.pt (pw_and (pt_cmpR op_gt (pe_callB call_len_seq (by rfl) T.len (by decide +kernel) (pa_cons (pv 4) pa_nil)) pe_int (nomark _)) (pw_and1 (pt_cmpR op_le (pe_ix ix_tup (pe_ix ix_list (pv 4) (pe_un un_neg pe_int) (fun _ _ => rfl)) pe_int (fun _ _ => rfl)) (pv 5) (nomark _))))) (pss_one (ps_expr (pe_bm0 PySem.F.plainAttrs_list PySem.F.slot_list_pop PySem.F.type_list_pop mt_pop (pe_dget hu (pv 3) (pe_ix ix_tup (pe_bm0 PySem.F.plainAttrs_list PySem.F.slot_list_pop PySem.F.type_list_pop mt_pop (pv 4)) pe_int (fun _ _ => rfl)) (fun _ _ => rfl))))))
      (pss_cons (ps_expr (pe_bm PySem.F.plainAttrs_list PySem.F.slot_list_append PySem.F.type_list_append mt_append (pv 2) (pa_cons pe_non pa_nil)))
      (pss_one (ps_if (pt_val (pe_cl c_is_take hr (by omega) (pa_cons (pv 6) pa_nil))) (pss_cons (ps_dput hu (pv 3) (pe_ix ix_tup (pv 6) pe_int (fun _ _ => rfl)) (pe_op op_cat (pe_dget2 hu (pv 3) (pe_ix ix_tup (pv 6) pe_int (fun _ _ => rfl)) (pe_lst pa_nil) ⟨rfl, rfl, rfl, rfl⟩) (pe_lst (pa_cons (pv 5) pa_nil))) rfl)
        (pss_one (ps_expr (pe_bm PySem.F.plainAttrs_list PySem.F.slot_list_append PySem.F.type_list_append mt_append (pv 4) (pa_cons (pe_tup (pa_cons (pe_ix ix_tup (pv 6) pe_int (fun _ _ => rfl)) (pa_cons (pe_ix ix_list (pv 1) (pv 5) (fun _ _ => rfl)) pa_nil))) pa_nil))))) (pss_one (ps_if (PW.pt (pw_and (pt_cmpR (op_neD hu64) (pv 6) (pe_gs T.cUSE) (nomark _)) (pw_and1 (pt_cmpR op_gt (pe_callB call_len_seq (by rfl) T.len (by decide +kernel) (pa_cons (pe_dget2 hu (pv 3) (pv 6) (pe_lst pa_nil) ⟨rfl, rfl, rfl, rfl⟩) pa_nil)) pe_int (nomark _))))) (pss_one (ps_asg (pe_ix ix_list (pe_dget hu (pv 3) (pv 6) (fun _ _ => rfl)) (pe_un un_neg pe_int) (fun _ _ => rfl)) (pg_sub (pv 2) (pv 5) set_list))) pss_nil)))))))
    (pss_one (ps_ret (pv 2))))))), ?_⟩
    obtain ⟨us, ea, hw⟩ := hp.at_
    have hlen : us.length = ws.length := Paired.length hw
    have h60 := hp.len
    -- ends = ends_of(words); found = []; around = {}; open_takes = []
    refine ⟨_, rfl, a, ws, rfl, hp, fun H1 eo s1 neo e1 => ?_⟩
    refine ⟨Nat.zero_le _, fun fo nfo => ?_⟩
    generalize eH2 : upd H1 fo (.lst []) = H2
    obtain ⟨s2, e2, f2⟩ := new_f nfo eH2
    refine fun ad nad => ?_
    generalize eH3 : upd H2 ad (.dK []) = H3
    obtain ⟨s3, e3, f3⟩ := new_f nad eH3
    refine ⟨Nat.zero_le _, fun ot notk => ?_⟩
    generalize eH4 : upd H3 ot (.lst []) = H4
    obtain ⟨s4, e4, f4⟩ := new_f notk eH4
    have s24 : Same H2 H4 := s3.trans s4
    have s14 : Same H1 H4 := s2.trans s24
    have na0 : H1 ad = none := s2.free nad
    have no0 : H1 ot = none := (s2.trans s3).free notk
    have nf0 : H1 fo = none := nfo
    have hfo_ot : fo ≠ ot := ne_of_none (s3 _ _ e2) notk
    have hfo_ad : fo ≠ ad := ne_of_none e2 nad
    refine ⟨_, rfl, a, us, rfl, SqT.h (s14 _ _ (s1 _ _ ea)), for_it (walk_enumT (K := K) (a := a) (xs := us)) (fun i σ H' => ∃ (kvs : List (Key × V)) (tvs : List V) (y5 y6 : Option V), σ = [some (.ref a), some (.ref eo), some (.ref fo), some (.ref ad), some (.ref ot), y5, y6] ∧
      TkSt ws H1 H' fo ad ot kvs (opn ws i) tvs ∧ kvs.length ≤ i ∧ H' fo = some (.lst (((owners ws).take i).map optV))) ?_ ?_ ?_ ?_⟩
    · refine ⟨[], [], none, none, rfl, ⟨s14, nf0, na0, no0, hfo_ot, hfo_ad, s4 _ _ e3, e4, ?_, fun _ _ => ?_, fun s v e => ?_, fun s t b e => ?_⟩, Nat.le_refl _, ?_⟩
      · rw [opn_zero]; exact .nil
      · rw [opn_zero]; rfl
      · cases e
      · cases e
      · exact s24 _ _ e2
    · rintro i σ H' hi ⟨kvs, tvs, y5, y6, _, st, _, _⟩
      exact SqT.h (st.same _ _ (s1 _ _ ea))
    · rintro i x σ H5 H6 hi ⟨kvs, tvs, y5, y6, rfl, st, hkl, hf⟩ ⟨Tp, x1, x, rfl, nT, eH6, ex1, hx⟩
      have ex1' := Option.some.inj ex1
      subst ex1'
      obtain ⟨u, eu, wu⟩ := pd_at_left hw hx
      have hpl : i < ws.length := (List.getElem?_eq_some_iff.mp eu).1
      obtain ⟨s6, e6, f6⟩ := new_f nT eH6.symm
      have st6 : TkSt ws H1 H6 fo ad ot kvs (opn ws i) tvs := st.other hf (st.same.trans s6) (fun b o _ e => s6 b o e)
      have hf6 := s6 _ _ hf
      refine ⟨Tp, _, rfl, SqT.h e6, rfl, _, _, rfl, _, _, rfl, rfl, ?_⟩
      -- the while
      refine ⟨fun m σ' H' => ∃ (l : List Nat) (tvs : List V), σ' = [some (.ref a), some (.ref eo), some (.ref fo), some (.ref ad), some (.ref ot), some (.int (i : Int)), some x] ∧ TkSt ws H1 H' fo ad ot kvs l tvs ∧ l <+: opn ws i ∧ (∀ a ∈ opq ws i, a ∈ l) ∧ m = l.length ∧
        H' fo = some (.lst (((owners ws).take i).map optV)), ⟨_, _, _, rfl, st6, List.prefix_refl _, fun b hb => ?_, rfl, hf6⟩, ?_⟩
      · obtain ⟨h1, h2, h3⟩ := mem_opq.mp hb
        exact mem_opn.mpr ⟨h1, h2, by omega⟩
      rintro m σ' H7 ⟨l, tvs, rfl, st7, hpre, hall, rfl, hf7⟩
      have hll : l.length ≤ i := Nat.le_trans hpre.length_le (opn_len ws i)
      -- behind the while
      have after : l = opq ws i → ∀ D : Ends, (∀ σ' H' kvs' tvs' y5 y6, σ' = [some (.ref a), some (.ref eo), some (.ref fo), some (.ref ad), some (.ref ot), y5, y6] → TkSt ws H1 H' fo ad ot kvs' (opn ws (i + 1)) tvs' → kvs'.length ≤ i + 1 → H' fo = some (.lst (((owners ws).take (i + 1)).map optV)) → D.nx σ' H') →
          tSeq (tDrop (tBM K "list" rAppend (tVar 2) (tCons (tC .non) tNil)))
            (tIfS (tB (tCl sp_is_take (tCons (tVar 6) tNil)))
              (tSeq (sDPut (tVar 3) (tOp (rIxT K) (tVar 6) (tC (.int 0))) (tOp rCat (tDGet2 (tVar 3) (tOp (rIxT K) (tVar 6) (tC (.int 0))) (tLst tNil)) (tLst (tCons (tVar 5) tNil))))
                (tDrop (tBM K "list" rAppend (tVar 4) (tCons (tTup (tCons (tOp (rIxT K) (tVar 6) (tC (.int 0))) (tCons (tOp (rIxL K) (tVar 1) (tVar 5)) tNil))) tNil))))
              (tIfS (tAnd (tTest (tOp (rNeD K) (tVar 6) (tC (.str "@")))) (tTest (tOp (rI0 fun i j => .bl (decide (j < i))) (tCB (fun xs H Q => ∃ p ys, xs = [.ref p] ∧ (SqL K H p ys ∨ SqT K H p ys) ∧ Q (.int ys.length) H) (tCons (tDGet2 (tVar 3) (tVar 6) (tLst tNil)) tNil)) (tC (.int 0)))))
                (tAsg (tOp (rIxL K) (tDGet (tVar 3) (tVar 6)) (tUn (rU fun i => .int (-i)) (tC (.int 1)))) (gSub (tVar 2) (tVar 5) rSetL)) tNext)) D
            [some (.ref a), some (.ref eo), some (.ref fo), some (.ref ad), some (.ref ot), some (.int (i : Int)), some x] H7 := by
        intro el D hD
        rw [el] at st7
        have htl : ((owners ws).take i).length = i := by rw [List.length_take, owners_len]; omega
        -- found.append(None)
        refine ⟨_, rfl, .inl ⟨rfl, _, SqL.h hf7⟩, fo, _, _, rfl, rfl, hf7, ?_, ?_⟩
        · rw [List.length_map, htl]; exact lt60 (by omega)
        generalize eH8 : upd H7 fo (.lst (((owners ws).take i).map optV ++ [V.non])) = H8
        obtain ⟨e8, f8⟩ := mut_f eH8
        have st8 : TkSt ws H1 H8 fo ad ot kvs (opq ws i) tvs := st7.other hf7 (st7.same.mut st7.nf f8) (but_of f8)
        have wu8 : WdV H8 x u := wu.mono (Tups.trans (s1.tups) st8.same.tups)
        have hol : (opq ws i).length ≤ 60 := by rw [← el]; omega
        refine ⟨_, rfl, x, u, rfl, wu8, _, rfl, ?_⟩
        cases u with
        | take s k =>
          obtain ⟨p, xk, rfl, ep, hn, hk, hdk⟩ := wu8
          have hown : owner ws i = none := owner_notname fun t => by rw [eu]; intro z; cases z
          have eE : (ends ws)[i]? = some (E ws i) := ends_E hpl
          refine iteT ?_
          -- around.get(word[0], [])
          refine ⟨_, rfl, ad, rfl, .inl ⟨_, .inl st8.d⟩, _, rfl, p, _, 0, .str s, rfl, rfl, SqT.h ep, rfl, Nat.zero_le _, fun em nem => ?_⟩
          generalize eH9 : upd H8 em (.lst []) = H9
          obtain ⟨s9, e9, f9⟩ := new_f nem eH9
          have st9 : TkSt ws H1 H9 fo ad ot kvs (opq ws i) tvs := st8.other e8 (st8.same.trans s9) (fun b o _ e => s9 b o e)
          refine ⟨_, DGet.k (k := Sum.inr s) st9.d, ?_⟩
          have hold : ∃ b, (valV kvs (Sum.inr s)).getD (.ref em) = .ref b ∧ H9 b = some (.lst ((ofName ws s (opq ws i)).map natV)) := by
            cases ev : valV kvs (Sum.inr s : Key) with
            | none =>
              refine ⟨em, rfl, ?_⟩
              rw [st9.arN s ev]
              exact e9
            | some v =>
              obtain ⟨b, eb, _, hb, _, _⟩ := st9.arS s v ev
              exact ⟨b, eb, hb⟩
          obtain ⟨b, eb, hb⟩ := hold
          rw [eb]
          -- + [place]
          refine ⟨_, rfl, by show 1 ≤ sizeLine; decide, fun op nop => ?_⟩
          generalize eH10 : upd H9 op (.lst [V.int (i : Int)]) = H10
          obtain ⟨s10, e10, f10⟩ := new_f nop eH10
          refine ⟨b, op, _, _, rfl, rfl, s10 _ _ hb, e10, ?_, fun nq nnq => ?_⟩
          · rw [List.length_map, List.length_singleton]
            have := ofName_len (ws := ws) (s := s) (l := opq ws i)
            exact le60 (by omega)
          generalize eH11 : upd H10 nq (.lst ((ofName ws s (opq ws i)).map natV ++ [V.int (i : Int)])) = H11
          obtain ⟨s11, e11, f11⟩ := new_f nnq eH11
          have s8_11 : Same H8 H11 := (s9.trans s10).trans s11
          have st11 : TkSt ws H1 H11 fo ad ot kvs (opq ws i) tvs := st8.other e8 (st8.same.trans s8_11) (fun b o _ e => s8_11 b o e)
          have hfo11 := s8_11 _ _ e8
          have n0 : H1 nq = none := (st8.same.trans (s9.trans s10)).free nnq
          -- around[word[0]] = ..
          refine ⟨_, rfl, _, rfl, p, _, 0, .str s, rfl, rfl, SqT.h (s8_11 _ _ ep), rfl, ad, _, rfl, DPut.k (k := Sum.inr s) st11.d (lt60 (by omega)), ?_⟩
          generalize eH12 : upd H11 ad (.dK (putK kvs (Sum.inr s) (.ref nq))) = H12
          obtain ⟨e12, f12⟩ := mut_f eH12
          have nad_ot : ad ≠ ot := ne_of st11.d st11.o (by intro z; cases z)
          have hot12 : H12 ot = some (.lst tvs) := by rw [f12 _ (Ne.symm nad_ot)]; exact st11.o
          have np : p ≠ ad := ne_of (s8_11 _ _ ep) st11.d (by intro z; cases z)
          have neo_ad : eo ≠ ad := ne_of_none e1 na0
          have he12 : H12 eo = some (.lst ((ends ws).map natV)) := by rw [f12 _ neo_ad]; exact st11.same _ _ e1
          -- open_takes.append((word[0], ends[place]))
          refine ⟨_, rfl, .inl ⟨rfl, _, SqL.h hot12⟩, _, rfl, p, _, 0, .str s, rfl, rfl, SqT.h (by rw [f12 _ np]; exact s8_11 _ _ ep), rfl, _, rfl, _, rfl, eo, _, _, natV (E ws i), rfl, rfl, SqL.h he12, atI_nat (by rw [List.getElem?_map, eE]; rfl), (by show 2 ≤ sizeLine; decide), fun TT nTT => ?_⟩
          generalize eH13 : upd H12 TT (.tup [V.str s, natV (E ws i)]) = H13
          obtain ⟨s13, e13, f13⟩ := new_f nTT eH13
          refine ⟨ot, tvs, _, rfl, rfl, s13 _ _ hot12, ?_, ?_⟩
          · have := Paired.length st8.tv
            exact lt60 (by omega)
          generalize eH14 : upd H13 ot (.lst (tvs ++ [.ref TT])) = H14
          obtain ⟨e14, f14⟩ := mut_f eH14
          -- put together: as if TT stood ahead of the dict's store
          have nTT11 : H11 TT = none := by
            by_cases e : TT = ad
            · rw [e, e12] at nTT; cases nTT
            · rw [f12 _ e] at nTT; exact nTT
          have nTTad : TT ≠ ad := fun e => by rw [e, e12] at nTT; cases nTT
          let G := upd H11 TT (.tup [V.str s, natV (E ws i)])
          have sG : Same H11 G := same_new _ nTT11
          have stG : TkSt ws H1 G fo ad ot kvs (opq ws i) tvs := st11.other hfo11 (st11.same.trans sG) (fun b o _ e => sG b o e)
          have nTTot : TT ≠ ot := fun e => by rw [e, hot12] at nTT; cases nTT
          have e1G : H13 ad = some (.dK (putK kvs (Sum.inr s) (.ref nq))) := s13 _ _ e12
          have f1G : ∀ y, y ≠ ad → H13 y = G y := fun y hy => by
            by_cases e : y = TT
            · subst e; rw [e13]; exact (upd_same (H := H11)).symm
            · rw [f13 y e, f12 y hy]; exact (upd_ne (H := H11) e).symm
          have nqf : nq ≠ fo := fun e => by rw [e, (s9.trans s10) _ _ e8] at nnq; cases nnq
          have nqo : nq ≠ ot := fun e => by rw [e, (s9.trans s10) _ _ st8.o] at nnq; cases nnq
          have st14 := TkSt.push stG eu n0 (sG _ _ (by rw [e11, List.map_append]; rfl)) upd_same (fun t v ht z => by
            obtain ⟨c, ec, _, hc, _, _⟩ := st8.arS t v ht
            rw [ec] at z
            have zz := V.ref.inj z
            rw [zz] at hc
            rw [(s9.trans s10) _ _ hc] at nnq
            cases nnq) nqf nqo e1G f1G e14 f14
          refine hD _ H14 _ _ _ _ rfl (by rw [opn_succ_take hp.wf eu]; exact st14) ?_ ?_
          · have := length_putK kvs (Sum.inr s) (V.ref nq)
            omega
          · have nfo_ad := st8.fo_ad
            rw [f14 _ st8.fo_ot, s13 _ _ (show H12 fo = _ by rw [f12 _ nfo_ad]; exact hfo11), owners_take hpl, hown, List.map_append]
            rfl
        | use =>
          have ev : x = .str "@" := wu8
          subst ev
          have hown : owner ws i = none := owner_notname fun t => by rw [eu]; intro z; cases z
          refine iteF ?_
          refine ⟨_, rfl, .str "@", .str "@", .str _, .str _, str_shaped use_strOk, str_shaped use_strOk, false, by simp [PyData.eqv], iteF (iteF ?_)⟩
          refine hD _ H8 _ _ _ _ rfl (by rw [opn_succ_other (fun s k => by rw [eu]; intro z; cases z)]; exact st8) (by omega) ?_
          rw [e8, owners_take hpl, hown, List.map_append]
          rfl
        | name s =>
          obtain ⟨rfl, hn⟩ := wu8
          have hne := name_ne_use hn
          refine iteF ?_
          refine ⟨_, rfl, .str s, .str "@", .str _, .str _, str_shaped (nameOk_strOk hn), str_shaped use_strOk, true, by simp [PyData.eqv, hne], iteT ?_⟩
          have hown : owner ws i = (ofName ws s (opq ws i)).getLast? := owner_last eu
          refine ⟨_, rfl, ad, rfl, .inl ⟨_, .inl st8.d⟩, _, rfl, Nat.zero_le _, fun em nem => ?_⟩
          generalize eH9 : upd H8 em (.lst []) = H9
          obtain ⟨s9, e9, f9⟩ := new_f nem eH9
          have st9 : TkSt ws H1 H9 fo ad ot kvs (opq ws i) tvs := st8.other e8 (st8.same.trans s9) (fun b o _ e => s9 b o e)
          have hf9 := s9 _ _ e8
          refine ⟨_, DGet.k (k := Sum.inr s) st9.d, ?_⟩
          have hold : ∃ b, (valV kvs (Sum.inr s)).getD (.ref em) = .ref b ∧ H9 b = some (.lst ((ofName ws s (opq ws i)).map natV)) := by
            cases ev : valV kvs (Sum.inr s : Key) with
            | none =>
              refine ⟨em, rfl, ?_⟩
              rw [st9.arN s ev]
              exact e9
            | some v =>
              obtain ⟨b, eb, _, hb, _, _⟩ := st9.arS s v ev
              exact ⟨b, eb, hb⟩
          obtain ⟨b, eb, hb⟩ := hold
          rw [eb]
          refine ⟨b, _, rfl, .inl (SqL.h hb), _, _, rfl, rfl, _, rfl, ?_⟩
          have hoth : opn ws (i + 1) = opq ws i := opn_succ_other (fun s k => by rw [eu]; intro z; cases z)
          refine ite2 (fun c => ?_) (fun c => ?_)
          · have c' : (0 : Int) < ((((ofName ws s (opq ws i)).map natV).length : Nat) : Int) := of_decide_eq_true c
            rw [List.length_map] at c'
            have hne2 : ofName ws s (opq ws i) ≠ [] := fun z => by rw [z] at c'; simp at c'
            obtain ⟨lo, la, ela⟩ := snoc_of _ hne2
            -- found[place] = around[word][-1]
            cases ev : valV kvs (Sum.inr s : Key) with
            | none => exact absurd (st9.arN s ev) hne2
            | some v =>
              obtain ⟨b2, rfl, _, hb2, nbf, _⟩ := st9.arS s v ev
              rw [ela, List.map_append] at hb2
              refine ⟨_, rfl, _, rfl, ad, .ref b2, rfl, (by have := DGet.k (k := Sum.inr s) st9.d; rw [ev] at this; exact this), 1, rfl, b2, _, -1, natV la, rfl, rfl, SqL.h hb2, atI_last _ _, ?_⟩
              refine ⟨_, rfl, _, rfl, fo, _, (i : Int), i, rfl, rfl, hf9, ?_, ?_⟩
              · unfold ixN
                rw [List.length_append, List.length_map, htl, List.length_singleton, if_pos (by omega), if_pos (by omega), Int.toNat_natCast]
              have eset : (((owners ws).take i).map optV ++ [V.non]).set i (natV la) = ((owners ws).take (i + 1)).map optV := by
                have e0 := set_last (((owners ws).take i).map optV) V.non (natV la)
                rw [List.length_map, htl] at e0
                rw [e0, owners_take hpl, hown, ela, show (lo ++ [la]).getLast? = some la by simp, List.map_append]
                rfl
              rw [eset]
              generalize eH10 : upd H9 fo (.lst (((owners ws).take (i + 1)).map optV)) = H10
              obtain ⟨e10, f10⟩ := mut_f eH10
              exact hD _ H10 _ _ _ _ rfl (by rw [hoth]; exact st9.other hf9 (st9.same.mut st9.nf f10) (but_of f10)) (by omega) e10
          · have c' : ¬ (0 : Int) < ((((ofName ws s (opq ws i)).map natV).length : Nat) : Int) := fun z => c (decide_eq_true z)
            rw [List.length_map] at c'
            have hnil : ofName ws s (opq ws i) = [] := List.eq_nil_of_length_eq_zero (by omega)
            refine hD _ H9 _ _ _ _ rfl (by rw [hoth]; exact st9) (by omega) ?_
            rw [hf9, owners_take hpl, hown, hnil, List.map_append]
            rfl
      -- the while's test
      have htl2 := Paired.length st7.tv
      refine ⟨_, rfl, ot, tvs, rfl, .inl (SqL.h st7.o), _, _, rfl, rfl, _, rfl, ?_⟩
      refine ite2 (fun c => ?_) (fun c => ?_)
      · have c' : (0 : Int) < ((tvs.length : Nat) : Int) := of_decide_eq_true c
        have hne : tvs ≠ [] := by rintro rfl; simp at c'
        obtain ⟨us', v, rfl⟩ := snoc_of tvs hne
        obtain ⟨l', al, rfl, htv, hv⟩ := pd_snoc st7.tv
        obtain ⟨pt, sn, kk, rfl, ept, hkk⟩ := hv
        refine ⟨_, rfl, 1, rfl, ot, _, -1, _, rfl, rfl, SqL.h st7.o, atI_last _ _, pt, _, 1, natV (E ws al), rfl, rfl, SqT.h ept, rfl, _, rfl, _, _, rfl, rfl, _, rfl, ?_⟩
        by_cases cE : E ws al ≤ i
        · rw [decide_eq_true (show ((E ws al : Nat) : Int) ≤ (i : Int) by omega)]
          refine ⟨fun σ' H' => ∃ m', m' < (l' ++ [al]).length ∧ ∃ (l : List Nat) (tvs : List V), σ' = [some (.ref a), some (.ref eo), some (.ref fo), some (.ref ad), some (.ref ot), some (.int (i : Int)), some x] ∧ TkSt ws H1 H' fo ad ot kvs l tvs ∧ l <+: opn ws i ∧ (∀ a ∈ opq ws i, a ∈ l) ∧ m' = l.length ∧
            H' fo = some (.lst (((owners ws).take i).map optV)), fun σ' H' h => h, ?_⟩
          -- around[open_takes.pop()[0]].pop()
          refine ⟨_, rfl, _, rfl, .inl ⟨rfl, _, SqL.h st7.o⟩, ot, _, _, rfl, rfl, st7.o, pop_last _ _, ?_⟩
          rw [List.dropLast_concat]
          generalize eH8 : upd H7 ot (.lst us') = H8
          obtain ⟨e8, f8⟩ := mut_f eH8
          have npt : pt ≠ ot := ne_of ept st7.o (by intro z; cases z)
          have nad_ot : ad ≠ ot := ne_of st7.d st7.o (by intro z; cases z)
          have hd8 : H8 ad = some (.dK kvs) := by rw [f8 _ nad_ot]; exact st7.d
          have hin : al ∈ ofName ws sn (l' ++ [al]) := mem_ofName.mpr ⟨by simp, kk, hkk⟩
          cases ev : valV kvs (Sum.inr sn : Key) with
          | none => rw [st7.arN sn ev] at hin; cases hin
          | some v =>
            obtain ⟨b, rfl, b0, hb, nbf, nbo⟩ := st7.arS sn v ev
            rw [ofName_append_same hkk, List.map_append] at hb
            have hb8 : H8 b = some (.lst ((ofName ws sn l').map natV ++ [natV al])) := by rw [f8 _ nbo]; exact hb
            refine ⟨pt, _, 0, .str sn, rfl, rfl, SqT.h (by rw [f8 _ npt]; exact ept), rfl, ad, .ref b, rfl, (by have := DGet.k (k := Sum.inr sn) hd8; rw [ev] at this; exact this), .inl ⟨rfl, _, SqL.h hb8⟩, b, _, _, rfl, rfl, hb8, pop_last _ _, ?_⟩
            rw [List.dropLast_concat]
            generalize eH9 : upd H8 b (.lst ((ofName ws sn l').map natV)) = H9
            obtain ⟨e9, f9⟩ := mut_f eH9
            have st9 := TkSt.pop st7 hkk ev e8 f8 e9 f9
            refine ⟨l'.length, by simp, l', us', rfl, st9, List.IsPrefix.trans (List.prefix_append l' [al]) hpre, opq_pop hall cE, rfl, ?_⟩
            rw [f9 _ (Ne.symm nbf), f8 _ st7.fo_ot]
            exact hf7
        · rw [decide_eq_false (show ¬ ((E ws al : Nat) : Int) ≤ (i : Int) by omega)]
          refine after (opq_of_prefix hp.wf (by omega) hpre hall (.inr ⟨al, by simp, by omega⟩)) _ fun σ' H' kvs' tvs' y5 y6 e st' hk' hf' => ?_
          exact ⟨kvs', tvs', y5, y6, e, st', hk', hf'⟩
      · have c' : ¬ (0 : Int) < ((tvs.length : Nat) : Int) := fun z => c (decide_eq_true z)
        have hnil : l = [] := List.eq_nil_of_length_eq_zero (by omega)
        refine after (opq_of_prefix hp.wf (by omega) hpre hall (.inl hnil)) _ fun σ' H' kvs' tvs' y5 y6 e st' hk' hf' => ?_
        exact ⟨kvs', tvs', y5, y6, e, st', hk', hf'⟩
    · rintro σ H' ⟨kvs, tvs, y5, y6, rfl, st, hkl, hf⟩
      rw [hlen] at hf
      have e : (owners ws).take ws.length = owners ws := List.take_of_length_le (by rw [owners_len]; exact Nat.le_refl _)
      rw [e] at hf
      exact ⟨_, rfl, q _ fo (s1.trans st.same) (s1.free st.nf) hf⟩
end
end K8
/-! KR2: rules: plain tuples (tuple(list), slice, +), dict(tuple of pairs), list(text), list.count, y = {dict comprehension}, sorted(set(tuple of ints)) -/
namespace K8
open PySem PySem.Spec PyProof.Rows L2
/-- a tuple that is known to have no dict -/
def PlT (H : Hp) (p : Addr) (xs : List V) : Prop := ∃ o, H p = some (.frz o (.tup xs)) ∧ o.dict = none
theorem PlT.sq {K : PySem.W.Frag} {H : Hp} {p : Addr} {xs : List V} (h : PlT H p xs) : SqT K H p xs := by
  obtain ⟨o, e, _⟩ := h
  exact .inl (.inr ⟨o, e⟩)
theorem PlT.mono {H H' : Hp} {p : Addr} {xs : List V} (h : PlT H p xs) (s : Same H H') : PlT H' p xs := by
  obtain ⟨o, e, d⟩ := h
  exact ⟨o, s _ _ e, d⟩
section
variable {X : Cx}
/-- what a new plain tuple gives -/
def newP (xs : List V) (H : Hp) (Q : VK) : Prop := ∀ p o, H p = none → o.dict = none → Q (.ref p) (upd H p (.frz o (.tup xs)))
theorem plt_new {H : Hp} {p : Addr} {o : Obj} {xs : List V} (hd : o.dict = none) : PlT (upd H p (.frz o (.tup xs))) p xs := ⟨o, upd_same, hd⟩
theorem plt_laid {pins : List (Addr × Obj)} {σ : L2.St} {H : Hp} {s : Shared} {xs : List V} {its : List Value} {Q : VK} (I : Inv X pins σ H s) (r : Vals xs its) (hz : xs.length ≤ sizeLine) (q : newP xs H Q) :
    EP X pins σ Q (.ref s.heap.objs.size) { s with heap := s.heap.push { cls := .type "tuple", data := .seq its.toArray } } := by
  refine ⟨.ref s.heap.objs.size, _, I.laid (t' := s.toks) (o := .frz { cls := .type "tuple", data := .seq its.toArray } (.tup xs)) (fun b ob e => Heap.get?_push_of_some _ e) (Nat.le_refl _) ?_, rfl, q _ _ (I.hok.fresh (Nat.le_refl _)) rfl⟩
  exact ⟨Heap.get?_push_size _ rfl, hz, its, r, IsTup.new _ _⟩
theorem call_tupleP : CallR X (.type "tuple") (fun xs H Q => ∃ p ys, xs = [.ref p] ∧ SqL X.K H p ys ∧ newP ys H Q) := by
  intro pins s σ H xs us Q I r h
  obtain ⟨p, ys, rfl, hq, q⟩ := h
  obtain ⟨u, rfl, rx⟩ := vals1 r
  cases rx
  obtain ⟨its, r', pl, hz⟩ := I.list hq
  have hlen := r'.length
  refine call_tuple_list pl.isList (fun h' kp => ?_) (by simp only [List.size_toArray] <;> omega)
  have I1 : Inv X pins σ H { s with heap := h' } := I.kept (t' := s.toks) kp
  exact plt_laid (s := { s with heap := h' }) I1 r' hz q
theorem sl_tupP : SlR X (fun x lo hi H Q => ∃ a xs, x = .ref a ∧ SqT X.K H a xs ∧
    (HT.sIx xs.length 0 lo = 0 ∧ HT.sIx xs.length xs.length hi = xs.length → Q (.ref a) H) ∧ (¬ (HT.sIx xs.length 0 lo = 0 ∧ HT.sIx xs.length xs.length hi = xs.length) → newP (cutV xs lo hi) H Q)) := by
  intro pins s σ H x v vl vu lo hi sl Q I rx hs pl pu h
  obtain ⟨a, xs, rfl, hx, q1, q2⟩ := h
  cases rx
  obtain ⟨its, r, ht, hz⟩ := I.tuple hx
  have hlen : its.toArray.size = xs.length := by rw [List.size_toArray]; exact r.length.symm
  by_cases hw : HT.sIx xs.length 0 lo = 0 ∧ HT.sIx xs.length xs.length hi = xs.length
  · refine ⟨"tuple", _, PyProof.Rows.slot_tuple_getitem.lookup, ht.typeIs, ?_⟩
    exact getItem_tuple_whole ht hs pl pu (by rw [hlen]; exact hw) ⟨.ref a, H, I, rfl, q1 hw⟩
  · refine ⟨"tuple", _, PyProof.Rows.slot_tuple_getitem.lookup, ht.typeIs, ?_⟩
    refine HT.getItem_tuple_cut ht hs pl pu (by rw [hlen]; exact hw) ?_ (by rw [hlen]; exact hz)
    rw [hlen]
    exact plt_laid I ((r.drop (HT.sIx xs.length 0 lo)).take (HT.sIx xs.length xs.length hi - HT.sIx xs.length 0 lo)) (Nat.le_trans (cutV_length xs lo hi) hz) (q2 hw)
theorem op_catP : OpR X (binaryOp .Add) (fun x y H Q => ∃ a b xs ys, x = .ref a ∧ y = .ref b ∧ SqT X.K H a xs ∧ SqT X.K H b ys ∧ xs.length + ys.length ≤ sizeLine ∧
    (xs = [] → Q (.ref b) H) ∧ (xs ≠ [] → ys = [] → Q (.ref a) H) ∧ (xs ≠ [] → ys ≠ [] → newP (xs ++ ys) H Q)) := by
  intro pins s σ H x y v u Q I rx ry h
  obtain ⟨a, b, xs, ys, rfl, rfl, ha, hb, hz, q0, q1, q2⟩ := h
  cases rx
  cases ry
  obtain ⟨its, r1, p1, _⟩ := I.tuple ha
  obtain ⟨its2, r2, p2, _⟩ := I.tuple hb
  by_cases hx : xs = []
  · subst hx
    cases r1
    exact cat_tup0 p1 p2 ⟨.ref b, H, I, rfl, q0 rfl⟩
  · refine HT.cat_tup p1 p2 (fun z => hx (r1.nil_iff.mp z)) (fun z => ⟨.ref a, H, I, rfl, q1 hx (r2.nil_iff.mp z)⟩) (fun z => ?_) (by rw [← r1.length, ← r2.length]; exact hz)
    exact plt_laid I (r1.append r2) (by rw [List.length_append]; exact hz) (q2 hx fun w => z (r2.nil_iff.mpr w))
/-- dict(t), t a plain tuple of pairs -/
theorem call_dictPT (hcalm : X.calm = true) : CallR X (.type "dict") (fun xs H Q => ∃ (a : Addr) (ps : List Addr) (kvs : List (Key × V)), xs = [.ref a] ∧ PlT H a (ps.map V.ref) ∧ Paired (fun p kv => SqT X.K H p [kV kv.1, kv.2]) ps kvs ∧
    ∀ p, H p = none → Q (.ref p) (upd H p (.dK (mergeK [] kvs)))) := by
  intro pins s σ H xs us Q I r q
  obtain ⟨a, ps, kvs, ex, hq, hp, q⟩ := q
  subst ex
  obtain ⟨u, eu, rx⟩ := vals1 r
  subst eu
  cases rx
  obtain ⟨o, ho, hdn⟩ := hq
  obtain ⟨hg, hz, its, rv, ht⟩ := (show ObjOk X.prog X.w H s.heap a (.frz o (.tup (ps.map V.ref))) from I.hok a _ ho)
  have ei := refs_at rv
  subst ei
  rw [List.length_map] at hz
  obtain ⟨prs, rel, hl, hpr⟩ := pairs_of I hp
  obtain ⟨o2, ho2, hc, n, hdat⟩ := ht
  rw [hg] at ho2
  cases ho2
  have ez : (prs.map Prod.snd).length = prs.length := List.length_map _
  -- the raw pairs
  let raw : List (Value × Value) := (List.range prs.length).map fun j => (((ps[j]?).bind fun b => (s.heap.get? b).bind fun ob => match ob.data with | .seq xs _ => xs[0]? | _ => none).getD .none, ((prs[j]?).map Prod.snd).getD .none)
  have hraw : ∀ j k v, raw[j]? = some (k, v) → ∃ (b : Addr) (q : Key × Value), ps[j]? = some b ∧ prs[j]? = some q ∧ v = q.2 ∧ IsTup s.heap b #[k, q.2] ∧ keyIs q.1 k = true := fun j k v e => by
    have hj : j < prs.length := by
      have := (List.getElem?_eq_some_iff.mp e).1
      rw [List.length_map, List.length_range] at this
      exact this
    obtain ⟨b, u, e1, e2, e3⟩ := hpr j prs[j] (List.getElem?_eq_getElem hj)
    have e' : raw[j]? = some (((((ps[j]?).bind fun b => (s.heap.get? b).bind fun ob => match ob.data with | .seq xs _ => xs[0]? | _ => none).getD .none), ((prs[j]?).map Prod.snd).getD .none) : Value × Value) := by
      show ((List.range prs.length).map _)[j]? = _
      rw [List.getElem?_map, List.getElem?_range hj]
      rfl
    obtain ⟨ob, hob, _, n2, hdd⟩ := id e2
    rw [e1, List.getElem?_eq_getElem hj] at e'
    simp only [Option.bind_some, hob, hdd, Option.map_some, Option.getD_some] at e'
    rw [e'] at e
    have e5 : ((#[u, prs[j].2] : Array Value)[0]?).getD .none = k ∧ prs[j].2 = v := by
      have := Option.some.inj e
      exact ⟨congrArg Prod.fst this, congrArg Prod.snd this⟩
    have eu : u = k := by simpa using e5.1
    subst eu
    exact ⟨b, prs[j], e1, List.getElem?_eq_getElem hj, e5.2.symm, e2, e3⟩
  have hrl : raw.length = prs.length := by
    show ((List.range prs.length).map _).length = _
    rw [List.length_map, List.length_range]
  refine PySem.call_dict_pairs (knd := mixKind X.prog X.w) (kvs := prs) (A := X.A) (PairArg.tuple (prog := X.prog) (w := X.w) a (ps.map Value.ref).toArray (fun j => ps.getD j 0) raw) (I.ok.hd hcalm) ?_ ?_ ?_ ?_
  · refine ⟨⟨o, n, hg, hc, hdn, hdat⟩, by rw [List.size_toArray, List.length_map, hrl, hl], fun j k v e => ?_⟩
    obtain ⟨b, q, e1, e2, e3, e4, e5⟩ := hraw j k v e
    have eb : ps.getD j 0 = b := by rw [List.getD_eq_getElem?_getD, e1]; rfl
    subst e3
    show (List.map Value.ref ps).toArray[j]? = some (Value.ref (ps.getD j 0)) ∧ PairAt s.heap (ps.getD j 0) k q.2
    rw [eb]
    exact ⟨by simp [e1], .inl e4⟩
  · refine ⟨hrl.symm, fun j k v e => ?_⟩
    obtain ⟨b, q, e1, e2, e3, e4, e5⟩ := hraw j k v e
    subst e3
    exact ⟨q.1, e2, e5⟩
  · rw [hrl, hl]; exact hz
  · intro h' tk hd' k
    have hm : (s.heap.objs.size == sysModules) = false := beq_eq_false_iff_ne.mpr (Nat.ne_of_gt I.big)
    have hlen : (mergeK [] kvs).length ≤ sizeLine := by
      refine Nat.le_trans (length_mergeK kvs []) ?_
      rw [List.length_nil, Nat.zero_add, rel.length, hl]
      exact hz
    exact ⟨.ref s.heap.objs.size, upd H s.heap.objs.size (.dK (mergeK [] kvs)), I.laid (t' := tk) (fun b o e => k b o (by simp) e) (Nat.le_refl _) (show ObjOk X.prog X.w _ _ _ (.dK (mergeK [] kvs)) from ⟨hlen, hm, merged [] prs, KV.merge rel .nil, hd'⟩), rfl, q _ (I.hok.fresh (Nat.le_refl _))⟩
/-- list(text) -/
theorem vals_signs {z : Str} {acc : List Value} (h : ItemsOf (SignAt z) acc.toArray z.cps.size) : Vals (z.cps.toList.map fun c => V.str ⟨#[c]⟩) acc := by
  have hl : acc.length = z.cps.size := by have := h.1; simpa using this
  have gen : ∀ (cs : List Nat) (us : List Value), us.length = cs.length → (∀ (j : Nat) (u : Value), us[j]? = some u → ∃ (c : Nat) (t : Tok), cs[j]? = some c ∧ u = Value.str ⟨#[c]⟩ t) → Vals (cs.map fun c => V.str ⟨#[c]⟩) us := by
    intro cs
    induction cs with
    | nil =>
      intro us hl _
      cases us with
      | nil => exact .nil
      | cons _ _ => cases hl
    | cons c cs ih =>
      intro us hl hv
      cases us with
      | nil => cases hl
      | cons u us =>
        refine .cons ?_ (ih us (by simpa using hl) fun j u e => by simpa using hv (j + 1) u (by simpa using e))
        obtain ⟨c', t, e1, e2⟩ := hv 0 u rfl
        have e1' : c = c' := by simpa using e1
        subst e1'
        exact ⟨t, e2⟩
  refine gen _ _ (by rw [hl, Array.length_toList]) fun j u e => ?_
  obtain ⟨c, t, hc, rfl⟩ := h.2 j u (by simpa using e)
  exact ⟨c, t, by rw [Array.getElem?_toList]; exact hc, rfl⟩
theorem call_listTxt (hcalm : X.calm = true) : CallR X (.type "list") (fun xs H Q => ∃ z : Str, xs = [.str z] ∧ z.cps.size ≤ sizeLine ∧ ∀ p, H p = none → Q (.ref p) (upd H p (.lst (z.cps.toList.map fun c => V.str ⟨#[c]⟩)))) := by
  intro pins s σ H xs us Q I r h
  obtain ⟨z, rfl, hz, q⟩ := h
  obtain ⟨u, rfl, t, rfl⟩ := vals1 r
  refine PySem.call_list_str (I.ok.hd hcalm) z t (fun h' tk acc' c' hk hS hacc => ?_) hz
  refine ⟨.ref s.heap.objs.size, _, I.laid (t' := tk) (o := .lst (z.cps.toList.map fun c => V.str ⟨#[c]⟩)) hk (Nat.le_refl _) ?_, rfl, q _ (I.hok.fresh (Nat.le_refl _))⟩
  refine ⟨by rw [List.length_map, Array.length_toList]; exact hz, acc'.toList, c', vals_signs (by simpa using hacc), by simpa using hS⟩
/-- list.count of a flat value in a list of flat values -/
theorem countP_eqU {x : V} : ∀ {xs : List V} {us : List Value}, Vals xs us → xs.all flatV = true → us.countP (eqU x) = xs.countP fun y => eqV y x
  | _, _, .nil, _ => rfl
  | _, _, .cons r t, f => by
    rw [List.all_cons, Bool.and_eq_true] at f
    rw [List.countP_cons, List.countP_cons, eqU_of r f.1, countP_eqU t f.2]
theorem mt_countV : MtR X "list.count" (fun x xs H Q => ∃ (p : Addr) (ys : List V) (y : V), x = .ref p ∧ xs = [y] ∧ SqL X.K H p ys ∧ ys.all flatV = true ∧ flatV y = true ∧ Q (.int (ys.countP fun z => eqV z y : Nat)) H) := by
  intro pins s σ H x xs v us Q I rx rxs h
  obtain ⟨p, ys, y, rfl, rfl, hs, fys, fy, q⟩ := h
  cases rx
  obtain ⟨u, rfl, ru⟩ := rxs.one
  obtain ⟨its, rv, ⟨⟨cls, dd, data, sl⟩, n, ho, hc, hdn, hd⟩, hlen⟩ := I.list hs
  simp only at hc hd
  subst hc hd
  refine call_meets PySem.F.slot_list_count ⟨_, ho, rfl⟩ PySem.F.entry_list_count (PySem.F.args_list_count_2 _ _)
    (SeqAt.list_countAt p its.toArray n dd sl u (eqU y)) ⟨ho, fun w hw => mem_eqAt ru fy rv fys w (by simpa using hw), ?_⟩
  have ec : its.toArray.toList.countP (eqU y) = ys.countP fun z => eqV z y := countP_eqU rv fys
  refine ⟨.int (ys.countP fun z => eqV z y : Nat), H, I.tok _, ⟨s.toks, ?_⟩, q⟩
  show Value.int ((its.toArray.toList.countP (eqU y) : Nat) : Int) s.toks = Value.int ((ys.countP fun z => eqV z y : Nat) : Int) s.toks
  rw [ec]
/-! ### y = {k: v for ..} -/
theorem sw_trueD {kx vx : Expr} {gs : List Comprehension} {scope : Scope} {pos py : Pos} {y : Str} {l : Nat} {env : Env} (hk : env.scope.kind = .function) (hy : env.scope.names.lookup y = some .local) (hl : (py.line == pos.line) = true)
    (ha : (scope.names.any fun (n, k) => n == y && (k == .local || k == .cell)) = false) : swapsWith (.DictComp kx vx gs scope pos) (some (.Name y py)) l env = pure true := by
  have ky : env.kindOf y = some .local := hy
  have hb : env.blockKind = .function := by unfold Env.blockKind; rw [hk]; rfl
  unfold swapsWith
  simp only [hb, ky, ha, Expr.pos, hl]
  rfl
theorem ps_setDc {i : Nat} {y : Str} {py : Pos} {kx vx tg iter : Expr} {ifs : List Expr} {scope : Scope} {own : List (Str × Nat)} {pos spos : Pos} {wi : TI} {g : TG} {tt : TT} {tk tv : TE} (hc : X.calm = true) (hN : X.N.Nodup) (hy : X.N[i]? = some y) (hyl : X.env.scope.names.lookup y = some .local)
    (hsw : swapsWith (.DictComp kx vx [⟨tg, iter, ifs, 0⟩] scope pos) (some (.Name y py)) spos.line X.env = pure true) (hi : PI X tg iter wi) (ok : BlkOk X.N X.env.scope scope own)
    (hg : ∀ (s : Shared) (H : Hp) (C : Addr) (cl : List (Str × Addr)) (fp : List Addr), PG (X.blk s H scope (compEnvC scope cl C X.env) fp) tg g) (ht : ∀ (s : Shared) (H : Hp) (C : Addr) (cl : List (Str × Addr)) (fp : List Addr), PTs (X.blk s H scope (compEnvC scope cl C X.env) fp) ifs tt)
    (hk : ∀ (s : Shared) (H : Hp) (C : Addr) (cl : List (Str × Addr)) (fp : List Addr), PE (X.blk s H scope (compEnvC scope cl C X.env) fp) kx tk)
    (he : ∀ (s : Shared) (H : Hp) (C : Addr) (cl : List (Str × Addr)) (fp : List Addr), PE (X.blk s H scope (compEnvC scope cl C X.env) fp) vx tv) (hs : ∀ x, foldedSetIterable iter X.env x = pure x := by intro _; rfl) :
    PS X (.Assign [.Name y py] (.DictComp kx vx [⟨tg, iter, ifs, 0⟩] scope pos) spos) (tAsg (tDc wi g tt tk tv (own.map (·.2))) (gName i)) := by
  refine ⟨fun pins s σ H D I h => ?_⟩
  rw [exec_Assign_Name_used _ _ _ _ hsw]
  refine wpAny_bind (wpAny_standAt (wpAny_bind ?_))
  show wpAny _ X.A (do let _ ← comprehension (.DictComp kx vx [⟨tg, iter, ifs, 0⟩] scope pos) scope X.env (firstIterPos [⟨tg, iter, ifs, 0⟩] pos) newDict false (eval iter X.env) (some (assign (.Name y py) X.env))) _ _ s
  have h : tDc wi g tt tk tv (own.map (·.2)) σ H (fun x H1 => gName i x σ H1 D.nx) := h
  refine wpAny_bind (thn (dc_core (Qf := fun _ s' => SP X pins D .next s') hc hN I hi ok hg ht hk he hs h fun L C s' m H' I' q hn f => ?_) fun _ s' hq => wpAny_pure (wpAny_pure hq))
  show wpAny _ _ (assign (.Name y py) X.env (.ref L)) _ _ _
  refine wpAny_assign_Name (store_ok2 (v := V.ref L) I' hN hy (.inl hyl) rfl (fun s2 I2 ⟨a, sb, ha⟩ => ?_) (.inr hyl))
  obtain ⟨f0, f1, f2, f3, f4, f5⟩ := f
  have haC : C ≠ a := by
    rcases ha with z | z
    · rw [z]; exact f1
    · exact fun e => f4 y a z e.symm
  refine ⟨m, hn.sameBut sb haC, fun h3 sb3 => ?_⟩
  exact ⟨_, H', I2.turned (t' := s2.toks) (fun b o hb e => (sb3.2 b hb).trans e) f0 f1 f3 f4 f5, q⟩
end
/-- a dict comprehension over a walk -/
theorem dc_it {J : It} {n : Nat} {G : Hp → Prop} {Y : Nat → Hp → V → Hp → Prop} (w : Walk J n G Y) {g : TG} {tt : TT} {tk tv : TE} {vs : List Nat} {σ : L2.St} {H1 : Hp} {D : Addr} {Qd : Hp → Prop} (Pv : Nat → Hp → Prop) (h0 : Pv 0 (upd H1 D (.dK []))) (hG : ∀ i H, i ≤ n → Pv i H → G H)
    (hs : ∀ i x H H', i < n → Pv i H → Y i H x H' → g x (wipe σ vs) H' fun σ2 H2 => wipe σ2 vs = wipe σ vs ∧ tt σ2 H2 fun b H3 =>
      if b = true then tk σ2 H3 fun y H4 => tv σ2 H4 fun z H5 => ∃ kvs k, y = kV k ∧ H5 D = some (.dK kvs) ∧ kvs.length < sizeLine ∧ Pv (i + 1) (upd H5 D (.dK (putK kvs k z))) else Pv (i + 1) H3) (hd : ∀ H, Pv n H → Qd H) :
    ∃ W : Nat → Nat → Hp → Prop, (∃ m, W 0 m (upd H1 D (.dK []))) ∧ ∀ i m H, W i m H →
      (J.stop i H ∧ Qd H) ∨ (J.go i H ∧ ∃ Nx : Hp → Prop, (∀ H', Nx H' → ∃ m', m' < m ∧ W (i + 1) m' H') ∧ ∀ x H', J.yld i H x H' → g x (wipe σ vs) H' fun σ2 H2 => wipe σ2 vs = wipe σ vs ∧ tt σ2 H2 fun b H3 =>
        if b = true then tk σ2 H3 fun y H4 => tv σ2 H4 fun z H5 => ∃ kvs k, y = kV k ∧ H5 D = some (.dK kvs) ∧ kvs.length < sizeLine ∧ Nx (upd H5 D (.dK (putK kvs k z))) else Nx H3) := by
  refine ⟨fun i m H => m = n - i ∧ i ≤ n ∧ Pv i H, ⟨n, by simp, Nat.zero_le _, h0⟩, ?_⟩
  rintro i m H ⟨rfl, hi, p⟩
  have q := hG i H hi p
  by_cases hlt : i < n
  · exact .inr ⟨w.goes i H hlt q, Pv (i + 1), fun H' p' => ⟨n - (i + 1), by omega, rfl, hlt, p'⟩, fun x H' y => hs i x H H' hlt p (w.yields i H x H' hlt q y)⟩
  · have e : i = n := by omega
    subst e
    exact .inl ⟨w.stops H q, hd H p⟩
/-! ### set(tuple of ints) -/
section
variable {X : Cx}
theorem cr_setTI (hc : X.calm = true) : CallR X (.type "set") (fun xs H Q => ∃ (a : Addr) (ns : List Int), xs = [.ref a] ∧ SqT X.K H a (ns.map V.int) ∧ ns.length < 64 ∧ ∀ p c, H p = none → c ≤ ns.length → Q (.ref p) (upd H p (SetO X.w p (fun j => decide (j ∈ ns)) c))) := by
  intro pins s σ H xs us Q I r h
  obtain ⟨a, ns, rfl, hq, h64, q⟩ := h
  rw [Vals.ref1 r]
  obtain ⟨its, rv, ht, hz⟩ := I.tuple hq
  have hb : ns.length + 1 < scanBound := by unfold scanBound; omega
  refine call_set_tupI ns (I.ok.hd hc) ht (by simpa using ints_of_vals rv) hb fun h' tk c hS hcl hk => ?_
  exact ⟨.ref s.heap.objs.size, upd H s.heap.objs.size (SetO X.w s.heap.objs.size (fun j => decide (j ∈ ns)) c), I.laid (t' := tk) hk (Nat.le_refl _) (setO_new hS), rfl, q _ c (I.hok.fresh (Nat.le_refl _)) hcl⟩
end
end K8
/-! KR3: sets of texts: set(list), len, sorted -/
namespace K8
open PySem PySem.Spec PyProof.Rows L2
/-- the set of the texts l at a -/
def SetS (P : Program) (w : World) (h : Heap) (a : Addr) (l : List Str) : Prop :=
  ∃ D : Froz.SD, h.get? a = some (Froz.sObj "set" D) ∧ Froz.TxOk P w D l ∧ l.Nodup ∧ Ris D.2.2.place.toList ∧ (w.params.followText "set-order" = true ∨ D.2.2.led = true)
theorem SetS.at {P : Program} {w : World} {h h' : Heap} {a : Addr} {l : List Str} (R : SetS P w h a l) (k : ∀ o, h.get? a = some o → h'.get? a = some o) : SetS P w h' a l := by
  obtain ⟨D, ho, r⟩ := R
  exact ⟨D, k _ ho, r⟩
theorem ris_off {t : SetTable} (h : Ris t.place.toList) : Ris (if t.plain = true then { t with plain := false } else t).place.toList := by
  split <;> exact h
theorem tailTx_ris {ep : Nat} {es1 : Array (Int × Value)} {t2 : SetTable} {wd : Bool} (r : Ris t2.place.toList) : Ris (Froz.tailTx ep es1 t2 wd).2.2.place.toList := by
  unfold Froz.tailTx
  split
  · exact relayAll_ris _ _ _
  · exact r
theorem tailTx_led {ep : Nat} {es1 : Array (Int × Value)} {t2 : SetTable} {wd : Bool} : (Froz.tailTx ep es1 t2 wd).2.2.led = t2.led := by
  unfold Froz.tailTx
  split
  · exact relayAll_led _ _ _
  · rfl
theorem addTx_ris {h : Int} {v : Value} {D : Froz.SD} (r : Ris D.2.2.place.toList) : Ris (Froz.addTx h v D).2.2.place.toList := tailTx_ris (ris_off (layNew_ris _ _ _ _ r))
theorem addTx_led {h : Int} {v : Value} {D : Froz.SD} : (Froz.addTx h v D).2.2.led = D.2.2.led := by
  have e1 := layNew_led D.2.2 D.1 h v
  have e2 : (if (layNew D.2.2 D.1 h v).2.1.plain = true then { (layNew D.2.2 D.1 h v).2.1 with plain := false } else (layNew D.2.2 D.1 h v).2.1).led = (layNew D.2.2 D.1 h v).2.1.led := by
    split <;> rfl
  unfold Froz.addTx
  rw [tailTx_led]
  exact e2.trans e1
section
variable {P : Program} {w : World} {A : Around} {E : Value → Shared → Prop} {s : Shared} {a : Addr}
theorem setS_add_hashed {l : List Str} {k : Str} {u : Tok} {Q : Bool → Shared → Prop} (R : SetS P w s.heap a l) (room : l.length + 1 < scanBound)
    (hQ : ∀ b h' l', Heap.SameBut a s.heap h' → SetS P w h' a l' → (∀ j, j ∈ l' ↔ j = k ∨ j ∈ l) → l'.length ≤ l.length + 1 → (k ∉ l → l'.length = l.length + 1) → Q b { s with heap := h' }) :
    wpAny (model P w) A (setAddHashed a (.str k u) ((PySem.strKind P w).hash k)) Q E s := by
  obtain ⟨D, ho, F, nd, hr, hl⟩ := R
  by_cases hk : k ∈ l
  · have q : ∀ b, Q b s := fun b => hQ b s.heap l (Heap.SameBut.refl a s.heap) ⟨D, ho, F, nd, hr, hl⟩ (fun j => ⟨.inr, fun z => z.elim (fun e => e ▸ hk) id⟩) (Nat.le_succ _) fun z => absurd hk z
    obtain ⟨es, ep, t⟩ := D
    have hd : (Froz.sObj "set" (es, ep, t)).data = .set es ep t := rfl
    have hel : ElemsOf (PySem.strKind P w) es.toList := F.el
    have hsz : es.size = l.length := F.sz
    have hf : t.fits es.size = true := F.fit
    have hb0 : es.size < scanBound := by omega
    have hkey : (PySem.strKind P w).is k (.str k u) = true := Froz.is_str k u
    unfold setAddHashed setAddHashedIn
    refine wpAny_holding (wpAny_bind (wpAny_setState_of ho hd hf ?_))
    dsimp only
    rw [byScan_of rfl hb0 hel]
    simp only [↓reduceIte]
    unfold setAddByScan
    refine wpAny_bind ?_
    refine wpAny_bind (wpAny_rule ?_)
    refine wpAny_bind (wpAny_setScan_of (knd := PySem.strKind P w) (k := k) hkey ho hd hf hel ?_)
    cases hfi : List.findIdx? (fun e => (PySem.strKind P w).is k e.2) es.toList with
    | some j =>
      dsimp only
      exact wpAny_pure (wpAny_pure (q _))
    | none =>
      exfalso
      obtain ⟨e, he, z⟩ := (F.mem k).mp hk
      have c := List.findIdx?_eq_none_iff.mp hfi e he
      rw [z] at c
      cases c
  · refine Froz.add_x ho F hk room ?_
    refine hQ true _ (k :: l) (Heap.SameBut.update _ a _) ⟨_, Froz.get_upd _ ho rfl, Froz.add_ok u F, List.nodup_cons.mpr ⟨hk, nd⟩, addTx_ris hr, ?_⟩ (fun j => List.mem_cons) (Nat.le_refl _) fun _ => rfl
    rw [addTx_led]
    exact hl
theorem setS_new_at {h : Heap} (ho : h.get? a = some { cls := .type "set", dict := none, data := .set #[] 0 (.fresh 0 0 (!w.params.followText "set-order")) }) : SetS P w h a [] :=
  ⟨(#[], 0, .fresh 0 0 (!w.params.followText "set-order")), ho, Froz.TxOk.nil (by rfl), List.Pairwise.nil, List.Pairwise.nil, by
    show _ ∨ (!w.params.followText "set-order") = true
    cases w.params.followText "set-order"
    · exact .inr rfl
    · exact .inl rfl⟩
/-- what stands after i items -/
def SetG (P : Program) (w : World) (h : Heap) (a : Addr) (ns : List Str) (i : Nat) : Prop := ∃ l, SetS P w h a l ∧ l.length ≤ i ∧ (∀ j, j ∈ l ↔ j ∈ ns.take i) ∧ ((ns.take i).Nodup → l.length = i)
theorem SetG.at {h h' : Heap} {ns : List Str} {i : Nat} (R : SetG P w h a ns i) (k : ∀ o, h.get? a = some o → h'.get? a = some o) : SetG P w h' a ns i := by
  obtain ⟨l, r, q⟩ := R
  exact ⟨l, r.at k, q⟩
theorem set_update_strs {I : Addr} {fp wr : List Addr} {G : Array GenState → Array GenState → Prop} {n : Nat} {Pv : Nat → Value → Prop} {St : Nat → Shared → Prop} {R : Result → Shared → Prop}
    (W : WalksS P w A.in1 I fp wr G n Pv St) (S : Addr) (hSf : S ∉ fp) (ns : List Str) (hn : n = ns.length) (hb : ns.length + 1 < scanBound) (hval : ∀ i v, Pv i v → ∃ k t, ns[i]? = some k ∧ v = .str k t) :
    ∀ (k i : Nat) (s : Shared), n - i = k → i ≤ n → St i s → SetG P w s.heap S ns i →
      (∀ s', Moved (S :: wr) G s s' → SetG P w s'.heap S ns n → R (.ok (.ret .none)) s') →
      codeAny (model P w) A (.builtin "set.update.loop" ⟨[.ref S, .ref I], []⟩) R s := by
  have hSw : S ∉ wr := fun h => hSf (W.sub _ h)
  have hsub : ∀ b ∈ wr, b ∈ S :: wr := fun b hb => List.mem_cons_of_mem _ hb
  intro k
  induction k with
  | zero =>
    intro i s hk' hi hst hS hR
    have hin : i = n := by omega
    subst hin
    refine codeAny_builtin F.entry_set_update_loop ?_
    rw [Around.under_plainId F.plain_set_update_loop _]
    show wpAny _ A.in1 (pyNext (.ref I) >>= _) _ _ s
    refine wpAny_bind (W.done s _ _ hst fun s' hm => ?_)
    show wpAny _ A.in1 (ret Value.none) _ _ s'
    exact wpAny_pure (hR s' (hm.mono hsub) (hS.at fun o e => hm.heap S o hSw e))
  | succ k ih =>
    intro i s hk' hi hst hS hR
    have hlt : i < n := by omega
    refine codeAny_builtin F.entry_set_update_loop ?_
    rw [Around.under_plainId F.plain_set_update_loop _]
    show wpAny _ A.in1 (pyNext (.ref I) >>= _) _ _ s
    refine wpAny_bind (W.item i s _ _ hlt hst fun v s' hP hst' hm => ?_)
    obtain ⟨z, t, hz, rfl⟩ := hval i v hP
    have hS' : SetG P w s'.heap S ns i := hS.at fun o e => hm.heap S o hSw e
    show wpAny _ A.in1 (holding [Value.str z t] (setAdd S (.str z t)) >>= _) _ _ s'
    refine wpAny_bind (wpAny_holding ?_)
    unfold setAdd
    refine wpAny_holding ?_
    refine wpAny_bind ((PySem.strKind P w).pyHash (k := z) (Froz.is_str _ _) ?_)
    obtain ⟨l, r, hl, hmem, hnd⟩ := hS'
    refine setS_add_hashed (s := { s' with toks := s'.toks + 1 }) r (by omega) fun b h' l' hsb r2 m2 l2 l3 => ?_
    have hS3 : SetG P w h' S ns (i + 1) := by
      refine ⟨l', r2, by omega, fun j => ?_, fun nd => ?_⟩
      · rw [m2 j, List.take_add_one, hz, hmem j]
        simp only [Option.toList_some, List.mem_append, List.mem_singleton]
        exact Or.comm
      · rw [List.take_add_one, hz, Option.toList_some, List.nodup_append] at nd
        obtain ⟨d1, _, d3⟩ := nd
        have hk : z ∉ l := fun hz2 => d3 z ((hmem z).mp hz2) z (List.mem_singleton.mpr rfl) rfl
        rw [l3 hk, hnd d1]
    refine wpAny_pure ⟨plainId_quiet F.plain_set_update_loop _, ih (i + 1) _ (by omega) hlt (W.frame _ s' _ _ hst' (Nat.le_succ _) fun b hb o e => ?_) hS3 fun s'' hm'' hS'' => ?_⟩
    · rw [hsb.2 b (fun h : b = S => hSf (by rw [← h]; exact hb))]; exact e
    · refine hR s'' (Moved.trans W.gtrans ((hm.mono hsub).then_heap (Nat.le_succ _) fun b o hb e => ?_) hm'') hS''
      rw [hsb.2 b (fun h : b = S => hb (by rw [h]; exact List.mem_cons_self))]; exact e
set_option maxHeartbeats 3200000 in
theorem call_set_listTx {L : Addr} {items : Array Value} (ns : List Str) {Q : Value → Shared → Prop} (hh : A.handled = none) (hl : s.heap.IsList L items) (hit : StrsAre items.toList ns) (hb : ns.length + 1 < scanBound)
    (h : ∀ (h' : Heap) (tk : Nat), SetG P w h' s.heap.objs.size ns ns.length → (∀ b o, s.heap.get? b = some o → h'.get? b = some o) → Q (.ref s.heap.objs.size) { s with heap := h', toks := tk }) :
    wpAny (model P w) A (call (.type "set") [.ref L]) Q E s := by
  have hisz : items.size = ns.length := by
    have q := StrsAre.len_eq hit
    rw [Array.length_toList] at q
    exact q
  obtain ⟨c, tl, hmro⟩ := F.called_set.mro
  have hmade := F.called_set.made
  have hsub := F.called_set.sub
  refine wpAny_call (codeAny_of_tree ?_)
  show wpAny _ _ (callAny (.type "set") _) _ _ _
  refine wpAny_pure ⟨Code.quiet_builtin _ (by decide +kernel), codeAny_builtin F.entry_type_call ?_⟩
  rw [Around.under_plain (weight_type_call_type "set" [.ref L] []) rfl]
  have h1 := F.called_set.notType
  have h2 := F.called_set.canCreate
  have hct := F.typeCall_set_1 (.ref L)
  repeat (any_goals (first | assumption | wp_step))
  refine codeAny_mono (code_set_led1 (.ref L) (E := E) (Q₁ := fun obj s₁ => obj = .ref s.heap.objs.size ∧ s₁ = { s with heap := s.heap.push { cls := .type "set", dict := none, data := .set #[] 0 (.fresh 0 0 (!w.params.followText "set-order")) } }) ⟨rfl, rfl⟩) fun r s₁ hr => ?_
  cases r with
  | error e => exact hr
  | ok fl =>
    cases fl with
    | ret obj =>
      obtain ⟨rfl, rfl⟩ := hr
      have hS : (s.heap.push { cls := .type "set", dict := none, data := .set #[] 0 (.fresh 0 0 (!w.params.followText "set-order")) }).get? s.heap.objs.size = some { cls := .type "set", dict := none, data := .set #[] 0 (.fresh 0 0 (!w.params.followText "set-order")) } := Heap.get?_push_size _ rfl
      have hT : Shared.TypeIs { s with heap := s.heap.push { cls := .type "set", dict := none, data := .set #[] 0 (.fresh 0 0 (!w.params.followText "set-order")) } } (.ref s.heap.objs.size) "set" := ⟨_, hS, rfl⟩
      have hli := F.called_set.init.lookup
      have hbi := F.called_set.init.bind (.ref s.heap.objs.size)
      repeat (any_goals (first | assumption | wp_step))
      refine codeAny_mono (codeAny_call_builtin (R := wants (fun r s₂ => r = .none ∧ ∃ h' tk, s₂ = { s with heap := h', toks := tk } ∧ SetG P w h' s.heap.objs.size ns ns.length ∧
          (∀ b o, s.heap.get? b = some o → h'.get? b = some o)) E) F.called_set.init.plain F.entry_set_init (check_set_init_1 hT ?_)) fun r₂ s₂ hr₂ => ?_
      · obtain ⟨ol, hol, hcl, nl, hdl⟩ := hl
        obtain ⟨ocls, odict, odata, oslots⟩ := ol
        simp only at hcl hdl
        subst hcl; subst hdl
        have hol' : (s.heap.push { cls := .type "set", dict := none, data := .set #[] 0 (.fresh 0 0 (!w.params.followText "set-order")) }).get? L = some { cls := .type "list", dict := odict, data := .seq items nl, slots := oslots } := Heap.get?_push_of_some _ hol
        have hsls := F.sub_list_set
        have hslf := F.sub_list_frozenset
        have hne : (Value.type "list" == Value.type "dict") = false := by decide
        have hl1 : (s.heap.push { cls := .type "set", dict := none, data := .set #[] 0 (.fresh 0 0 (!w.params.followText "set-order")) }).IsList L items := ⟨_, hol', rfl, nl, rfl⟩
        unfold Builtin.«set.__init__» noKeywords Builtin.Frozenset.updateFrom
        generalize hPI : pyIter = PI
        wp_walk
        subst hPI
        refine wpAny_pyIter_list hl1 ?_
        refine wpAny_bind (wpAny_runValue ?_)
        have hlS : L < s.heap.objs.size := Heap.lt_size hol
        have hh3 : A.in1.in1.in1.handled = none := by simp [hh]
        have hneI : L ≠ (s.heap.push { cls := .type "set", dict := none, data := .set #[] 0 (.fresh 0 0 (!w.params.followText "set-order")) }).objs.size := by
          rw [Heap.size_push]; exact Nat.ne_of_lt (Nat.lt_succ_of_lt hlS)
        have hSf : s.heap.objs.size ∉ [(s.heap.push { cls := .type "set", dict := none, data := .set #[] 0 (.fresh 0 0 (!w.params.followText "set-order")) }).objs.size, L] := by
          rw [Heap.size_push]; simp only [List.mem_cons, List.mem_singleton, List.not_mem_nil, or_false, not_or]
          exact ⟨Nat.ne_of_lt (Nat.lt_succ_self _), Nat.ne_of_gt hlS⟩
        have hval : ∀ (i : Nat) (v : Value), items[i]? = some v → ∃ k t, ns[i]? = some k ∧ v = .str k t := fun i v hv => by
          have hi : i < ns.length := by rw [← hisz]; exact (Array.getElem?_eq_some_iff.mp hv).1
          obtain ⟨t, e⟩ := SS.strs_at hit i v (by rw [Array.getElem?_toList]; exact hv)
          refine ⟨ns[i], t, List.getElem?_eq_getElem hi, ?_⟩
          rw [e, List.getD_eq_getElem?_getD, List.getElem?_eq_getElem hi] <;> rfl
        refine set_update_strs ((Walks.list hh3 _ L hneI items).toS) s.heap.objs.size
          hSf ns hisz hb hval (items.size - 0) 0 _ (by omega) (Nat.zero_le _)
          ⟨⟨_, Heap.get?_push_size _ rfl, rfl, rfl⟩, (hl1.push _)⟩ ?hS0 ?hR
        case hS0 =>
          have hget : ((s.heap.push { cls := .type "set", dict := none, data := .set #[] 0 (.fresh 0 0 (!w.params.followText "set-order")) }).push { cls := .type "list_iterator", data := .fields #[.ref L, .int 0 0] }).get? s.heap.objs.size
              = some { cls := .type "set", dict := none, data := .set #[] 0 (.fresh 0 0 (!w.params.followText "set-order")) } := Heap.get?_push_of_some _ hS
          exact ⟨[], setS_new_at hget, Nat.le_refl 0, fun j => Iff.rfl, fun _ => rfl⟩
        case hR =>
          intro s' hm hS'
          obtain ⟨h', g2, d', tk', os'⟩ := s'
          have eg : g2 = s.gens := hm.gens
          have ed : d' = s.drawn := hm.drawn
          have eo : os' = s.os := hm.os
          subst eg; subst ed; subst eo
          show wpAny _ _ _ _ _ _
          refine wpAny_pure ?_
          show wpAny _ _ (ret Value.none) _ _ _
          rw [hisz] at hS'
          refine wpAny_pure ⟨rfl, h', tk', rfl, hS', fun b o e => ?_⟩
          have hb0 : b < s.heap.objs.size := Heap.lt_size e
          have hb1 : b ≠ s.heap.objs.size := Nat.ne_of_lt hb0
          have hb2 : b ≠ (s.heap.push { cls := .type "set", dict := none, data := .set #[] 0 (.fresh 0 0 (!w.params.followText "set-order")) }).objs.size := by
            rw [Heap.size_push]; exact Nat.ne_of_lt (Nat.lt_succ_of_lt hb0)
          exact hm.heap b o (by simp only [List.mem_cons, List.mem_singleton, List.not_mem_nil, or_false, not_or]; exact ⟨hb1, hb2⟩) (Heap.get?_push_of_some _ (Heap.get?_push_of_some _ e))
      · cases r₂ with
        | error e => exact hr₂
        | ok fl₂ =>
          cases fl₂ with
          | ret r =>
            obtain ⟨rfl, h', tk, rfl, hS', hk'⟩ := hr₂
            repeat (any_goals (first | assumption | wp_step))
            exact h _ _ hS' hk'
          | _ => exact hr₂.elim
    | _ => exact hr.elim
theorem strs_of : ∀ (l : List Value), (∀ v ∈ l, ∃ k tk, v = Value.str k tk) → ∃ ss, StrsAre l ss ∧ ∀ k, k ∈ ss ↔ ∃ tk, Value.str k tk ∈ l
  | [], _ => ⟨[], .nil, fun k => by simp⟩
  | v :: l, h => by
    obtain ⟨k, tk, rfl⟩ := h v List.mem_cons_self
    obtain ⟨ss, r, m⟩ := strs_of l fun u hu => h u (List.mem_cons_of_mem _ hu)
    refine ⟨k :: ss, .cons k tk r, fun j => ?_⟩
    simp only [List.mem_cons, m j]
    constructor
    · rintro (e | ⟨t, e⟩)
      · exact ⟨tk, .inl (by rw [e])⟩
      · exact ⟨t, .inr e⟩
    · rintro ⟨t, e | e⟩
      · injection e with e1 _
        exact .inl e1
      · exact .inr ⟨t, e⟩
theorem is_shape {k : Str} {v : Value} (h : (PySem.strKind P w).is k v = true) : ∃ t, v = .str k t := by
  have h' : Value.isStrOf k v = true := h
  unfold Value.isStrOf at h'
  split at h' <;> simp_all
/-- sorted(set of texts) -/
theorem sorted_setTx {l : List Str} {Q : Value → Shared → Prop} (R : SetS P w s.heap a l) (hh : A.handled = none) (h64 : l.length < 64)
    (hQ : ∀ s' p (out : Array Value) (c : Nat) (ss : List Str), (∀ b o, s.heap.get? b = some o → s'.heap.get? b = some o) → s'.gens = s.gens → s'.os = s.os → s.heap.objs.size ≤ p →
      s'.heap.get? p = some (seqObj "list" out c) → StrsAre out.toList ss → (∀ k, k ∈ ss ↔ k ∈ l) → ss.length = l.length → Q (.ref p) s') :
    wpAny (model P w) A (call (.builtin "sorted") [.ref a]) Q E s := by
  obtain ⟨⟨es, ep, t⟩, ho, F, nd, hr, hl⟩ := R
  have hsz : es.size = l.length := F.sz
  refine Calls.call_function_entry kind_sorted plain_sorted entry_sorted (args_sorted1 _) ?_
  unfold Builtin.«sorted»
  refine wpAny_bind (m := checkCount "sorted" 1 1 _) (wpAny_pure ?_)
  refine wpAny_bind (collect_set (A := A.in1) hh ⟨_, ho, rfl, rfl⟩ F.fit (by have : es.size < scanBound := (by unfold scanBound; omega); exact this) hr hl fun s1 vs k1 hz g1 o1 pm => ?_)
  have hvl : vs.length = l.length := by rw [pm.length_eq, List.length_map, Array.length_toList]; exact hsz
  have hmemv : ∀ v ∈ vs, ∃ k tk, v = Value.str k tk := fun v hv => by
    obtain ⟨e, he, q⟩ := List.mem_map.mp (pm.mem_iff.mp hv)
    obtain ⟨⟨k, hk, _⟩, _⟩ := F.el e he
    obtain ⟨t, et⟩ := is_shape hk
    exact ⟨k, t, by rw [← q]; exact et⟩
  obtain ⟨ss, hS, hm⟩ := strs_of vs hmemv
  have hml : ∀ k, k ∈ ss ↔ k ∈ l := fun k => by
    rw [hm k, F.mem k]
    constructor
    · rintro ⟨tk, h⟩
      obtain ⟨e, he, q⟩ := List.mem_map.mp (pm.mem_iff.mp h)
      exact ⟨e, he, by rw [q]; exact Froz.is_str k tk⟩
    · rintro ⟨e, he, q⟩
      obtain ⟨t, et⟩ := is_shape q
      exact ⟨t, pm.mem_iff.mpr (List.mem_map.mpr ⟨e, he, et⟩)⟩
  refine wpAny_bind (wpAny_newList ?_ (by rw [hvl, sizeLine_eq]; omega))
  have hoL : (s1.heap.push (seqObj "list" vs.toArray 0)).get? s1.heap.objs.size = some (seqObj "list" vs.toArray 0) := Heap.get?_push_size _ rfl
  refine wpAny_bind (wpAny_holding (wpAny_call_entry slot_list_sort ⟨_, hoL, rfl⟩ entry_list_sort
    (list_sort_treeK PyProof.Rows.strKind_oneLt hoL hS.keysOf (fun v₁ v₂ rest e => keyKind_strs (by rw [← e]; exact hS)) (by rw [hvl]; exact h64) fun st' hp hs => ⟨_, rfl, ?_⟩) (args_list_sort _)))
  obtain ⟨ss', a1, a2, a3⟩ := sorted_out_str hS hp hs
  obtain ⟨c, hc⟩ := sortedHeap_at (vs := vs) (out := (arrOf st').map (·.2)) hoL
  refine wpAny_pure ⟨_, rfl, hQ _ s1.heap.objs.size _ c ss' (fun b u e => ?_) g1 o1 hz hc a1 (fun k => by rw [a2.mem_iff, hml k]) ?_⟩
  · have q := k1 b u e
    have hlt := Heap.lt_size q
    show (sortedHeap (s1.heap.push (seqObj "list" vs.toArray 0)) s1.heap.objs.size vs _).get? b = some u
    rw [sortedHeap_old (Nat.ne_of_lt hlt) (by rw [size_push']; exact Nat.lt_succ_of_lt hlt)]
    exact Heap.get?_push_of_some _ q
  · rw [a2.length_eq, ← StrsAre.len_eq hS, hvl]
end
/-- the set of texts, tracked -/
def SetSO (P : Program) (w : World) (a : Addr) (l : List Str) : HO := .ext fun h => SetS P w h a l
section
variable {X : Cx}
theorem setSO_new {w : World} {P : Program} {H : Hp} {h : Heap} {a : Addr} {l : List Str} (R : SetS P w h a l) : ObjOk P w H h a (SetSO P w a l) := by
  have ⟨_, ho, _⟩ := R
  exact ⟨R, ⟨_, ho⟩, fun h1 h2 p k => SetS.at p k⟩
/-- set(list of texts) -/
theorem cr_setTx (hc : X.calm = true) : CallR X (.type "set") (fun xs H Q => ∃ (a : Addr) (ns : List Str), xs = [.ref a] ∧ SqL X.K H a (ns.map V.str) ∧ ns.length < 1000 ∧
    ∀ p l, H p = none → l.length ≤ ns.length → (∀ j, j ∈ l ↔ j ∈ ns) → (ns.Nodup → l.length = ns.length) → Q (.ref p) (upd H p (SetSO X.prog X.w p l))) := by
  intro pins s σ H xs us Q I r h
  obtain ⟨a, ns, rfl, hq, h64, q⟩ := h
  rw [Vals.ref1 r]
  obtain ⟨its, rv, pl, hz⟩ := I.list hq
  have hb : ns.length + 1 < scanBound := by unfold scanBound; omega
  refine call_set_listTx ns (I.ok.hd hc) pl.isList (by simpa using strsAre_of rv) hb fun h' tk ⟨l, hS, hl, hm, hn⟩ hk => ?_
  rw [List.take_of_length_le (Nat.le_refl _)] at hm hn
  exact ⟨.ref s.heap.objs.size, upd H s.heap.objs.size (SetSO X.prog X.w s.heap.objs.size l), I.laid (t' := tk) hk (Nat.le_refl _) (setSO_new hS), rfl, q _ l (I.hok.fresh (Nat.le_refl _)) hl hm hn⟩
theorem cr_lenSetTx : CallR X (.builtin "len") (fun xs H Q => ∃ (a : Addr) (l : List Str), xs = [.ref a] ∧ H a = some (SetSO X.prog X.w a l) ∧ l.length < 1000 ∧ Q (.int l.length) H) := by
  intro pins s σ H xs us Q I r h
  obtain ⟨a, l, rfl, ha, h64, q⟩ := h
  rw [Vals.ref1 r]
  obtain ⟨⟨⟨es, ep, t⟩, ho, F, _⟩, _⟩ := I.hok a _ ha
  have hsz : es.size = l.length := F.sz
  have hb : ((es.size : Nat) : Int) < 2 ^ 63 := by omega
  refine call_len_set (prog := X.prog) ho ⟨rfl, rfl, rfl⟩ rfl F.fit hb ⟨.int l.length, H, I.tok _, ⟨s.toks + 1, ?_⟩, q⟩
  show Value.int ((es.size : Nat) : Int) _ = Value.int ((l.length : Nat) : Int) _
  rw [hsz]
theorem cr_sortedSetTx (hc : X.calm = true) : CallR X (.builtin "sorted") (fun xs H Q => ∃ (a : Addr) (l : List Str), xs = [.ref a] ∧ H a = some (SetSO X.prog X.w a l) ∧ l.length < 64 ∧
    ∀ (p : Addr) (ss : List Str), H p = none → (∀ k, k ∈ ss ↔ k ∈ l) → ss.length = l.length → Q (.ref p) (upd H p (.lst (ss.map V.str)))) := by
  intro pins s σ H xs us Q I r h
  obtain ⟨a, l, rfl, ha, h64, q⟩ := h
  rw [Vals.ref1 r]
  have R : SetS X.prog X.w s.heap a l := (I.hok a _ ha).1
  refine sorted_setTx R (I.ok.hd hc) h64 fun s' p out c ss k g o hp hg hi hm hl => ?_
  have hlen : (ss.map V.str).length ≤ sizeLine := by rw [List.length_map, hl, sizeLine_eq]; omega
  have hn : H p = none := I.hok.fresh hp
  have J : Inv X pins σ (upd H p (.lst (ss.map V.str))) { s with heap := s'.heap, gens := s'.gens, drawn := s'.drawn, toks := s'.toks } :=
    I.call (ch := []) (Un.laid k hp hn) (I.hok.laid k hp ⟨hlen, out.toList, c, vals_of_strs hi, hg⟩) (by rw [g]; exact I.bare) (fun _ z => nomatch z)
  have e : s' = { s with heap := s'.heap, gens := s'.gens, drawn := s'.drawn, toks := s'.toks } := by
    cases s'
    cases s
    cases o
    rfl
  rw [e]
  exact ⟨.ref p, _, J, rfl, q p ss hn hm hl⟩
end
end K8
/-! KX: Faulty(..), whose __init__ says super().__init__(fault) over ValueError; e.fault; isinstance(e, ..) -/
namespace K8X
open PySem PySem.W PySem.Calls PyProof.Rows PySem.HandSPX
def iA : Arguments := { posonlyargs := [], args := [{ arg := "self", annotation := none, pos := ⟨16, 17, 16, 21⟩ }, { arg := "fault", annotation := none, pos := ⟨16, 23, 16, 28⟩ }], vararg := none, kwonlyargs := [], kw_defaults := [], kwarg := none, defaults := [] }
def iB : List Stmt := [.Expr (.Call (.Attribute (.Call (.Name "super" ⟨17, 8, 17, 13⟩) [] [] ⟨17, 8, 17, 15⟩) "__init__" ⟨17, 8, 17, 24⟩) [.Name "fault" ⟨17, 25, 17, 30⟩] [] ⟨17, 8, 17, 31⟩) ⟨17, 8, 17, 31⟩,
  .Assign [.Attribute (.Name "self" ⟨18, 8, 18, 12⟩) "fault" ⟨18, 8, 18, 18⟩] (.Name "fault" ⟨18, 21, 18, 26⟩) ⟨18, 8, 18, 26⟩]
def iS : Scope := { kind := .function, names := [(PySem.Str.ofString "self", .local), (PySem.Str.ofString "fault", .local), (PySem.Str.ofString "__class__", .free), (PySem.Str.ofString "super", .globalImplicit)], isGenerator := false, isCoroutine := false, more := [] }
/-- what the written part says of Faulty, at C, and of its __init__, at fI -/
structure FaTxt (P : Program) (K : Frag) (mg : Str → Option Value) (C fI : Addr) : Prop where
  gC : mg "Faulty" = some (.ref C)
  gs : mg "super" = none
  cls : ∃ nm q N bs bm sn sub ab col dd k0 k1 k2 k3 k5, K.lookup C = some (excClassObj nm q C N bs bm true sn sub ab col dd k0 k1 k2 k3 k5 "ValueError.__new__") ∧ refsVE bm = true
  sa : findIn K (.ref C) "__setattr__" = some (some (.builtin "object.__setattr__"))
  noN : findIn K (.ref C) "fault" = some none
  iC : findIn K (.ref C) "__init__" = some (some (.ref fI))
  tC : typeIn K (.ref fI) = some (.type "function")
  kC : keepIn K (.ref C) = true
  exC : subIn K (.ref C) (.type "BaseException") = some true
  tyC : typeIn K (.ref C) = some (.type "type")
  sup : ks_superIn K C C "__init__" = some (some (.builtin "ValueError.__init__"))
  ve : subIn K (.ref C) (.type "ValueError") = some true
  mro : mroIn K C (.ref C) = some true
  opq : nsIn K cStatics "thirdparty.any" = some none
  top : (P.main.scope.names.lookup ("super" : Str)).isSome = false
  fn : ∃ (oc : Value) (od : Option Addr) (doc pm : Value) (an : Option Addr) (cda : Addr) (ct : Value) (cc : Addr) (osl : Array (Option Value)) (ccl : Value) (cdd : Option Addr) (vs : Array Value) (ccs : Array (Option Value)) (file : Str) (tf : Tok) (cl : Value) (cld : Option Addr) (csl : Array (Option Value)),
    K.lookup fI = some ⟨oc, od, .func (ksFn "__init__" "Faulty.__init__" iA iB iS .none .none doc pm an (.ref cda) ct cc), osl⟩ ∧ codeIn K (.ref cda) "Faulty.__init__" = true ∧
    K.lookup cda = some ⟨ccl, cdd, .fields vs, ccs⟩ ∧ vs[2]? = some (.str file tf) ∧ ((P.main.file : Str) == file) = true ∧ K.lookup cc = some ⟨cl, cld, .cell (some (.ref C)), csl⟩
theorem one_size (v : Value) : [v].length ≤ sizeLine := by
  rw [sizeLine_eq]
  exact (by decide : 1 ≤ 16777216)
/-- what __init__ leaves of a fresh exception at x -/
structure InitEnd (h h' : Heap) (x C dx t1 : Addr) (v : Value) : Prop where
  keep : ∀ b o, b ≠ x → h.get? b = some o → h'.get? b = some o
  obj : h'.get? x = some { cls := .ref C, dict := some dx, data := .fields #[.ref t1, .none, .none, .none, .bool false, .none] }
  dbig : h.objs.size ≤ dx
  dne : dx ≠ x
  ns : h'.Ns1 dx (fun y => if y = "fault" then some v else none)
structure OwnMade (h h' : Heap) (e C d : Addr) (v : Value) : Prop where
  keep : ∀ b o, h.get? b = some o → h'.get? b = some o
  new : h.objs.size ≤ e
  obj : ∃ oe vs, h'.get? e = some oe ∧ oe.cls = .ref C ∧ oe.dict = some d ∧ oe.data = .fields vs ∧ vs[1]? = some .none
  dbig : h.objs.size ≤ d
  dne : d ≠ e
  ns : h'.Ns1 d (fun y => if y = "fault" then some v else none)
section
variable {prog : Program} {w : World} {A : Around} {E : Value → Shared → Prop} {h : Heap} {g : Array GenState} {d : Drawn} {t : Nat} {os : OsState}
/-- the bound ValueError.__init__ called -/
theorem call_mw {nm q : Str} {C N : Addr} {bs bm : List Value} {hdct : Bool} {sn : List Str} {sub : List Value} {ab : Bool} {col : Option Bool} {dd : Option Addr} {k0 k1 k2 k3 k5 : Option Value} {u e t0 : Addr} {rest : List Value} {Q : Value → Shared → Prop}
    (hC : h.get? C = some (excClassObj nm q C N bs bm hdct sn sub ab col dd k0 k1 k2 k3 k5 "ValueError.__new__")) (he : h.get? e = some (excO C t0)) (hu : h.get? u = some (kxs_mw "ValueError.__init__" e)) (hrest : rest.length ≤ sizeLine)
    (hq : ∀ h' t1, (∀ b o, b ≠ e → h.get? b = some o → h'.get? b = some o) → h'.get? e = some (excO C t1) → Q .none ⟨h', g, d, t, os⟩) :
    wpAny (model prog w) A (call (.ref u) rest) Q E ⟨h, g, d, t, os⟩ := by
  refine wpAny_call (codeAny_of_tree ?_)
  show wpAny _ A.in1 (callAny (.ref u) ⟨rest, []⟩) _ _ _
  simp only [callAny]
  refine wpAny_bind (wpAny_load hu ?_)
  simp only [kxs_mw, show (Value.type "method-wrapper" == Value.type "method" || Value.type "method-wrapper" == Value.type "builtin_function_or_method" || Value.type "method-wrapper" == Value.type "method-wrapper") = true by decide, if_true]
  refine KFB.if_so (by decide) ?_
  refine wpAny_bind (check_bound_init F.excBase_ValueError.toExcCallFacts hC he rfl ?_)
  refine wpAny_bind (wpAny_pure (wpAny_pure ?_))
  refine ⟨Code.quiet_builtin _ (by decide +kernel), codeAny_builtin F.excBase_ValueError.initEntry ?_⟩
  rw [Around.under_plainId F.excBase_ValueError.init.plain _]
  wp_walk
  refine hq _ h.objs.size (fun b o hb ho => ?_) ?_
  · rw [Heap.get?_update_other _ _ (Ne.symm hb)]
    exact Heap.get?_push_of_some _ ho
  · rw [Heap.get?_update_self _ (Heap.get?_push_of_some _ he) rfl]
    rfl
end
section
variable {prog : Program} {w : World} {A : Around} {E : Value → Shared → Prop} {R : Result → Shared → Prop} {s : Shared} {K : Frag} {mg : Str → Option Value} {C fI : Addr} {base : Heap}
theorem fa_init (T : FaTxt prog K mg C fI) (Mo : L2.Mod K mg base) (bk : ∀ b o, base.get? b = some o → s.heap.get? b = some o) {x t0 : Addr} {v : Value} (hlim : s.heap.NoLimit) (hx : s.heap.get? x = some (excO C t0)) (hnx : K.lookup x = none) (hroom : A.depth < recursionLimit)
    (hq : ∀ h' tk dx t1, InitEnd s.heap h' x C dx t1 v → R (.ok (.ret .none)) { s with heap := h', toks := tk }) :
    codeAny (model prog w) A (.call (.ref fI) ⟨[.ref x, v], []⟩) R s := by
  have X : K.In s.heap := Mo.kin.keeps bk
  obtain ⟨oc, od, doc, pm, an, cda, ct, cc, osl, ccl, cdd, vs, ccs, file, tf, cl, cld, csl, ho, hcd, hco, hvs, hfile, hcc⟩ := T.fn
  obtain ⟨nm, q, N, bs, bm, sn, sub, ab, col, dd, k0, k1, k2, k3, k5, hC, hbm⟩ := T.cls
  have hcl : clsIn K C = some { name := nm, bases := bs, mro := .ref C :: bm, ns := N, qualname := q, hasDict := true, slotNames := sn, subclasses := sub, abstract := ab, collection := col, hasDel := false } := by unfold clsIn; rw [hC] <;> rfl
  refine ks_codeAny_call_defAt (fd := ksFn "__init__" "Faulty.__init__" iA iB iS .none .none doc pm an (.ref cda) ct cc) (body := iB) (binds := [("self", .ref x), ("fault", v)]) hroom (X _ _ ho) rfl hlim (codeRec_of X hcd) rfl
    (BindsTo.of_eq (by first | rfl | with_unfolding_all rfl)) (by show ∀ y ∈ iS.names, y.2 ≠ NameKind.cell; decide) (by
      intro y hy
      rcases List.mem_cons.mp hy with e | hy
      · rw [e]; rfl
      · rw [List.mem_singleton.mp hy]; rfl) (fun h₁ hn k => ?_)
  have X₁ : K.In h₁ := X.keeps k
  have hx₁ := k _ _ hx
  obtain ⟨hp, g, dr, tk, os⟩ := s
  have hsz : hp.objs.size < h₁.objs.size := hn.lt
  -- super().__init__(fault)
  refine ks_wpAt_execs_cons (ks_wpAt_Expr_any (ks_wpAt_MethodCall ?_))
  refine ks_wpAt_super_base (env := callEnv (ksFn "__init__" "Faulty.__init__" iA iB iS .none .none doc pm an (.ref cda) ct cc) hp.objs.size fI) rfl rfl (by decide) rfl (X₁ _ _ ho) rfl rfl rfl (X₁ _ _ hco) rfl hvs hfile T.top ?_
  obtain ⟨mb, hb1, hb2⟩ := Mo.blt
  refine ks_loadName_global rfl rfl (loadGlobal_builtin (mg := mg) (mb := mb) ((Mo.glob.keeps bk).keeps k) T.gs ((hb1.keeps bk).keeps k) ((hb2 _ (by decide)).trans PyProof.Rows.Boot.super) ⟨rfl, ?_⟩)
  refine wpAny_loadName_free rfl rfl rfl ⟨_, X₁ _ _ hcc, rfl⟩ ?_
  refine wpAny_loadName_local rfl rfl hn (show _ = some (Value.ref x) from rfl) ?_
  have hCo := X₁ _ _ hC
  refine ks_wpAny_isType_cls hCo rfl ⟨rfl, ?_⟩
  refine ks_wpAny_call_super hCo rfl hx₁ rfl (fun c e => by cases e) (looks_mroIn X₁ T.mro) (fun h₂ e₂ k₂ => ?_)
  have X₂ : K.In h₂ := X₁.keeps k₂
  have hx₂ := k₂ _ _ hx₁
  have IA : InstAt h₂ x (excO C t0) C none := ⟨hx₂, rfl, rfl, trivial⟩
  -- the method
  have hsup := T.sup
  unfold ks_superIn at hsup
  rw [hcl, Option.bind_some] at hsup
  refine kxs_getMethod kxs_ValueError e₂ (looks_opaque X₂ T.opq) (l₀ := .ref C :: bm) ((looks_clsIn X₂ hcl).andThen .now) rfl X₂ hsup (IA.type.andThen (looks_subIn X₂ T.ve)) (ks_ne X₂ IA hcl) (by decide) ?_
  have k₃ : ∀ b o, h₂.get? b = some o → (h₂.push (kxs_mw "ValueError.__init__" x)).get? b = some o := fun b o e => Heap.get?_push_of_some _ e
  refine kxs_callWith (i := "ValueError.__init__") (x := x) rfl (evalArgs_plain (PyProof.Rows.args_cons (wpAny_Name (wpAny_loadName_local rfl rfl ((hn.keeps k₂).keeps k₃) (show _ = some v from rfl) ?_) (by decide)) (by rfl)))
  refine PyProof.Rows.args_nil ?_
  refine ⟨Heap.get?_push_at rfl rfl, ?_⟩
  refine call_mw (k₃ _ _ (k₂ _ _ hCo)) (k₃ _ _ hx₂) (Heap.get?_push_at rfl rfl) (one_size v) fun h₄ t1 k₄ hx₄ => ?_
  -- self.fault = fault
  have xL : hp.objs.size ≠ x := Nat.ne_of_gt (Heap.lt_size hx)
  have k₁₃ : ∀ b o, hp.get? b = some o → (h₂.push (kxs_mw "ValueError.__init__" x)).get? b = some o := fun b o e => k₃ _ _ (k₂ _ _ (k _ _ e))
  have X₄ : K.In h₄ := fun a o e => k₄ a o (fun z => by rw [z, hnx] at e; cases e) (k₃ _ _ (X₂ a o e))
  have hn₄ : h₄.Ns hp.objs.size (fun y => ([("self", Value.ref x), ("fault", v)] : List (Str × Value)).reverse.lookup y) := ((hn.keeps k₂).keeps k₃).at fun o e => k₄ _ o xL e
  have hlt₄ := hn₄.lt
  refine wpAt_of_wpAny ?_
  refine wpAny_execs_cons (plainObj_wpAny_Assign_Attribute ?_)
  refine wpAny_Name (wpAny_loadName_local rfl rfl hn₄ (show _ = some v from rfl) ?_) (by decide)
  refine wpAny_Name (wpAny_loadName_local rfl rfl hn₄ (show _ = some (Value.ref x) from rfl) ?_) (by decide)
  refine set_plain X₄ (ox := excO C t1) (od := none) ⟨hx₄, rfl, rfl, trivial⟩ T.sa ?_
  refine exc_osa X₄ hx₄ hcl (show refsVE (.ref C :: bm) = true from hbm) rfl T.noN (fun h₅ tk₅ dx k₅ dn dne hx₅ hn₅ => ?_)
  show wpAny _ _ (execs _ _) _ _ _
  refine wpAny_execs_nil (hq h₅ tk₅ dx t1 ⟨fun b o hb e => k₅ b o hb (k₄ b o hb (k₁₃ b o e)), hx₅, Nat.le_of_lt (Nat.lt_of_lt_of_le hlt₄ dn), dne, hn₅⟩)
theorem fa_made (T : FaTxt prog K mg C fI) (Mo : L2.Mod K mg base) (bk : ∀ b o, base.get? b = some o → s.heap.get? b = some o) {v : Value} (hlim : s.heap.NoLimit) (hroom : A.depth + 1 < recursionLimit)
    (hq : ∀ h' tk e d, OwnMade s.heap h' e C d v → R (.ok (.ret (.ref e))) { s with heap := h', toks := tk }) :
    codeAny (model prog w) A (.call (.ref C) ⟨[v], []⟩) R s := by
  have X : K.In s.heap := Mo.kin.keeps bk
  obtain ⟨nm, q, N, bs, bm, sn, sub, ab, col, dd, k0, k1, k2, k3, k5, hC, hbm⟩ := T.cls
  obtain ⟨hp, g, dr, tk, os⟩ := s
  have k : ∀ b o, hp.get? b = some o → ((hp.push (kdv_tup [v])).push (excO C hp.objs.size)).get? b = some o := fun b o e => Heap.get?_push_of_some _ (Heap.get?_push_of_some _ e)
  have hget : ((hp.push (kdv_tup [v])).push (excO C hp.objs.size)).get? (hp.objs.size + 1) = some (excO C hp.objs.size) := by heap_get
  have hnx : K.lookup (hp.objs.size + 1) = none := by
    cases e : K.lookup (hp.objs.size + 1) with
    | none => rfl
    | some o =>
      have z : hp.get? (hp.objs.size + 1) = some o := X _ _ e
      exact absurd (Nat.lt_of_succ_lt (Heap.lt_size z)) (Nat.lt_irrefl _)
  refine call_own F.excBase_ValueError (fun X => refsVE_contains X bm hbm) (X _ _ hC) (looks_findIn X T.iC) (fun self => bind_fn X self T.tC) (one_size v) ?_
  refine fa_init (s := ⟨(hp.push (kdv_tup [v])).push (excO C hp.objs.size), g, dr, tk, os⟩) T Mo (fun b o e => k b o (bk b o e)) (hlim.keeps k) hget hnx ?_ fun h' tk' dx t1 ⟨k', hx, dn, dne, hns⟩ => ?_
  · show A.depth + 1 < recursionLimit
    exact hroom
  · have old : ∀ b o, hp.get? b = some o → h'.get? b = some o := fun b o e => k' b o (Nat.ne_of_lt (Nat.lt_succ_of_lt (Heap.lt_size e))) (k b o e)
    have z : hp.objs.size + 1 + 1 ≤ dx := by
      first
        | (simpa only [Heap.size_push] using dn)
        | exact dn
        | (have q := dn; rw [Heap.size_push, Heap.size_push] at q; exact q)
    exact ⟨rfl, hq h' tk' (hp.objs.size + 1) dx ⟨old, Nat.le_succ _, ⟨_, _, hx, rfl, rfl, rfl, rfl⟩, Nat.le_trans (Nat.le_trans (Nat.le_succ _) (Nat.le_succ _)) z, dne, hns⟩⟩
end
end K8X
namespace K8
open PySem PySem.Spec PyProof.Rows L2
theorem relO_fa {v : V} {v' : Value} (r : RelV v v') (f : Str) : RelO (List.lookup f [(("fault" : Str), v)]) (if f = "fault" then some v' else none) := by
  by_cases hw : f = "fault"
  · subst hw
    rw [if_pos rfl]
    have q : List.lookup ("fault" : Str) [(("fault" : Str), v)] = some v := by simp [List.lookup]
    rw [q]
    exact r
  · rw [if_neg hw]
    have qw : (f == ("fault" : Str)) = false := by simpa using hw
    have q2 : List.lookup f [(("fault" : Str), v)] = none := by simp [List.lookup, qw]
    rw [q2]
    trivial
section
variable {X : Cx} {C fI : Addr}
/-- Faulty(e) -/
def tMkFa (C : Addr) (ta : TA) : L2.St → Hp → XK → Prop := fun σ H Q => ta σ H fun vs H1 => ∃ v, vs = [v] ∧ ∀ d, H1 d = none → Q (.ref C) (some d) (upd H1 d (.xd [(("fault" : Str), v)]))
theorem pmk_fa {a : Expr} {ta : TA} {p pos : Pos} {k : Nat} (T : K8X.FaTxt X.prog X.K X.mg C fI) (hr : Room k X.A) (ha : PA X [a] ta) (hg : Gl X "Faulty" := by rfl)
    (he : starEach (a :: []) X.env = (false, eval a X.env) :: starEach [] X.env := by rfl) (hpl : (backTo pos (starEach [] X.env)).any (·.1) = false := by rfl) :
    PMk X (.Call (.Name "Faulty" p) [a] [] pos) (tMkFa C ta) := by
  intro pins s σ H Q I h
  refine wpAny_Call_Name_kw (ld_glob I hg T.gC ?_)
  refine PySem.W.callWith_K (h₀ := X.base) I.ok.mod.kin T.kC (thn (ha.run pos pins s σ H _ I h) fun us s1 hh => ?_) he hpl
  obtain ⟨vs, H1, I1, r1, v, ev, q1⟩ := hh
  subst ev
  refine ⟨I1.kIn, ?_⟩
  cases r1 with
  | cons rv rn =>
    rename_i v' us'
    cases rn
    show wpAny _ _ (call (.ref C) [v']) _ _ _
    have hlim := I1.nolimit
    have bk := I1.bk
    obtain ⟨hp, g, dr, tk, os⟩ := s1
    refine wpAny_call (K8X.fa_made T I1.mod bk hlim (by have := hr.dp; omega) fun h' tk' e d M => ?_)
    show MkP X pins σ Q (.ref e) ⟨h', g, dr, tk', os⟩
    obtain ⟨oe, fv, hoe, hc, hd, hdat, h1⟩ := M.obj
    have hns := M.ns
    obtain ⟨G', g1, g2⟩ := restrict h' fun b => decide (b ≠ e)
    have gk : ∀ b, b ≠ e → G'.get? b = h'.get? b := fun b hb => g1 b (decide_eq_true hb)
    have ge : G'.get? e = none := g2 e (by simp)
    have old : ∀ b o, hp.get? b = some o → G'.get? b = some o := fun b o q => (gk b (Nat.ne_of_lt (Nat.lt_of_lt_of_le (Heap.lt_size q) M.new))).trans (M.keep b o q)
    have ob : ObjOk X.prog X.w (upd H1 d (.xd [(("fault" : Str), v)])) G' d (.xd [(("fault" : Str), v)]) :=
      ⟨_, hns.at (fun o q => (gk d M.dne).trans q), fun f => relO_fa rv f⟩
    have J : Inv X pins σ (upd H1 d (.xd [(("fault" : Str), v)])) ⟨G', g, dr, tk', os⟩ := I1.laid (t' := tk') old M.dbig ob
    refine ⟨e, oe, fv, ⟨G', g, dr, tk', os⟩, _, .ref C, some d, rfl, J, fun b o q => ?_, ge, hoe, ⟨hc, hd⟩, hdat, h1, ?_, rfl, I1.bare, raises_own T.exC T.tyC, q1 d (I1.hok.fresh M.dbig)⟩
    · by_cases hb : b = e
      · have q' : G'.get? b = some o := q
        rw [hb, ge] at q'; cases q'
      · exact (gk b hb).symm.trans q
    · rw [upd_ne (Ne.symm M.dne)]
      exact I1.hok.fresh M.new
/-- raise Faulty(e) -/
def tRaiseFa (C : Addr) (W : WX) (ta : TA) : TS := fun _ σ H => tMkFa C ta σ H fun cls d H' => W cls d σ H'
theorem ps_raiseFa {a : Expr} {ta : TA} {W : WX} {p pos pos2 : Pos} {k : Nat} (hc : X.calm = true) (T : K8X.FaTxt X.prog X.K X.mg C fI) (hr : Room k X.A) (tk : Takes X W) (ha : PA X [a] ta) (hg : Gl X "Faulty" := by rfl)
    (he : starEach (a :: []) X.env = (false, eval a X.env) :: starEach [] X.env := by rfl) (hpl : (backTo pos (starEach [] X.env)).any (·.1) = false := by rfl) :
    PS X (.Raise (some (.Call (.Name "Faulty" p) [a] [] pos)) none pos2) (tRaiseFa C W ta) := ps_raise hc tk (pmk_fa T hr ha hg he hpl)
end
section
variable {X : Cx}
/-- isinstance(e, c), e the exception that the suite holds, with a dict of its own -/
def rIsFa (K : PySem.W.Frag) (D a : Addr) (d : Option Addr) : List V → Hp → VK → Prop := fun xs H Q => ∃ (c : V) (cv : Value) (b : Bool) (dd : Addr) (fs : List (Str × V)), xs = [.ref a, c] ∧ (∀ u, RelV c u → u = cv) ∧ PySem.W.kitOne K (.ref D) cv = some b ∧ d = some dd ∧ H dd = some (.xd fs) ∧ Q (.bl b) H
theorem call_isFa {a D : Addr} {oe : Obj} {d : Option Addr} {cls : Value} {pn : List (Addr × Obj)} (C : ExcC X.K D) (hz : Zc cls d oe) (hf : ∃ vs, oe.data = .fields vs) :
    CallR (X.suite a ((a, oe) :: pn)) (.builtin "isinstance") (fun xs H Q => cls = .ref D ∧ rIsFa X.K D a d xs H Q) := by
  intro pins s σ H xs us Q I r h
  obtain ⟨rfl, c, cv, b, dd, fs, rfl, hcv, e, rfl, ed, q⟩ := h
  cases r with
  | cons rx rr =>
    cases rr with
    | cons rt rr =>
      cases rr
      cases rx
      have ec := hcv _ rt
      subst ec
      obtain ⟨hget, _⟩ := I.pin (a, oe) (List.mem_append.mpr (.inl List.mem_cons_self))
      obtain ⟨vs, hv⟩ := hf
      have hx : ObjOk X.prog X.w H s.heap dd (.xd fs) := I.hok dd _ ed
      obtain ⟨mA, hns, hr⟩ := hx
      obtain ⟨od, ho, hl⟩ := lookIn_ns hns
      have J : PySem.W.InstAt s.heap a oe D (some od) := by
        obtain ⟨oc, od', oda, osl⟩ := oe
        obtain ⟨h1, h2⟩ := hz
        dsimp only at h1 h2 hv
        subst h1 h2 hv
        exact ⟨hget, rfl, rfl, ho⟩
      have hcl : (PySem.W.clsIn X.K D).isSome = true := by
        obtain ⟨cd, hc, _⟩ := PySem.W.any_some C.hd
        rw [hc]
        rfl
      exact PySem.W.kia_one (PySem.W.kitx_exc hcl C.hg C.hk C.hs C.ha C.hn C.ht C.hm) I.kIn J e (fun z => nomatch z) fun tk => ⟨.bl b, H, I.kept (t' := tk) fun _ _ z => z, rfl, q⟩
end
end K8
namespace K8
open PySem PySem.Spec PyProof.Rows L2
/-! ### over a list or a tuple in a slot -/
def iSeqV (K : PySem.W.Frag) (i : Nat) : TI := fun σ H R => iList K (tVar i) σ H R ∨ iTup K (tVar i) σ H R
theorem pi_seqV {X : Cx} {tg e : Expr} {i : Nat} (he : PE X e (tVar i)) : PI X tg e (iSeqV X.K i) :=
  ⟨fun pins s σ H R I h => h.elim (fun h => (pi_list he).run pins s σ H R I h) (fun h => (pi_tup he).run pins s σ H R I h)⟩
def seqO (H : Hp) (a : Addr) (xs : List V) : Prop := H a = some (.lst xs) ∨ H a = some (.tup xs)
theorem seqO.mono {H H' : Hp} {a : Addr} {xs : List V} (h : seqO H a xs) (s : Same H H') : seqO H' a xs := h.elim (fun e => .inl (s _ _ e)) (fun e => .inr (s _ _ e))
theorem seqO.ix {K : PySem.W.Frag} {H : Hp} {a : Addr} {xs : List V} {i : Int} {x : V} {Q : VK} (h : seqO H a xs) (hx : xs[i.toNat]? = some x) (h0 : 0 ≤ i) (q : Q x H) : rIxL K (.ref a) (.int i) H Q ∨ rIxT K (.ref a) (.int i) H Q := by
  obtain ⟨n, rfl⟩ := Int.eq_ofNat_of_zero_le h0
  have hx' : xs[n]? = some x := by simpa using hx
  rcases h with e | e
  · exact .inl ⟨a, xs, _, x, rfl, rfl, SqL.h e, atI_nat hx', q⟩
  · exact .inr ⟨a, xs, _, x, rfl, rfl, SqT.h e, atI_nat hx', q⟩
theorem seqV {K : PySem.W.Frag} {i : Nat} {σ : L2.St} {H0 H : Hp} {a : Addr} {xs : List V} {R : It → Hp → Prop} (hσ : tVar i σ H (fun x H1 => x = .ref a ∧ H1 = H)) (hk : seqO H0 a xs) (s : Same H0 H) (h : ∀ J, Walk J xs.length (fun H' => Same H0 H') (YAt xs) → R J H) :
    iSeqV K i σ H R := by
  obtain ⟨x, e, rfl, _⟩ := hσ
  rcases hk with e1 | e1
  · exact .inl ⟨_, e, a, rfl, ⟨xs, SqL.h (s _ _ e1)⟩, h _ ((walk_list (K := K) (a := a) (xs := xs)).mono (fun H' s' => SqL.h (s' _ _ e1)) fun _ _ _ _ _ _ y => y)⟩
  · exact .inr ⟨_, e, a, rfl, ⟨xs, SqT.h (s _ _ e1)⟩, h _ ((walk_tup (K := K) (a := a) (xs := xs)).mono (fun H' s' => SqT.h (s' _ _ e1)) fun _ _ _ _ _ _ y => y)⟩
theorem nat_at {ms : List Nat} {i : Nat} {x : V} (h : (ms.map natV)[i]? = some x) : ∃ m, ms[i]? = some m ∧ x = natV m := by
  rw [List.getElem?_map] at h
  cases e : ms[i]? with
  | none => rw [e] at h; cases h
  | some m =>
    rw [e] at h
    exact ⟨m, rfl, (Option.some.inj h).symm⟩
theorem opt_at {f : List (Option Nat)} {i : Nat} {o : Option Nat} (h : f[i]? = some o) : (f.map optV)[i]? = some (optV o) := by rw [List.getElem?_map, h]; rfl
theorem map_set' {α β : Type} (g : α → β) (l : List α) (i : Nat) (x : α) : (l.map g).set i (g x) = (l.set i x).map g := by rw [List.map_set]
theorem ixN_lt {n i : Nat} (h : i < n) : ixN n (i : Int) = some i := by
  unfold ixN
  rw [if_pos (by omega), if_pos (by omega), Int.toNat_natCast]
section
variable {P : Program} {w : World} {K : PySem.W.Frag} {mg : Str → Option Value} {base : Heap} {f : Addr} {fd : FuncData}
/-! ### leasts_of -/
abbrev s_leasts_of : Stmt := topS 26
abbrev Nleasts_of : List Str := ["makers", "first", "found", "grown", "rest", "maker", "later", "known"]
theorem sc_leasts_of : FnScope Nleasts_of ["makers"] (defScope s_leasts_of) := ⟨rfl, rfl, rfl, by decide +kernel, rfl, by decide +kernel, by decide +kernel⟩
def sp_leasts_of : Sp := fun vs H Q _ => ∃ a ms, vs = [.ref a] ∧ seqO H a (ms.map natV) ∧ ms ≠ [] ∧ (∀ m ∈ ms, 0 < m ∧ m ≤ 12) ∧
  ∀ H' p f, Same H H' → H p = none → H' p = some (.lst (f.map optV)) → LeastsOf ms f → Q (.ref p) H'
/-- what stands of found while it grows -/
def LfSt (H0 : Hp) (fo : Addr) (ms : List Nat) (first : Nat) (f0 : List (Option Nat)) (H' : Hp) (f : List (Option Nat)) (g : Bool) : Prop :=
  Same H0 H' ∧ H' fo = some (.lst (f.map optV)) ∧ LInv ms first 12 f ∧ (g = false → f = f0) ∧ (g = true → lmeas 12 first f < lmeas 12 first f0)
theorem ok_leasts_of (T : Txt mg) (F : Fun K "leasts_of" "leasts_of" s_leasts_of f fd) : FnOk P w K mg base CX0 1 f fd ["makers"] sp_leasts_of := by
  have nd := sc_leasts_of.nd
  refine F.ok sc_leasts_of (fun vs H Q Ex h => ?_) (fun cdv A outer s H vs Q Ex hr h => ?_)
  · obtain ⟨v, u, rfl, _⟩ := h
    rfl
  · obtain ⟨a, ms, rfl, hk, hne, hb, q⟩ := h
    refine ⟨_, pss_cons (ps_set (i := 1) nd rfl (Or.inl rfl) (pe_ix (ix_list.or ix_tup) (pv 0) pe_int (fun _ _ => rfl)))
    (pss_cons (ps_set (i := 2) nd rfl (Or.inl rfl) (pe_op op_rep (pe_lst (pa_cons pe_non pa_nil)) (pv 1)))
    (pss_cons (ps_asg pe_int (pg_sub (pv 2) pe_int set_list))
    (pss_cons (ps_set (i := 3) nd rfl (Or.inl rfl) pe_bl)
    (pss_cons (ps_while PassesOwn.never (pt_val (pv 3)) (pss_cons (ps_set (i := 3) nd rfl (Or.inl rfl) pe_bl)
      (pss_one (ps_for PassesOwn.never rfl (pi_range1 rfl T.range (pa_cons (pv 1) pa_nil)) (pg_name (i := 4) nd rfl (Or.inl rfl))
        (pss_one (ps_if (pt_cmpR op_notN (pe_ix ix_list (pv 2) (pv 4) (fun _ _ => rfl)) pe_non (nomark _)) (pss_one (ps_for PassesOwn.never rfl (pi_seqV (pv 0)) (pg_name (i := 5) nd rfl (Or.inl rfl))
            (pss_cons (ps_set (i := 6) nd rfl (Or.inl rfl) (pe_op op_add (pe_ix ix_list (pv 2) (pv 4) (fun _ _ => rfl)) (pv 5)))
            (pss_cons (ps_set (i := 7) nd rfl (Or.inl rfl) (pe_ix ix_list (pv 2) (pe_op op_mod (pv 6) (pv 1)) (fun _ _ => rfl)))
            (pss_one (ps_if (PW.pt (pw_or (pt_cmpR op_isN (pv 7) pe_non (nomark _)) (pw_or1 (pt_cmpR op_lt (pv 6) (pv 7) (nomark _))))) (pss_cons (ps_asg (pv 6) (pg_sub (pv 2) (pe_op op_mod (pv 6) (pv 1)) set_list))
              (pss_one (ps_set (i := 3) nd rfl (Or.inl rfl) pe_bl))) pss_nil)))))) pss_nil))))))
    (pss_one (ps_ret (pv 2))))))), ?_⟩
    obtain ⟨first, ms', rfl⟩ : ∃ x r, ms = x :: r := by
      cases ms with
      | nil => exact absurd rfl hne
      | cons x r => exact ⟨x, r, rfl⟩
    have hf := hb first List.mem_cons_self
    have hpos : ∀ m ∈ first :: ms', 0 < m := fun m hm => (hb m hm).1
    have hM : ∀ m ∈ first :: ms', m ≤ 12 := fun m hm => (hb m hm).2
    -- first = makers[0]; found = [None] * first
    refine ⟨_, rfl, hk.ix (i := 0) (x := natV first) rfl (by decide) ?_⟩
    refine ⟨(by show 1 ≤ sizeLine; decide), fun op nop => ?_⟩
    generalize eH1 : upd H op (.lst [V.non]) = H1
    obtain ⟨s1, e1, f1⟩ := new_f nop eH1
    refine ⟨_, rfl, op, _, [.non], rfl, rfl, e1, by omega, by omega, ?_, fun fo nfo => ?_⟩
    · show 1 * ((first : Int)).toNat ≤ sizeLine
      rw [Int.toNat_natCast, Nat.one_mul]
      exact le60 (by omega)
    rw [Int.toNat_natCast, flat_rep]
    generalize eH2 : upd H1 fo (.lst (List.replicate first V.non)) = H2
    obtain ⟨s2, e2, f2⟩ := new_f nfo eH2
    have nfo0 : H fo = none := s1.free nfo
    -- found[0] = 0
    refine ⟨_, rfl, fo, _, 0, 0, rfl, rfl, e2, by rw [List.length_replicate]; exact ixN_lt hf.1, ?_⟩
    have e0 : (List.replicate first V.non).set 0 (V.int 0) = (((List.replicate first (none : Option Nat)).set 0 (some 0))).map optV := by
      rw [← map_set' optV, List.map_replicate]
      rfl
    rw [e0]
    generalize eH3 : upd H2 fo (.lst (((List.replicate first (none : Option Nat)).set 0 (some 0)).map optV)) = H3
    obtain ⟨e3, f3⟩ := mut_f eH3
    have s3 : Same H H3 := (s1.trans s2).mut nfo0 f3
    -- the while
    refine ⟨fun m σ H' => ∃ (f : List (Option Nat)) (g : Bool) (y4 y5 y6 y7 : Option V), σ = [some (.ref a), some (natV first), some (.ref fo), some (.bl g), y4, y5, y6, y7] ∧ Same H H' ∧ H' fo = some (.lst (f.map optV)) ∧ LInv (first :: ms') first 12 f ∧
      (g = true ∧ m = lmeas 12 first f + 1 ∨ g = false ∧ ∀ r m, r < first → m ∈ first :: ms' → Relaxed first f r m), ⟨_, _, true, none, none, none, none, rfl, s3, e3, LInv.start hf.1, .inl ⟨rfl, rfl⟩⟩, ?_⟩
    rintro m σ H4 ⟨fl, g, y4, y5, y6, y7, rfl, s4, e4, I4, hg⟩
    refine ⟨_, rfl, g, rfl, ?_⟩
    rcases hg with ⟨rfl, rfl⟩ | ⟨rfl, hfix⟩
    · refine iteT ?_
      refine ⟨fun σ' H' => ∃ m', m' < lmeas 12 first fl + 1 ∧ ∃ (f : List (Option Nat)) (g : Bool) (y4 y5 y6 y7 : Option V), σ' = [some (.ref a), some (natV first), some (.ref fo), some (.bl g), y4, y5, y6, y7] ∧ Same H H' ∧ H' fo = some (.lst (f.map optV)) ∧ LInv (first :: ms') first 12 f ∧
        (g = true ∧ m' = lmeas 12 first f + 1 ∨ g = false ∧ ∀ r m, r < first → m ∈ first :: ms' → Relaxed first f r m), fun σ' H' h => h, ?_⟩
      refine ⟨_, rfl, (first : Int), rfl, by omega, by omega, ?_⟩
      rw [Int.toNat_natCast]
      have setR : ∀ {f2 : List (Option Nat)} {j v : Nat}, (f2.map optV).set j (natV v) = (f2.set j (some v)).map optV := fun {f2 j v} => map_set' optV f2 j (some v)
      refine for_range (lo := 0) (n := first) (fun i σ H' => ∃ (f2 : List (Option Nat)) (g : Bool) (y4 y5 y6 y7 : Option V), σ = [some (.ref a), some (natV first), some (.ref fo), some (.bl g), y4, y5, y6, y7] ∧ LfSt H fo (first :: ms') first fl H' f2 g ∧
        (g = false → ∀ r m, r < i → m ∈ first :: ms' → Relaxed first fl r m)) ?_ ?_ ?_
      · exact ⟨fl, false, y4, y5, y6, y7, rfl, ⟨s4, e4, I4, fun _ => rfl, fun z => by cases z⟩, fun _ r m hr => absurd hr (Nat.not_lt_zero _)⟩
      · rintro i σ H5 hi ⟨f2, g, y4, y5, y6, y7, rfl, ⟨s5, e5, I5, g0, g1⟩, hrel⟩
        have hil : i < f2.length := by rw [I5.len]; exact hi
        have ex : f2[i]? = some f2[i] := List.getElem?_eq_getElem hil
        have e0i : (0 : Int) + (i : Int) = (i : Int) := by omega
        rw [e0i]
        refine ⟨_, rfl, _, rfl, fo, _, (i : Int), _, rfl, rfl, SqL.h e5, atI_nat (opt_at ex), rfl, ?_⟩
        cases eo : f2[i] with
        | none =>
          rw [eo] at ex
          refine ⟨false, rfl, iteF ?_⟩
          refine ⟨f2, g, _, y5, y6, y7, rfl, ⟨s5, e5, I5, g0, g1⟩, fun gf r m hr hm => ?_⟩
          by_cases er : r = i
          · subst er
            intro v hv
            rw [g0 gf] at ex
            rw [ex] at hv
            cases hv
          · exact hrel gf r m (by omega) hm
        | some v0 =>
          rw [eo] at ex
          refine ⟨true, rfl, iteT ?_⟩
          refine seqV (H0 := H) ⟨_, rfl, rfl, rfl⟩ hk s5 fun J w => ?_
          refine for_it w (fun j σ H' => ∃ (f3 : List (Option Nat)) (g : Bool) (v : Nat) (y5 y6 y7 : Option V), σ = [some (.ref a), some (natV first), some (.ref fo), some (.bl g), some (natV i), y5, y6, y7] ∧ LfSt H fo (first :: ms') first fl H' f3 g ∧
            f3[i]? = some (some v) ∧ (g = false → ∀ r m, r < i → m ∈ first :: ms' → Relaxed first fl r m) ∧ (g = false → ∀ k m, k < j → (first :: ms')[k]? = some m → Relaxed first fl i m)) ?_ ?_ ?_ ?_
          · exact ⟨f2, g, v0, y5, y6, y7, rfl, ⟨s5, e5, I5, g0, g1⟩, ex, hrel, fun _ k m hk2 => absurd hk2 (Nat.not_lt_zero _)⟩
          · rintro j σ H' hj ⟨f3, g, v, y5, y6, y7, _, ⟨s6, _⟩, _⟩
            exact s6
          · rintro j x σ H60 H6 hj ⟨f3, g, v, y5, y6, y7, rfl, ⟨s6, e6, I6, g60, g61⟩, ev, hrel6, hrelj⟩ ⟨rfl, hx⟩
            obtain ⟨m, em, rfl⟩ := nat_at hx
            have hmm : m ∈ first :: ms' := List.mem_of_getElem? em
            have mp := hpos m hmm
            -- later = found[rest] + maker
            refine ⟨_, rfl, _, rfl, fo, _, (i : Int), _, rfl, rfl, SqL.h e6, atI_nat (opt_at ev), _, rfl, _, _, rfl, rfl, ?_⟩
            -- known = found[later % first]
            have emod : ((v : Int) + (m : Int)) % (first : Int) = (((v + m) % first : Nat) : Int) := by simp
            have hjl : (v + m) % first < f3.length := by rw [I6.len]; exact Nat.mod_lt _ hf.1
            have ek : f3[(v + m) % first]? = some f3[(v + m) % first] := List.getElem?_eq_getElem hjl
            refine ⟨_, rfl, _, rfl, _, rfl, _, _, rfl, rfl, (show (0 : Int) < (first : Int) by omega), fo, _, _, _, rfl, congrArg V.int emod, SqL.h e6, atI_nat (opt_at ek), ?_⟩
            have step : ∀ o, f3[(v + m) % first]? = some o → (∀ u, o = some u → v + m < u) → ∀ (y7 : Option V) (D : Ends), (∀ σ' H' f4 v4 y7, σ' = [some (.ref a), some (natV first), some (.ref fo), some (.bl true), some (natV i), some (natV m), some (.int ((v : Int) + (m : Int))), y7] →
                LfSt H fo (first :: ms') first fl H' f4 true → f4[i]? = some (some v4) → D.nx σ' H') →
                tSeq (tAsg (tVar 6) (gSub (tVar 2) (tOp (rI (fun x j => 0 < j) fun i j => V.int (i % j)) (tVar 6) (tVar 1)) rSetL)) (tAsg (tC (V.bl true)) (gName 3)) D
                [some (.ref a), some (natV first), some (.ref fo), some (.bl g), some (natV i), some (natV m), some (.int ((v : Int) + (m : Int))), y7] H6 := by
              intro o ho hlt y7 D hD
              obtain ⟨I7, hm7⟩ := I6.set hM hpos ev hmm ho hlt
              refine ⟨_, rfl, _, rfl, _, rfl, _, rfl, _, _, rfl, rfl, (show (0 : Int) < (first : Int) by omega), fo, _, _, _, rfl, congrArg V.int emod, e6, ixN_lt (by rw [List.length_map]; exact hjl), ?_⟩
              have ev7 : V.int ((v : Int) + (m : Int)) = optV (some (v + m)) := by
                show V.int _ = V.int _
                congr 1
              rw [ev7, map_set']
              generalize eH7 : upd H6 fo (.lst ((f3.set ((v + m) % first) (some (v + m))).map optV)) = H7
              obtain ⟨e7, f7⟩ := mut_f eH7
              have hmono : lmeas 12 first f3 ≤ lmeas 12 first fl := by
                cases g with
                | false => rw [g60 rfl]; exact Nat.le_refl _
                | true => exact Nat.le_of_lt (g61 rfl)
              have hv4 : ∃ v4, (f3.set ((v + m) % first) (some (v + m)))[i]? = some (some v4) := by
                by_cases ei : (v + m) % first = i
                · rw [ei]
                  have : i < f3.length := by rw [← ei]; exact hjl
                  exact ⟨_, List.getElem?_set_self this⟩
                · exact ⟨v, by rw [List.getElem?_set_ne ei]; exact ev⟩
              obtain ⟨v4, hv4⟩ := hv4
              exact hD _ H7 _ v4 y7 rfl ⟨s6.mut nfo0 f7, e7, I7, fun z => (by cases z), fun _ => Nat.lt_of_lt_of_le hm7 hmono⟩ hv4
            have keep : (∀ v', f3[i]? = some (some v') → ∃ u, f3[(v' + m) % first]? = some (some u) ∧ u ≤ v' + m) → (g = false → ∀ k m, k < j + 1 → (first :: ms')[k]? = some m → Relaxed first fl i m) := by
              intro hR gf k m2 hk2 em2
              by_cases ekj : k = j
              · subst ekj
                rw [em] at em2
                cases em2
                have := g60 gf
                rw [← this]
                exact hR
              · exact hrelj gf k m2 (by omega) em2
            cases eo2 : f3[(v + m) % first] with
            | none =>
              rw [eo2] at ek
              refine ⟨_, rfl, rfl, true, eT rfl, iteT ?_⟩
              refine step none ek (fun u z => by cases z) _ _ fun σ' H' f4 v4 y7 e l4 h4 => ?_
              exact ⟨f4, true, v4, _, _, _, e, l4, h4, fun z => by (cases z), fun z => by (cases z)⟩
            | some u =>
              rw [eo2] at ek
              refine ⟨_, rfl, rfl, false, eF (fun z => by cases z), iteF ?_⟩
              refine ⟨_, rfl, _, rfl, _, _, rfl, rfl, _, rfl, ?_⟩
              refine ite2 (fun c => ?_) (fun c => ?_)
              · have c' : (v : Int) + (m : Int) < (u : Int) := of_decide_eq_true c
                refine step (some u) ek (fun u' z => by cases z; omega) _ _ fun σ' H' f4 v4 y7 e l4 h4 => ?_
                exact ⟨f4, true, v4, _, _, _, e, l4, h4, fun z => by (cases z), fun z => by (cases z)⟩
              · have c' : ¬ (v : Int) + (m : Int) < (u : Int) := fun z => c (decide_eq_true z)
                refine ⟨f3, g, v, _, _, _, rfl, ⟨s6, e6, I6, g60, g61⟩, ev, hrel6, keep fun v' hv' => ?_⟩
                rw [ev] at hv'
                cases hv'
                exact ⟨u, ek, by omega⟩
          · rintro σ H6 ⟨f3, g, v, y5, y6, y7, rfl, l6, ev, hrel6, hrelj⟩
            refine ⟨f3, g, _, y5, y6, y7, rfl, l6, fun gf r m hr hm => ?_⟩
            by_cases er : r = i
            · subst er
              obtain ⟨k, hk2⟩ := List.mem_iff_getElem?.mp hm
              refine hrelj gf k m ?_ hk2
              rw [List.length_map]
              exact (List.getElem?_eq_some_iff.mp hk2).1
            · exact hrel6 gf r m (by omega) hm
      · rintro σ H5 ⟨f2, g, y4, y5, y6, y7, rfl, ⟨s5, e5, I5, g0, g1⟩, hrel⟩
        cases g with
        | false =>
          refine ⟨0, Nat.succ_pos _, f2, false, y4, y5, y6, y7, rfl, s5, e5, I5, .inr ⟨rfl, fun r m hr hm => ?_⟩⟩
          rw [g0 rfl]
          exact hrel rfl r m hr hm
        | true => exact ⟨lmeas 12 first f2 + 1, Nat.succ_lt_succ (g1 rfl), f2, true, y4, y5, y6, y7, rfl, s5, e5, I5, .inl ⟨rfl, rfl⟩⟩
    · refine iteF ?_
      exact ⟨_, rfl, q H4 fo fl s4 nfo0 e4 ⟨by rw [I4.len]; exact hf.1, fun n => by rw [I4.len]; exact I4.done List.mem_cons_self hfix n⟩⟩
end
end K8
namespace K8
open PySem PySem.Spec PyProof.Rows L2
section
variable {P : Program} {w : World} {K : PySem.W.Frag} {mg : Str → Option Value} {base : Heap} {f : Addr} {fd : FuncData}
/-! ### is_sum -/
abbrev s_is_sum : Stmt := topS 27
abbrev Nis_sum : List Str := ["leasts", "number", "least"]
theorem sc_is_sum : FnScope Nis_sum ["leasts", "number"] (defScope s_is_sum) := ⟨rfl, rfl, rfl, by decide +kernel, rfl, by decide +kernel, by decide +kernel⟩
def sp_is_sum : Sp := fun vs H Q _ => ∃ (a : Addr) (f : List (Option Nat)) (n : Nat) (ms : List Nat), vs = [.ref a, natV n] ∧ H a = some (.lst (f.map optV)) ∧ LeastsOf ms f ∧ ∀ b, (b = true ↔ IsSum ms n) → Q (.bl b) H
theorem ok_is_sum (T : Txt mg) (F : Fun K "is_sum" "is_sum" s_is_sum f fd) : FnOk P w K mg base CX0 1 f fd ["leasts", "number"] sp_is_sum := by
  have nd := sc_is_sum.nd
  refine F.ok sc_is_sum (fun vs H Q Ex h => ?_) (fun cdv A outer s H vs Q Ex hr h => ?_)
  · obtain ⟨_, _, _, _, rfl, _⟩ := h
    rfl
  · obtain ⟨a, fl, n, ms, rfl, ea, ⟨hlen, hsum⟩, q⟩ := h
    refine ⟨_, pss_cons (ps_set (i := 2) nd rfl (Or.inl rfl) (pe_ix ix_list (pv 0) (pe_op op_mod (pv 1) (pe_callB call_len_seq (by rfl) T.len (by decide +kernel) (pa_cons (pv 0) pa_nil))) (fun _ _ => rfl)))
    (pss_one (ps_ret (pe_and (pe_cmpR op_notN (pv 2) pe_non (nomark _)) (pe_one (pe_cmpR op_le (pv 2) (pv 1) (nomark _)))))), ?_⟩
    have hjl : n % fl.length < fl.length := Nat.mod_lt _ hlen
    have ek : fl[n % fl.length]? = some fl[n % fl.length] := List.getElem?_eq_getElem hjl
    refine ⟨_, rfl, _, rfl, _, rfl, a, _, rfl, .inl (SqL.h ea), _, _, rfl, rfl, ?_, a, _, ((n % fl.length : Nat) : Int), _, rfl, ?_, SqL.h ea, atI_nat (opt_at ek), ?_⟩
    · show (0 : Int) < (((fl.map optV).length : Nat) : Int)
      rw [List.length_map]
      omega
    · show V.int ((n : Int) % (((fl.map optV).length : Nat) : Int)) = _
      rw [List.length_map]
      congr 1
    · refine ⟨_, rfl, rfl, ?_⟩
      cases eo : fl[n % fl.length] with
      | none =>
        rw [eo] at ek
        refine ⟨false, rfl, iteF ?_⟩
        refine q false ⟨fun z => by (cases z), fun h => ?_⟩
        obtain ⟨l, e, _⟩ := (hsum n).mp h
        rw [ek] at e
        cases e
      | some l =>
        rw [eo] at ek
        refine ⟨true, rfl, iteT ?_⟩
        refine ⟨_, rfl, _, rfl, _, _, rfl, rfl, ?_⟩
        refine q _ ⟨fun h => (hsum n).mpr ⟨l, ek, ?_⟩, fun h => ?_⟩
        · have : (l : Int) ≤ (n : Int) := of_decide_eq_true h
          omega
        · obtain ⟨l', e, hl⟩ := (hsum n).mp h
          rw [ek] at e
          cases e
          exact decide_eq_true (show (l : Int) ≤ (n : Int) by omega)
/-! ### needed_makers -/
abbrev s_needed_makers : Stmt := topS 28
abbrev Nneeded_makers : List Str := ["makers", "found", "leasts", "maker"]
theorem sc_needed_makers : FnScope Nneeded_makers ["makers"] (defScope s_needed_makers) := ⟨rfl, rfl, rfl, by decide +kernel, rfl, by decide +kernel, by decide +kernel⟩
def sp_needed_makers : Sp := fun vs H Q _ => ∃ a ms, vs = [.ref a] ∧ H a = some (.tup (ms.map natV)) ∧ (∀ m ∈ ms, 0 < m ∧ m ≤ 12) ∧ ms.length ≤ 12 ∧
  ∀ H' p ns, Same H H' → H p = none → H' p = some (.tup (ns.map natV)) → (∀ n, IsSum ns n ↔ IsSum ms n) → (∀ m ∈ ns, m ∈ ms) → (ms ≠ [] → ns ≠ []) → Q (.ref p) H'
theorem ok_needed_makers (T : Txt mg) (c_is_sum : Cl P w K mg base "is_sum" 1 ["leasts", "number"] sp_is_sum) (c_leasts_of : Cl P w K mg base "leasts_of" 1 ["makers"] sp_leasts_of)
    (F : Fun K "needed_makers" "needed_makers" s_needed_makers f fd) : FnOk P w K mg base CX0 2 f fd ["makers"] sp_needed_makers := by
  have nd := sc_needed_makers.nd
  refine F.ok sc_needed_makers (fun vs H Q Ex h => ?_) (fun cdv A outer s H vs Q Ex hr h => ?_)
  · obtain ⟨v, u, rfl, _⟩ := h
    rfl
  · obtain ⟨a, ms, rfl, ea, hb, hl, q⟩ := h
    refine ⟨_, pss_cons (ps_set (i := 1) nd rfl (Or.inl rfl) (pe_lst pa_nil))
    (pss_cons (ps_set (i := 2) nd rfl (Or.inl rfl) (pe_lst pa_nil))
    (pss_cons (ps_for PassesOwn.never rfl (pi_list (pe_callB (cr_sortedSet rfl) (by rfl) T.sorted (by decide +kernel) (pa_cons (pe_callTy (cr_setTI rfl) (by rfl) T.set (by decide +kernel) (pa_cons (pv 0) pa_nil)) pa_nil))) (pg_name (i := 3) nd rfl (Or.inl rfl))
      (pss_one (ps_if (PW.pt (pw_or (pt_cmpR op_eq (pe_callB call_len_seq (by rfl) T.len (by decide +kernel) (pa_cons (pv 1) pa_nil)) pe_int (nomark _)) (pw_or1 (pt_not (pt_val (pe_cl c_is_sum hr (by omega) (pa_cons (pv 2) (pa_cons (pv 3) pa_nil)))))))) (pss_cons (ps_expr (pe_bm PySem.F.plainAttrs_list PySem.F.slot_list_append PySem.F.type_list_append mt_append (pv 1) (pa_cons (pv 3) pa_nil)))
        (pss_one (ps_set (i := 2) nd rfl (Or.inl rfl) (pe_cl c_leasts_of hr (by omega) (pa_cons (pv 1) pa_nil))))) pss_nil)))
    (pss_one (ps_ret (pe_callTy call_tuple_of (by rfl) T.tuple (by decide +kernel) (pa_cons (pv 1) pa_nil)))))), ?_⟩
    refine ⟨Nat.zero_le _, fun fo nfo => ?_⟩
    generalize eH1 : upd H fo (.lst []) = H1
    obtain ⟨s1, e1, f1⟩ := new_f nfo eH1
    refine ⟨Nat.zero_le _, fun lo nlo => ?_⟩
    generalize eH2 : upd H1 lo (.lst []) = H2
    obtain ⟨s2, e2, f2⟩ := new_f nlo eH2
    have hnm : ms.map natV = (ms.map (fun m : Nat => (m : Int))).map V.int := by rw [List.map_map]; rfl
    refine ⟨_, rfl, a, ms.map (fun m : Nat => (m : Int)), rfl, SqT.h (by rw [← hnm]; exact s2 _ _ (s1 _ _ ea)), by rw [List.length_map]; omega, fun so c nso hc => ?_⟩
    rw [List.length_map] at hc
    generalize eH3 : upd H2 so (SetO _ so (fun j => decide (j ∈ ms.map (fun m : Nat => (m : Int)))) c) = H3
    obtain ⟨s3, e3, f3⟩ := new_f nso eH3
    refine ⟨so, _, c, rfl, e3, by omega, fun ns p hpw hmem hlen np => ?_⟩
    generalize eH4 : upd H3 p (.lst (ns.map V.int)) = H4
    obtain ⟨s4, e4, f4⟩ := new_f np eH4
    have s14 : Same H1 H4 := (s2.trans s3).trans s4
    have hns : ∀ k ∈ ns, ∃ m ∈ ms, k = (m : Int) := fun k hk => by
      have := of_decide_eq_true ((hmem k).mp hk)
      obtain ⟨m, hm, e⟩ := List.mem_map.mp this
      exact ⟨m, hm, e.symm⟩
    have hms : ∀ m ∈ ms, ((m : Nat) : Int) ∈ ns := fun m hm => (hmem _).mpr (decide_eq_true (List.mem_map.mpr ⟨m, hm, rfl⟩))
    refine ⟨p, rfl, ⟨_, SqL.h e4⟩, for_list (K := K) (a := p) (xs := ns.map V.int) (fun i σ H' => ∃ (fs : List Nat) (lv : Addr) (y : Option V), σ = [some (.ref a), some (.ref fo), some (.ref lv), y] ∧ Same H H' ∧ H' p = some (.lst (ns.map V.int)) ∧ H' fo = some (.lst (fs.map natV)) ∧ (∀ m ∈ fs, m ∈ ms) ∧ fs.length ≤ i ∧
      (∀ k (x : Int), k < i → ns[k]? = some x → IsSum fs x.toNat) ∧ (fs = [] → i = 0) ∧ (fs ≠ [] → ∃ f, H' lv = some (.lst (f.map optV)) ∧ lv ≠ fo ∧ LeastsOf fs f)) ?_ ?_ ?_ ?_⟩
    · exact ⟨[], lo, none, rfl, s1.trans s14, e4, s14 _ _ e1, fun m hm => by (cases hm), Nat.le_refl _, fun k x hk => absurd hk (Nat.not_lt_zero _), fun _ => rfl, fun z => absurd rfl z⟩
    · rintro i σ H' hi ⟨fs, lv, y, _, _, ep, _⟩
      exact SqL.h ep
    · rintro i x σ H5 hx ⟨fs, lv, y, rfl, s5, ep5, efo, hsub, hfl, hdone, h0, hls⟩
      rw [List.getElem?_map] at hx
      have hin : i < ns.length := by
        cases e : ns[i]? with
        | none => rw [e] at hx; cases hx
        | some z => exact (List.getElem?_eq_some_iff.mp e).1
      have ex : ns[i]? = some ns[i] := List.getElem?_eq_getElem hin
      rw [ex] at hx
      have hx' : x = V.int ns[i] := (Option.some.inj hx).symm
      obtain ⟨m, hm, em⟩ := hns _ (List.getElem_mem hin)
      rw [em] at ex hx'
      subst hx'
      have hilen : ns.length ≤ 12 := by omega
      -- the append and the new table
      have grow : (∀ D : Ends, (∀ σ' H' fs' lv', σ' = [some (.ref a), some (.ref fo), some (.ref lv'), some (natV m)] → Same H H' → H' p = some (.lst (ns.map V.int)) → H' fo = some (.lst (fs'.map natV)) → fs' = fs ++ [m] → (∃ f, H' lv' = some (.lst (f.map optV)) ∧ lv' ≠ fo ∧ LeastsOf fs' f) → D.nx σ' H') →
          tSeq (tDrop (tBM K "list" rAppend (tVar 1) (tCons (tVar 3) tNil))) (tAsg (tCl sp_leasts_of (tCons (tVar 1) tNil)) (gName 2)) D [some (.ref a), some (.ref fo), some (.ref lv), some (natV m)] H5) := by
        intro D hD
        refine ⟨_, rfl, .inl ⟨rfl, _, SqL.h efo⟩, _, rfl, fo, _, _, rfl, rfl, efo, by rw [List.length_map]; exact lt60 (by omega), ?_⟩
        have eap : fs.map natV ++ [natV m] = (fs ++ [m]).map natV := by rw [List.map_append]; rfl
        rw [eap]
        generalize eH6 : upd H5 fo (.lst ((fs ++ [m]).map natV)) = H6
        obtain ⟨e6, f6⟩ := mut_f eH6
        have npf : p ≠ fo := by
          have : H1 p = none := (s2.trans s3).free np
          exact fun z => by rw [z, e1] at this; cases this
        refine ⟨_, rfl, fo, fs ++ [m], rfl, .inl e6, by simp, fun m' hm' => ?_, fun H7 p7 f7 s7 n7 e7 hl7 => ?_⟩
        · rcases List.mem_append.mp hm' with h | h
          · exact hb _ (hsub _ h)
          · rw [List.mem_singleton.mp h]; exact hb _ hm
        · exact hD _ H7 (fs ++ [m]) p7 rfl ((s5.mut nfo f6).trans s7) (s7 _ _ (by rw [f6 _ npf]; exact ep5)) (s7 _ _ e6) rfl ⟨f7, e7, fun z => (by rw [z, e6] at n7; cases n7), hl7⟩
      have after : ∀ fs', fs' = fs ++ [m] → (∀ m' ∈ fs', m' ∈ ms) ∧ fs'.length ≤ i + 1 ∧ (∀ k (x : Int), k < i + 1 → ns[k]? = some x → IsSum fs' x.toNat) ∧ (fs' = [] → i + 1 = 0) := by
        rintro _ rfl
        refine ⟨fun m' hm' => ?_, by simp; omega, fun k z hk hz => ?_, fun z => absurd z (by simp)⟩
        · rcases List.mem_append.mp hm' with h | h
          · exact hsub _ h
          · rw [List.mem_singleton.mp h]; exact hm
        · by_cases ek : k = i
          · subst ek
            rw [ex] at hz
            cases hz
            rw [Int.toNat_natCast]
            exact .one (by simp)
          · exact IsSum.of (fun b hb2 => .one (List.mem_append_left _ hb2)) (hdone k z (by omega) hz)
      refine ⟨_, rfl, fo, _, rfl, .inl (SqL.h efo), ?_⟩
      by_cases hf0 : fs = []
      · refine ⟨rfl, true, ?_, iteT ?_⟩
        · refine eT ?_
          show V.int _ = V.int 0
          rw [hf0]
          rfl
        · refine grow _ fun σ' H' fs' lv' e s' ep' efo' efs hl' => ?_
          obtain ⟨a1, a2, a3, a4⟩ := after fs' efs
          exact ⟨fs', lv', _, e, s', ep', efo', a1, a2, a3, a4, fun _ => hl'⟩
      · refine ⟨rfl, false, ?_, iteF ?_⟩
        · refine eF fun z => hf0 ?_
          have z' : (((fs.map natV).length : Nat) : Int) = 0 := V.int.inj z
          rw [List.length_map] at z'
          exact List.eq_nil_of_length_eq_zero (by omega)
        · obtain ⟨f5, e5, nlf, hl5⟩ := hls hf0
          refine ⟨_, rfl, _, rfl, lv, f5, m, fs, rfl, e5, hl5, fun b hbs => ⟨b, rfl, ?_⟩⟩
          cases b with
          | true =>
            refine iteF ?_
            refine ⟨fs, lv, _, rfl, s5, ep5, efo, hsub, by omega, fun k z hk hz => ?_, fun z => absurd z hf0, fun _ => ⟨f5, e5, nlf, hl5⟩⟩
            by_cases ek : k = i
            · subst ek
              rw [ex] at hz
              cases hz
              rw [Int.toNat_natCast]
              exact hbs.mp rfl
            · exact hdone k z (by omega) hz
          | false =>
            refine iteT ?_
            refine grow _ fun σ' H' fs' lv' e s' ep' efo' efs hl' => ?_
            obtain ⟨a1, a2, a3, a4⟩ := after fs' efs
            exact ⟨fs', lv', _, e, s', ep', efo', a1, a2, a3, a4, fun _ => hl'⟩
    · rintro σ H5 ⟨fs, lv, y, rfl, s5, ep5, efo, hsub, hfl, hdone, h0, hls⟩
      rw [List.length_map] at hdone h0
      refine ⟨_, rfl, fo, _, rfl, .inl ⟨SqL.h efo, fun tp ntp => ?_⟩⟩
      generalize eH6 : upd H5 tp (.tup (fs.map natV)) = H6
      obtain ⟨s6, e6, f6⟩ := new_f ntp eH6
      refine q H6 tp fs (s5.trans s6) (s5.free ntp) e6 (fun n => ⟨fun h => IsSum.of (fun b hb2 => .one (hsub b hb2)) h, fun h => IsSum.of (fun b hb2 => ?_) h⟩) hsub fun hne hfs => ?_
      · obtain ⟨k, hk⟩ := List.mem_iff_getElem?.mp (hms b hb2)
        have := hdone k _ (List.getElem?_eq_some_iff.mp hk).1 hk
        rwa [Int.toNat_natCast] at this
      · have z := h0 hfs
        obtain ⟨m, hm⟩ : ∃ m, m ∈ ms := by
          cases ms with
          | nil => exact absurd rfl hne
          | cons x r => exact ⟨x, List.mem_cons_self⟩
        have := hms m hm
        rw [List.eq_nil_of_length_eq_zero z] at this
        cases this
/-! ### are_makers -/
abbrev s_are_makers : Stmt := topS 29
abbrev Nare_makers : List Str := ["thing", "most", "maker"]
theorem sc_are_makers : FnScope Nare_makers ["thing", "most"] (defScope s_are_makers) := ⟨rfl, rfl, rfl, by decide +kernel, rfl, by decide +kernel, by decide +kernel⟩
def sp_are_makers : Sp := fun vs H Q _ => ∃ (a : Addr) (ms : List Nat), vs = [.ref a, .int 12] ∧ H a = some (.tup (ms.map natV)) ∧ (∀ m ∈ ms, 0 < m ∧ m ≤ 12) ∧ ms.length ≤ 12 ∧ ∀ H', Same H H' → Q (.bl true) H'
theorem rep_none (n : Nat) : (List.replicate n false).any id = false := by
  rw [List.any_eq_false]
  intro x hx
  rw [List.eq_of_mem_replicate hx]
  simp
theorem rep_snocF (n : Nat) : (List.replicate n false).map V.bl ++ [V.bl false] = (List.replicate (n + 1) false).map V.bl := by
  rw [List.replicate_succ', List.map_append]
  rfl
theorem ok_are_makers (T : Txt mg) (c_is_integer : Cl P w K mg base "is_integer" 1 ["thing"] sp_is_integer) (F : Fun K "are_makers" "are_makers" s_are_makers f fd) :
    FnOk P w K mg base CX0 2 f fd ["thing", "most"] sp_are_makers := by
  have nd := sc_are_makers.nd
  refine F.ok sc_are_makers (fun vs H Q Ex h => ?_) (fun cdv A outer s H vs Q Ex hr h => ?_)
  · obtain ⟨v, u, rfl, _⟩ := h
    rfl
  · obtain ⟨a, ms, rfl, ea, hb, hl, q⟩ := h
    refine ⟨_, pss_cons (ps_if (PW.pt (pw_or (pt_not (pt_val (pe_callB call_isi (by rfl) T.isinstance (by decide +kernel) (pa_cons (pv 0) (pa_cons (pe_ty (Ty := "tuple") T.tuple (by decide +kernel)) pa_nil))))) (pw_or1 (pt_not (pt_val (pe_callB (cr_all rfl) (by rfl) T.all (by decide +kernel) (pa_cons (pe_lc (own := [("maker", 2)]) (g := gName 2) rfl nd (pi_tup (pv 0)) (blkOk_by (own := [("maker", 2)]) (N := Nare_makers) (sc := defScope s_are_makers) (by decide +kernel)) (fun _ _ _ _ _ => (pg_name (i := 2) nd rfl (Or.inl rfl))) (fun _ _ _ _ _ => pts_nil) (fun _ _ _ _ _ => (pe_and (pe_cl c_is_integer hr (by omega) (pa_cons (pv 2) pa_nil)) (pe_one (pe_cmpR op_gt (pv 2) pe_int (nomark _)))))) pa_nil))))))) (pss_one (ps_ret pe_bl)) pss_nil)
    (pss_one (ps_ret (pe_or (pe_cmpR op_isN (pv 1) pe_non (nomark _)) (pe_one (pe_not (pe_callB (cr_any rfl) (by rfl) T.any (by decide +kernel) (pa_cons (pe_lc (own := [("maker", 2)]) (g := gName 2) rfl nd (pi_tup (pv 0)) (blkOk_by (own := [("maker", 2)]) (N := Nare_makers) (sc := defScope s_are_makers) (by decide +kernel)) (fun _ _ _ _ _ => (pg_name (i := 2) nd rfl (Or.inl rfl))) (fun _ _ _ _ _ => pts_nil) (fun _ _ _ _ _ => (pe_cmpR op_gt (pv 2) (pv 1) (nomark _)))) pa_nil))))))), ?_⟩
    refine ⟨_, rfl, _, _, _, _, true, rfl, .ty _, .base (.tup ea), isi_tuple_tuple, true, rfl, iteF ?_⟩
    refine ⟨_, rfl, a, rfl, ⟨_, SqT.h ea⟩, fun D nD => ?_⟩
    refine lc_tup (K := K) (a := a) (xs := ms.map natV) (fun i H' => Same H H' ∧ H' D = some (.lst ((List.replicate i true).map V.bl))) ⟨same_new _ nD, upd_same⟩ (fun i H' _ h' => SqT.h (h'.1 _ _ ea)) ?_ ?_
    · rintro i x H1 hx ⟨s1, eD⟩
      obtain ⟨m, em, rfl⟩ := nat_at hx
      have hm := hb m (List.mem_of_getElem? em)
      have hil := (List.getElem?_eq_some_iff.mp em).1
      refine ⟨rfl, _, rfl, _, rfl, true, rfl, iteT ?_⟩
      refine ⟨_, rfl, _, _, rfl, rfl, _, eD, ?_, ?_⟩
      · rw [List.length_map, List.length_replicate]
        exact lt60 (by omega)
      · rw [show (fun (i j : Int) => V.bl (decide (j < i))) (m : Int) 0 = V.bl true from congrArg V.bl (decide_eq_true (show (0 : Int) < (m : Int) by omega)), rep_snoc]
        exact ⟨s1.mut nD (fun b hb => upd_ne hb), upd_same⟩
    · rintro H2 ⟨s2, eD⟩
      refine ⟨D, _, rfl, SqL.h eD, ?_⟩
      rw [rep_all']
      refine ⟨true, rfl, iteF ?_⟩
      refine ⟨_, rfl, rfl, false, eF (fun z => by cases z), iteF ?_⟩
      refine ⟨_, rfl, a, rfl, ⟨_, SqT.h (s2 _ _ ea)⟩, fun D2 nD2 => ?_⟩
      refine lc_tup (K := K) (a := a) (xs := ms.map natV) (fun i H' => Same H2 H' ∧ H' D2 = some (.lst ((List.replicate i false).map V.bl))) ⟨same_new _ nD2, upd_same⟩ (fun i H' _ h' => SqT.h (h'.1 _ _ (s2 _ _ ea))) ?_ ?_
      · rintro i x H1 hx ⟨s1, eD2⟩
        obtain ⟨m, em, rfl⟩ := nat_at hx
        have hm := hb m (List.mem_of_getElem? em)
        have hil := (List.getElem?_eq_some_iff.mp em).1
        refine ⟨rfl, _, rfl, _, rfl, _, _, rfl, rfl, _, eD2, ?_, ?_⟩
        · rw [List.length_map, List.length_replicate]
          exact lt60 (by omega)
        · rw [show (fun (i j : Int) => V.bl (decide (j < i))) (m : Int) 12 = V.bl false from congrArg V.bl (decide_eq_false (show ¬ (12 : Int) < (m : Int) by omega)), rep_snocF]
          exact ⟨s1.mut nD2 (fun b hb => upd_ne hb), upd_same⟩
      · rintro H3 ⟨s3, eD3⟩
        refine ⟨D2, _, rfl, SqL.h eD3, ?_⟩
        rw [rep_none]
        exact ⟨false, rfl, q _ (s2.trans s3)⟩
/-! ### are_flags -/
abbrev s_are_flags : Stmt := topS 30
abbrev Nare_flags : List Str := ["thing", "flag"]
theorem sc_are_flags : FnScope Nare_flags ["thing"] (defScope s_are_flags) := ⟨rfl, rfl, rfl, by decide +kernel, rfl, by decide +kernel, by decide +kernel⟩
def sp_are_flags : Sp := fun vs H Q _ => ∃ (a : Addr) (fs : List Bool), vs = [.ref a] ∧ H a = some (.tup (fs.map V.bl)) ∧ fs.length ≤ 60 ∧ ∀ H', Same H H' → Q (.bl true) H'
theorem bool_at {fs : List Bool} {i : Nat} {x : V} (h : (fs.map V.bl)[i]? = some x) : ∃ m, fs[i]? = some m ∧ x = V.bl m := by
  rw [List.getElem?_map] at h
  cases e : fs[i]? with
  | none => rw [e] at h; cases h
  | some m =>
    rw [e] at h
    exact ⟨m, rfl, (Option.some.inj h).symm⟩
theorem ok_are_flags (T : Txt mg) (F : Fun K "are_flags" "are_flags" s_are_flags f fd) : FnOk P w K mg base CX0 1 f fd ["thing"] sp_are_flags := by
  have nd := sc_are_flags.nd
  refine F.ok sc_are_flags (fun vs H Q Ex h => ?_) (fun cdv A outer s H vs Q Ex hr h => ?_)
  · obtain ⟨v, u, rfl, _⟩ := h
    rfl
  · obtain ⟨a, fs, rfl, ea, hl, q⟩ := h
    refine ⟨_, pss_one (ps_ret (pe_and (pe_callB call_isi (by rfl) T.isinstance (by decide +kernel) (pa_cons (pv 0) (pa_cons (pe_ty (Ty := "tuple") T.tuple (by decide +kernel)) pa_nil))) (pe_one (pe_callB (cr_all rfl) (by rfl) T.all (by decide +kernel) (pa_cons (pe_lc (own := [("flag", 1)]) (g := gName 1) rfl nd (pi_tup (pv 0)) (blkOk_by (own := [("flag", 1)]) (N := Nare_flags) (sc := defScope s_are_flags) (by decide +kernel)) (fun _ _ _ _ _ => (pg_name (i := 1) nd rfl (Or.inl rfl))) (fun _ _ _ _ _ => pts_nil) (fun _ _ _ _ _ => (pe_callB (r := rIsi K) call_isi (by rfl) T.isinstance (by decide +kernel) (pa_cons (pv 1) (pa_cons (pe_ty (Ty := "bool") T.bool (by decide +kernel)) pa_nil))))) pa_nil))))), ?_⟩
    refine ⟨_, rfl, _, _, _, _, true, rfl, .ty _, .base (.tup ea), isi_tuple_tuple, true, rfl, iteT ?_⟩
    refine ⟨_, rfl, a, rfl, ⟨_, SqT.h ea⟩, fun D nD => ?_⟩
    refine lc_tup (K := K) (a := a) (xs := fs.map V.bl) (fun i H' => Same H H' ∧ H' D = some (.lst ((List.replicate i true).map V.bl))) ⟨same_new _ nD, upd_same⟩ (fun i H' _ h' => SqT.h (h'.1 _ _ ea)) ?_ ?_
    · rintro i x H1 hx ⟨s1, eD⟩
      obtain ⟨m, em, rfl⟩ := bool_at hx
      have hil := (List.getElem?_eq_some_iff.mp em).1
      refine ⟨rfl, _, rfl, _, _, _, _, true, rfl, .ty _, .base (.bl m), isi_bool_bool, _, eD, ?_, ?_⟩
      · rw [List.length_map, List.length_replicate]
        exact lt60 (by omega)
      · rw [rep_snoc]
        exact ⟨s1.mut nD (fun b hb => upd_ne hb), upd_same⟩
    · rintro H2 ⟨s2, eD⟩
      refine ⟨D, _, rfl, SqL.h eD, ?_⟩
      rw [rep_all']
      exact q _ s2
end
end K8
namespace K8
open PySem PySem.Spec PyProof.Rows L2
/-- what isinstance asks of a class of the program -/
structure ClsIs (K : PySem.W.Frag) (C : Addr) : Prop where
  ha : PySem.W.findIn K (.ref C) "__class__" = some (some (.builtin "object.__class__"))
  hn : PySem.W.specialIn K (.builtin "object.__class__") "__get__" = some (some (.builtin "getset_descriptor.__get__"))
  ht : PySem.W.takesIn K (.builtin "object.__class__") = some true
  hm : PySem.W.mroIn K C (.type "object") = some true
/-- what the written part says of the three classes -/
structure CTxt (K : PySem.W.Frag) (mg : Str → Option Value) (CL CR CB : Addr) : Prop where
  gL : mg "Lot" = some (.ref CL)
  gR : mg "RawLot" = some (.ref CR)
  gB : mg "Book" = some (.ref CB)
  cL : Cls K CL
  cR : Cls K CR
  cB : Cls K CB
  lWord : NoAttr K CL "word"
  lMakers : NoAttr K CL "makers"
  lLeasts : NoAttr K CL "leasts"
  rHeads : NoAttr K CR "heads"
  rRounds : NoAttr K CR "rounds"
  bLot : NoAttr K CB "lot"
  bTools : NoAttr K CB "tools"
  iL : ClsIs K CL
  iR : ClsIs K CR
  kLR : PySem.W.kitOne K (.ref CL) (.ref CR) = some false
  kRR : PySem.W.kitOne K (.ref CR) (.ref CR) = some true
  kL : PySem.W.kitAny K (.ref CL) [.ref CL, .ref CR] = some true
  kR : PySem.W.kitAny K (.ref CR) [.ref CL, .ref CR] = some true
/-- all but p stays -/
def SameB (p : Addr) (H H' : Hp) : Prop := ∀ b o, b ≠ p → H b = some o → H' b = some o
theorem SameB.of {p : Addr} {H H' : Hp} (s : Same H H') : SameB p H H' := fun b o _ e => s b o e
theorem SameB.trans {p : Addr} {H H1 H2 : Hp} (s : SameB p H H1) (t : SameB p H1 H2) : SameB p H H2 := fun b o hb e => t b o hb (s b o hb e)
theorem SameB.upd {p : Addr} {H : Hp} {o : HO} : SameB p H (upd H p o) := fun b x hb e => by rw [upd_ne hb]; exact e
/-- a Lot of word wd over the makers ms -/
def LotF (H : Hp) (wd : Str) (ms : List Nat) (fs : List (Str × V)) : Prop := fs.lookup ("word" : Str) = some (.str wd) ∧ (wd = "more" → ∃ la f, fs.lookup ("leasts" : Str) = some (.ref la) ∧ H la = some (.lst (f.map optV)) ∧ LeastsOf ms f)
theorem LotF.mono {H H' : Hp} {wd : Str} {ms : List Nat} {fs : List (Str × V)} (h : LotF H wd ms fs) (s : ∀ b xs, H b = some (.lst xs) → H' b = some (.lst xs)) : LotF H' wd ms fs := by
  obtain ⟨h1, h2⟩ := h
  refine ⟨h1, fun e => ?_⟩
  obtain ⟨la, f, e1, e2, e3⟩ := h2 e
  exact ⟨la, f, e1, s _ _ e2, e3⟩
theorem leasts_iff {as bs : List Nat} {f : List (Option Nat)} (h : LeastsOf as f) (e : ∀ n, IsSum as n ↔ IsSum bs n) : LeastsOf bs f := ⟨h.1, fun n => (e n).symm.trans (h.2 n)⟩
theorem putF_lt1 {f : Str} {v : V} : (putF f v []).length < 1000 := by
  have := length_putF f v []
  simp only [List.length_nil] at this
  omega
theorem putF_lt2 {f g : Str} {v x : V} : (putF f v (putF g x [])).length < 1000 := by
  have h1 := length_putF f v (putF g x [])
  have h2 := length_putF g x []
  simp only [List.length_nil] at h2
  omega
theorem ne_wm : ¬ ("word" : Str) = "makers" := by decide +kernel
theorem ne_wl : ¬ ("word" : Str) = "leasts" := by decide +kernel
theorem ne_ml : ¬ ("makers" : Str) = "leasts" := by decide +kernel
theorem ne_mw : ¬ ("makers" : Str) = "word" := by decide +kernel
theorem ne_hr : ¬ ("heads" : Str) = "rounds" := by decide +kernel
section
variable {P : Program} {w : World} {K : PySem.W.Frag} {mg : Str → Option Value} {base : Heap} {f : Addr} {fd : FuncData} {CL CR CB : Addr}
/-! ### Lot.keep -/
abbrev s_Lot_keep : Stmt := inClass (topS 31) 1
abbrev NLot_keep : List Str := ["self", "word", "makers"]
theorem sc_Lot_keep : FnScope NLot_keep ["self", "word", "makers"] (defScope s_Lot_keep) := ⟨rfl, rfl, rfl, by decide +kernel, rfl, by decide +kernel, by decide +kernel⟩
def sp_Lot_keep (CL : Addr) : Sp := fun vs H Q _ => ∃ (p dx a : Addr) (ms : List Nat) (wd : Str), vs = [.ref p, .str wd, .ref a] ∧ H p = some (.ins CL dx []) ∧ H a = some (.tup (ms.map natV)) ∧ (∀ m ∈ ms, 0 < m ∧ m ≤ 12) ∧ ms.length ≤ 12 ∧ (wd = "more" → ms ≠ []) ∧
  ∀ H' fs, SameB p H H' → H' p = some (.ins CL dx fs) → LotF H' wd ms fs → Q .non H'
theorem ok_Lot_keep (T : Txt mg) (C : CTxt K mg CL CR CB) (c_needed_makers : Cl P w K mg base "needed_makers" 2 ["makers"] sp_needed_makers) (c_leasts_of : Cl P w K mg base "leasts_of" 1 ["makers"] sp_leasts_of)
    (F : Fun K "keep" "Lot.keep" s_Lot_keep f fd) : FnOk P w K mg base CX0 3 f fd ["self", "word", "makers"] (sp_Lot_keep CL) := by
  have nd := sc_Lot_keep.nd
  refine F.ok sc_Lot_keep (fun vs H Q Ex h => ?_) (fun cdv A outer s H vs Q Ex hr h => ?_)
  · obtain ⟨_, _, _, _, _, rfl, _⟩ := h
    rfl
  · obtain ⟨p, dx, a, ms, wd, rfl, ep, ea, hb, hl, hmore, q⟩ := h
    refine ⟨_, pss_cons (ps_fld (pv 0) (pv 1) rfl)
    (pss_cons (ps_fld (pv 0) (pe_cl c_needed_makers hr (by omega) (pa_cons (pv 2) pa_nil)) rfl)
    (pss_one (ps_fld (pv 0) (pe_ifExp (pt_cmpR op_eq (pv 1) (pe_gs T.cMORE) (nomark _)) (pe_cl c_leasts_of hr (by omega) (pa_cons (pe_fld (pv 0) rfl) pa_nil)) (pe_lst pa_nil)) rfl))), ?_⟩
    refine ⟨_, rfl, _, rfl, p, CL, dx, [], rfl, ep, C.cL, C.lWord, by decide, ?_⟩
    generalize eH1 : upd H p (.ins CL dx (putF "word" (.str wd) [])) = H1
    obtain ⟨e1, f1⟩ := mut_f eH1
    have nap : a ≠ p := ne_of ea ep (by intro z; cases z)
    refine ⟨_, rfl, a, ms, rfl, by rw [f1 _ nap]; exact ea, hb, hl, fun H2 np ns s2 nn e2 hsum hsub hne => ?_⟩
    refine ⟨_, rfl, p, CL, dx, _, rfl, s2 _ _ e1, C.cL, C.lMakers, putF_lt1, ?_⟩
    generalize eH3 : upd H2 p (.ins CL dx (putF "makers" (.ref np) (putF "word" (.str wd) []))) = H3
    obtain ⟨e3, f3⟩ := mut_f eH3
    have nnp : np ≠ p := ne_of e2 (s2 _ _ e1) (by intro z; cases z)
    have e3n : H3 np = some (.tup (ns.map natV)) := by rw [f3 _ nnp]; exact e2
    have b13 : SameB p H H3 := fun b o hb2 e => by
      rw [f3 _ hb2]
      exact s2 _ _ (by rw [f1 _ hb2]; exact e)
    refine ⟨_, rfl, rfl, _, rfl, ?_⟩
    refine ite2 (fun c => ?_) (fun c => ?_)
    · have ewd : wd = "more" := V.str.inj (of_decide_eq_true c)
      refine ⟨_, rfl, p, CL, dx, _, .ref np, rfl, e3, C.cL, C.lMakers, ?_, np, ns, rfl, .inr e3n, hne (hmore ewd), fun m hm => hb m (hsub m hm), fun H4 lp fl s4 nlp e4 hls => ?_⟩
      · rw [lookup_putF, if_pos rfl]
      refine ⟨_, rfl, p, CL, dx, _, rfl, s4 _ _ e3, C.cL, C.lLeasts, putF_lt2, ?_⟩
      generalize eH5 : upd H4 p (.ins CL dx (putF "leasts" (.ref lp) (putF "makers" (.ref np) (putF "word" (.str wd) [])))) = H5
      obtain ⟨e5, f5⟩ := mut_f eH5
      have nlp2 : lp ≠ p := ne_of e4 (s4 _ _ e3) (by intro z; cases z)
      refine q H5 _ (fun b o hb2 e => by rw [f5 _ hb2]; exact s4 _ _ (b13 b o hb2 e)) e5 ⟨?_, fun _ => ⟨lp, fl, ?_, by rw [f5 _ nlp2]; exact e4, leasts_iff hls hsum⟩⟩
      · rw [lookup_putF, if_neg ne_wl, lookup_putF, if_neg ne_wm, lookup_putF, if_pos rfl]
      · rw [lookup_putF, if_pos rfl]
    · have ewd : ¬ wd = "more" := fun z => c (decide_eq_true (by rw [z]))
      refine ⟨Nat.zero_le _, fun lp nlp => ?_⟩
      generalize eH4 : upd H3 lp (.lst []) = H4
      obtain ⟨s4, e4, f4⟩ := new_f nlp eH4
      refine ⟨_, rfl, p, CL, dx, _, rfl, s4 _ _ e3, C.cL, C.lLeasts, putF_lt2, ?_⟩
      generalize eH5 : upd H4 p (.ins CL dx (putF "leasts" (.ref lp) (putF "makers" (.ref np) (putF "word" (.str wd) [])))) = H5
      obtain ⟨e5, f5⟩ := mut_f eH5
      refine q H5 _ (fun b o hb2 e => by rw [f5 _ hb2]; exact s4 _ _ (b13 b o hb2 e)) e5 ⟨?_, fun z => absurd z ewd⟩
      rw [lookup_putF, if_neg ne_wl, lookup_putF, if_neg ne_wm, lookup_putF, if_pos rfl]
/-! ### Lot.__init__ -/
abbrev s_Lot_init : Stmt := inClass (topS 31) 0
abbrev NLot_init : List Str := ["self", "word", "makers"]
theorem sc_Lot_init : FnScope NLot_init ["self", "word", "makers"] (defScope s_Lot_init) := ⟨rfl, rfl, rfl, by decide +kernel, rfl, by decide +kernel, by decide +kernel⟩
def wordOk (wd : Str) : Prop := wd = "once" ∨ wd = "loan" ∨ wd = "free" ∨ wd = "more"
def sp_Lot_init (CL : Addr) : Sp := fun vs H Q _ => ∃ (p dx a : Addr) (ms : List Nat) (wd : Str), vs = [.ref p, .str wd, .ref a] ∧ H p = some (.ins CL dx []) ∧ H a = some (.tup (ms.map natV)) ∧ (∀ m ∈ ms, 0 < m ∧ m ≤ 12) ∧ ms.length ≤ 4 ∧ wordOk wd ∧ (wd = "more" ↔ ms ≠ []) ∧
  ∀ H' fs, SameB p H H' → H' p = some (.ins CL dx fs) → LotF H' wd ms fs → Q .non H'
theorem ok_Lot_init (T : Txt mg) (C : CTxt K mg CL CR CB) (c_are_makers : Cl P w K mg base "are_makers" 2 ["thing", "most"] sp_are_makers) (m_keep : C8.Met P w K mg base 3 CL "keep" (sp_Lot_keep CL) [])
    (F : Fun K "__init__" "Lot.__init__" s_Lot_init f fd) : FnOk P w K mg base CX0 4 f fd ["self", "word", "makers"] (sp_Lot_init CL) := by
  have nd := sc_Lot_init.nd
  refine F.ok sc_Lot_init (fun vs H Q Ex h => ?_) (fun cdv A outer s H vs Q Ex hr h => ?_)
  · obtain ⟨_, _, _, _, _, rfl, _⟩ := h
    rfl
  · obtain ⟨p, dx, a, ms, wd, rfl, ep, ea, hb, hl, hwd, hmore, q⟩ := h
    refine ⟨_, pss_cons (ps_if (PW.pt (pw_or (pt_not (pt_val (pe_callB call_isi (by rfl) T.isinstance (by decide +kernel) (pa_cons (pv 1) (pa_cons (pe_ty (Ty := "str") T.str (by decide +kernel)) pa_nil))))) (pw_or1 (pt_cmpR op_notIn_seq (pv 1) (pe_tup (pa_cons (pe_gs T.cONCE) (pa_cons (pe_gs T.cLOAN) (pa_cons (pe_gs T.cFREE) (pa_cons (pe_gs T.cMORE) pa_nil))))) (by rfl))))) (pss_one ps_never) pss_nil)
    (pss_cons (ps_if (PW.pt (pw_or (pt_not (pt_val (pe_cl c_are_makers hr (by omega) (pa_cons (pv 2) (pa_cons (pe_gi T.cMOST_MAKER) pa_nil))))) (pw_or (pt_cmpR op_ne (pe_cmpR op_gt (pe_callB call_len_seq (by rfl) T.len (by decide +kernel) (pa_cons (pv 2) pa_nil)) pe_int (nomark _)) (pe_cmpR op_eq (pv 1) (pe_gs T.cMORE) (nomark _)) (nomark _)) (pw_or1 (pt_cmpR op_gt (pe_callB call_len_seq (by rfl) T.len (by decide +kernel) (pa_cons (pv 2) pa_nil)) (pe_gi T.cMOST_MAKERS) (nomark _)))))) (pss_one ps_never) pss_nil)
    (pss_one (ps_expr (C8.pe_mt m_keep hr (by omega) (pv 0) (pa_cons (pv 1) (pa_cons (pv 2) pa_nil)))))), ?_⟩
    refine ⟨_, rfl, _, _, _, _, true, rfl, .ty _, .base (.str wd), isi_str_str, true, rfl, iteF ?_⟩
    refine ⟨_, rfl, (by show 4 ≤ sizeLine; decide), fun tp ntp => ?_⟩
    generalize eH1 : upd H tp (.tup [V.str "once", V.str "loan", V.str "free", V.str "more"]) = H1
    obtain ⟨s1, e1, f1⟩ := new_f ntp eH1
    refine ⟨tp, _, rfl, .inr (SqT.h e1), rfl, rfl, false, ?_, iteF ?_⟩
    · show V.bl (!inV (V.str wd) [V.str "once", V.str "loan", V.str "free", V.str "more"]) = V.bl false
      rcases hwd with rfl | rfl | rfl | rfl <;> decide +kernel
    refine ⟨_, rfl, a, ms, rfl, s1 _ _ ea, hb, by omega, fun H2 s2 => ⟨true, rfl, iteF ?_⟩⟩
    have ea2 := s2 _ _ (s1 _ _ ea)
    have ep2 := s2 _ _ (s1 _ _ ep)
    refine ⟨_, rfl, a, _, rfl, .inr (SqT.h ea2), _, _, rfl, rfl, _, rfl, rfl, rfl, false, ?_, iteF ?_⟩
    · show V.bl (!decide (V.bl (decide ((0 : Int) < (((ms.map natV).length : Nat) : Int))) = V.bl (decide (V.str wd = V.str "more")))) = V.bl false
      by_cases e : wd = "more"
      · have hne := hmore.mp e
        have hpos : 0 < ms.length := List.length_pos_iff.mpr hne
        rw [List.length_map, decide_eq_true (show (0 : Int) < (ms.length : Int) by omega), e]
        decide +kernel
      · have hne : ms = [] := by
          cases ms with
          | nil => rfl
          | cons x r => exact absurd (hmore.mpr (by simp)) e
        rw [hne, decide_eq_false (show ¬ V.str wd = V.str "more" from fun z => e (V.str.inj z))]
        decide +kernel
    refine ⟨_, rfl, a, _, rfl, .inr (SqT.h ea2), _, _, rfl, rfl, false, ?_, iteF ?_⟩
    · refine eF ?_
      rw [List.length_map]
      omega
    refine ⟨_, rfl, p, dx, [], rfl, ep2, rfl, _, rfl, _, rfl, p, dx, a, ms, wd, rfl, ep2, ea2, hb, by omega, hmore.mp, fun H3 fs b3 e3 l3 => ?_⟩
    exact q H3 fs ((SameB.of (s1.trans s2)).trans b3) e3 l3
end
end K8
namespace K8
open PySem PySem.Spec PyProof.Rows L2
def RawF (H : Hp) (hs rs : List Bool) (fs : List (Str × V)) : Prop := ∃ ah ar, fs.lookup ("heads" : Str) = some (.ref ah) ∧ H ah = some (.tup (hs.map V.bl)) ∧ fs.lookup ("rounds" : Str) = some (.ref ar) ∧ H ar = some (.tup (rs.map V.bl)) ∧ rs ≠ []
theorem RawF.mono {H H' : Hp} {hs rs : List Bool} {fs : List (Str × V)} (h : RawF H hs rs fs) (t : Tups H H') : RawF H' hs rs fs := by
  obtain ⟨ah, ar, h1, h2, h3, h4, h5⟩ := h
  exact ⟨ah, ar, h1, t _ _ h2, h3, t _ _ h4, h5⟩
/-- a lot as it lies at p -/
def LtV (CL CR : Addr) (H : Hp) (p : Addr) : Lt → Prop
  | .once => ∃ dx fs, H p = some (.ins CL dx fs) ∧ LotF H "once" [] fs
  | .loan => ∃ dx fs, H p = some (.ins CL dx fs) ∧ LotF H "loan" [] fs
  | .free => ∃ dx fs, H p = some (.ins CL dx fs) ∧ LotF H "free" [] fs
  | .more ms => ∃ dx fs, H p = some (.ins CL dx fs) ∧ LotF H "more" ms fs
  | .raw hs rs => ∃ dx fs, H p = some (.ins CR dx fs) ∧ RawF H hs rs fs
theorem LtV.mono {CL CR : Addr} {H H' : Hp} {p : Addr} (s : Same H H') : ∀ {l : Lt}, LtV CL CR H p l → LtV CL CR H' p l
  | .once, ⟨dx, fs, e, h⟩ => ⟨dx, fs, s _ _ e, h.mono fun b xs e => s _ _ e⟩
  | .loan, ⟨dx, fs, e, h⟩ => ⟨dx, fs, s _ _ e, h.mono fun b xs e => s _ _ e⟩
  | .free, ⟨dx, fs, e, h⟩ => ⟨dx, fs, s _ _ e, h.mono fun b xs e => s _ _ e⟩
  | .more ms, ⟨dx, fs, e, h⟩ => ⟨dx, fs, s _ _ e, h.mono fun b xs e => s _ _ e⟩
  | .raw hs rs, ⟨dx, fs, e, h⟩ => ⟨dx, fs, s _ _ e, h.mono s.tups⟩
open Classical in
theorem holds_more0 (ms : List Nat) : (Lt.more ms).holds 0 = false := by
  unfold Lt.holds
  exact decide_eq_false fun z => absurd z.1 (Nat.lt_irrefl 0)
open Classical in
theorem holds_moreS {ms : List Nat} {n : Nat} {b : Bool} (hb : b = true ↔ IsSum ms n) : (Lt.more ms).holds (n + 1) = b := by
  unfold Lt.holds
  cases b with
  | true => exact decide_eq_true ⟨Nat.succ_pos _, hb.mp rfl⟩
  | false =>
    refine decide_eq_false fun z => ?_
    have h2 := hb.mpr z.2
    cases h2
theorem getD_at {l : List Bool} {i : Nat} (h : i < l.length) : l[i]? = some ((l[i]?).getD false) := by rw [List.getElem?_eq_getElem h]; rfl
section
variable {P : Program} {w : World} {K : PySem.W.Frag} {mg : Str → Option Value} {base : Heap} {f : Addr} {fd : FuncData} {CL CR CB : Addr}
/-! ### holds_raw -/
abbrev s_holds_raw : Stmt := topS 33
abbrev Nholds_raw : List Str := ["raw", "number"]
theorem sc_holds_raw : FnScope Nholds_raw ["raw", "number"] (defScope s_holds_raw) := ⟨rfl, rfl, rfl, by decide +kernel, rfl, by decide +kernel, by decide +kernel⟩
def sp_holds_raw (CR : Addr) : Sp := fun vs H Q _ => ∃ (p dx : Addr) (fs : List (Str × V)) (hs rs : List Bool) (n : Nat), vs = [.ref p, natV n] ∧ H p = some (.ins CR dx fs) ∧ RawF H hs rs fs ∧ Q (.bl ((Lt.raw hs rs).holds n)) H
theorem ok_holds_raw (T : Txt mg) (C : CTxt K mg CL CR CB) (F : Fun K "holds_raw" "holds_raw" s_holds_raw f fd) : FnOk P w K mg base CX0 1 f fd ["raw", "number"] (sp_holds_raw CR) := by
  have nd := sc_holds_raw.nd
  refine F.ok sc_holds_raw (fun vs H Q Ex h => ?_) (fun cdv A outer s H vs Q Ex hr h => ?_)
  · obtain ⟨_, _, _, _, _, _, rfl, _⟩ := h
    rfl
  · obtain ⟨p, dx, fs, hs, rs, n, rfl, ep, ⟨ah, ar, lh, eh, lr, er, hne⟩, q⟩ := h
    refine ⟨_, pss_cons (ps_if (pt_cmpR op_lt (pv 1) (pe_callB call_len_seq (by rfl) T.len (by decide +kernel) (pa_cons (pe_fld (pv 0) rfl) pa_nil)) (nomark _)) (pss_one (ps_ret (pe_ix ix_tup (pe_fld (pv 0) rfl) (pv 1) (fun _ _ => rfl)))) pss_nil)
    (pss_one (ps_ret (pe_ix ix_tup (pe_fld (pv 0) rfl) (pe_op op_mod (pe_op op_sub (pv 1) (pe_callB call_len_seq (by rfl) T.len (by decide +kernel) (pa_cons (pe_fld (pv 0) rfl) pa_nil))) (pe_callB call_len_seq (by rfl) T.len (by decide +kernel) (pa_cons (pe_fld (pv 0) rfl) pa_nil))) (fun _ _ => rfl)))), ?_⟩
    have hpos : 0 < rs.length := List.length_pos_iff.mpr hne
    refine ⟨_, rfl, _, rfl, p, CR, dx, fs, .ref ah, rfl, ep, C.cR, C.rHeads, lh, ah, _, rfl, .inr (SqT.h eh), _, _, rfl, rfl, _, rfl, ?_⟩
    by_cases hn : n < hs.length
    · refine ite2 (fun c => ?_) (fun c => ?_)
      · refine ⟨_, rfl, p, CR, dx, fs, .ref ah, rfl, ep, C.cR, C.rHeads, lh, _, rfl, ah, _, (n : Int), V.bl ((hs[n]?).getD false), rfl, rfl, SqT.h eh, atI_nat (by rw [List.getElem?_map, getD_at hn]; rfl), ?_⟩
        have e : (Lt.raw hs rs).holds n = (hs[n]?).getD false := if_pos hn
        rw [e] at q
        exact q
      · exact absurd (decide_eq_true (show (n : Int) < (((hs.map V.bl).length : Nat) : Int) by rw [List.length_map]; omega)) c
    · refine ite2 (fun c => ?_) (fun c => ?_)
      · have c' : (n : Int) < (((hs.map V.bl).length : Nat) : Int) := of_decide_eq_true c
        rw [List.length_map] at c'
        omega
      · have hjl : (n - hs.length) % rs.length < rs.length := Nat.mod_lt _ hpos
        refine ⟨_, rfl, p, CR, dx, fs, .ref ar, rfl, ep, C.cR, C.rRounds, lr, _, rfl, _, rfl, p, CR, dx, fs, .ref ah, rfl, ep, C.cR, C.rHeads, lh, ah, _, rfl, .inr (SqT.h eh), _, _, rfl, rfl, _, rfl, p, CR, dx, fs, .ref ar, rfl, ep, C.cR, C.rRounds, lr, ar, _, rfl, .inr (SqT.h er), _, _, rfl, rfl, ?_,
          ar, _, (((n - hs.length) % rs.length : Nat) : Int), V.bl ((rs[(n - hs.length) % rs.length]?).getD false), rfl, ?_, SqT.h er, atI_nat (by rw [List.getElem?_map, getD_at hjl]; rfl), ?_⟩
        · show (0 : Int) < (((rs.map V.bl).length : Nat) : Int)
          rw [List.length_map]
          omega
        · show V.int (((n : Int) - (((hs.map V.bl).length : Nat) : Int)) % (((rs.map V.bl).length : Nat) : Int)) = _
          rw [List.length_map, List.length_map]
          congr 1
          rw [show (n : Int) - (hs.length : Int) = ((n - hs.length : Nat) : Int) by omega]
          simp
        · have e : (Lt.raw hs rs).holds n = (rs[(n - hs.length) % rs.length]?).getD false := if_neg hn
          rw [e] at q
          exact q
/-! ### RawLot.__init__ -/
abbrev s_RawLot_init : Stmt := inClass (topS 32) 0
abbrev NRawLot_init : List Str := ["self", "heads", "rounds"]
theorem sc_RawLot_init : FnScope NRawLot_init ["self", "heads", "rounds"] (defScope s_RawLot_init) := ⟨rfl, rfl, rfl, by decide +kernel, rfl, by decide +kernel, by decide +kernel⟩
def sp_RawLot_init (CR : Addr) : Sp := fun vs H Q _ => ∃ (p dx a b : Addr) (hs rs : List Bool), vs = [.ref p, .ref a, .ref b] ∧ H p = some (.ins CR dx []) ∧ H a = some (.tup (hs.map V.bl)) ∧ H b = some (.tup (rs.map V.bl)) ∧ hs.length ≤ 8 ∧ 1 ≤ rs.length ∧ rs.length ≤ 6 ∧ (Lt.raw hs rs).holds 1 = true ∧
  ∀ H' fs, SameB p H H' → H' p = some (.ins CR dx fs) → RawF H' hs rs fs → Q .non H'
theorem ok_RawLot_init (T : Txt mg) (C : CTxt K mg CL CR CB) (c_are_flags : Cl P w K mg base "are_flags" 1 ["thing"] sp_are_flags) (c_holds_raw : Cl P w K mg base "holds_raw" 1 ["raw", "number"] (sp_holds_raw CR))
    (F : Fun K "__init__" "RawLot.__init__" s_RawLot_init f fd) : FnOk P w K mg base CX0 2 f fd ["self", "heads", "rounds"] (sp_RawLot_init CR) := by
  have nd := sc_RawLot_init.nd
  refine F.ok sc_RawLot_init (fun vs H Q Ex h => ?_) (fun cdv A outer s H vs Q Ex hr h => ?_)
  · obtain ⟨_, _, _, _, _, _, rfl, _⟩ := h
    rfl
  · obtain ⟨p, dx, a, b, hs, rs, rfl, ep, ea, eb, hl, hr1, hr6, h1, q⟩ := h
    refine ⟨_, pss_cons (ps_if (PW.pt (pw_or (pt_not (pt_val (pe_cl c_are_flags hr (by omega) (pa_cons (pv 1) pa_nil)))) (pw_or1 (pt_cmpR op_gt (pe_callB call_len_seq (by rfl) T.len (by decide +kernel) (pa_cons (pv 1) pa_nil)) (pe_gi T.cMOST_HEADS) (nomark _))))) (pss_one ps_never) pss_nil)
    (pss_cons (ps_if (PW.pt (pw_or (pt_not (pt_val (pe_cl c_are_flags hr (by omega) (pa_cons (pv 2) pa_nil)))) (pw_or1 (pt_not (pt_chain op_le op_le pe_int (pe_callB call_len_seq (by rfl) T.len (by decide +kernel) (pa_cons (pv 2) pa_nil)) (pe_gi T.cMOST_ROUNDS)))))) (pss_one ps_never) pss_nil)
    (pss_cons (ps_fld (pv 0) (pv 1) rfl)
    (pss_cons (ps_fld (pv 0) (pv 2) rfl)
    (pss_one (ps_if (pt_not (pt_val (pe_cl c_holds_raw hr (by omega) (pa_cons (pv 0) (pa_cons pe_int pa_nil))))) (pss_one ps_never) pss_nil))))), ?_⟩
    refine ⟨_, rfl, a, hs, rfl, ea, by omega, fun H1 s1 => ⟨true, rfl, iteF ?_⟩⟩
    refine ⟨_, rfl, a, _, rfl, .inr (SqT.h (s1 _ _ ea)), _, _, rfl, rfl, false, eF (by rw [List.length_map]; omega), iteF ?_⟩
    refine ⟨_, rfl, b, rs, rfl, s1 _ _ eb, by omega, fun H2 s2 => ⟨true, rfl, iteF ?_⟩⟩
    have s12 := s1.trans s2
    refine ⟨_, rfl, b, _, rfl, .inr (SqT.h (s12 _ _ eb)), _, _, rfl, rfl, true, eT (by rw [List.length_map]; omega), iteT ?_⟩
    refine ⟨_, _, rfl, rfl, true, eT (by rw [List.length_map]; omega), iteF ?_⟩
    refine ⟨_, rfl, _, rfl, p, CR, dx, [], rfl, s12 _ _ ep, C.cR, C.rHeads, by decide, ?_⟩
    generalize eH3 : upd H2 p (.ins CR dx (putF "heads" (.ref a) [])) = H3
    obtain ⟨e3, f3⟩ := mut_f eH3
    refine ⟨_, rfl, _, rfl, p, CR, dx, _, rfl, e3, C.cR, C.rRounds, putF_lt1, ?_⟩
    generalize eH4 : upd H3 p (.ins CR dx (putF "rounds" (.ref b) (putF "heads" (.ref a) []))) = H4
    obtain ⟨e4, f4⟩ := mut_f eH4
    have nap : a ≠ p := ne_of ea ep (by intro z; cases z)
    have nbp : b ≠ p := ne_of eb ep (by intro z; cases z)
    have hne : rs ≠ [] := by
      intro z
      rw [z] at hr1
      exact absurd hr1 (by decide)
    have rf : RawF H4 hs rs (putF "rounds" (.ref b) (putF "heads" (.ref a) [])) := by
      refine ⟨a, b, ?_, by rw [f4 _ nap, f3 _ nap]; exact s12 _ _ ea, ?_, by rw [f4 _ nbp, f3 _ nbp]; exact s12 _ _ eb, hne⟩
      · rw [lookup_putF, if_neg ne_hr, lookup_putF, if_pos rfl]
      · rw [lookup_putF, if_pos rfl]
    refine ⟨_, rfl, p, dx, _, hs, rs, 1, rfl, e4, rf, true, by rw [h1], iteF ?_⟩
    exact q H4 _ (fun c o hc e => by rw [f4 _ hc, f3 _ hc]; exact s12 _ _ e) e4 rf
/-! ### holds_there -/
abbrev s_holds_there : Stmt := topS 34
abbrev Nholds_there : List Str := ["lot", "number"]
theorem sc_holds_there : FnScope Nholds_there ["lot", "number"] (defScope s_holds_there) := ⟨rfl, rfl, rfl, by decide +kernel, rfl, by decide +kernel, by decide +kernel⟩
def sp_holds_there (CL CR : Addr) : Sp := fun vs H Q _ => ∃ (p : Addr) (l : Lt) (n : Nat), vs = [.ref p, natV n] ∧ LtV CL CR H p l ∧ Q (.bl (l.holds n)) H
theorem n_lo : ¬ (V.str "loan" = V.str "once") := by decide +kernel
theorem n_fo : ¬ (V.str "free" = V.str "once") := by decide +kernel
theorem n_fl : ¬ (V.str "free" = V.str "loan") := by decide +kernel
theorem n_mo : ¬ (V.str "more" = V.str "once") := by decide +kernel
theorem n_ml : ¬ (V.str "more" = V.str "loan") := by decide +kernel
theorem n_mf : ¬ (V.str "more" = V.str "free") := by decide +kernel
theorem ok_holds_there (T : Txt mg) (C : CTxt K mg CL CR CB) (c_holds_raw : Cl P w K mg base "holds_raw" 1 ["raw", "number"] (sp_holds_raw CR)) (c_is_sum : Cl P w K mg base "is_sum" 1 ["leasts", "number"] sp_is_sum)
    (F : Fun K "holds_there" "holds_there" s_holds_there f fd) : FnOk P w K mg base CX0 2 f fd ["lot", "number"] (sp_holds_there CL CR) := by
  have nd := sc_holds_there.nd
  refine F.ok sc_holds_there (fun vs H Q Ex h => ?_) (fun cdv A outer s H vs Q Ex hr h => ?_)
  · obtain ⟨_, _, _, rfl, _⟩ := h
    rfl
  · obtain ⟨p, l, n, rfl, hl, q⟩ := h
    refine ⟨_, pss_cons (ps_if (pt_val (pe_callB call_isi (by rfl) T.isinstance (by decide +kernel) (pa_cons (pv 0) (pa_cons (pe_glob (v := .ref CR) rfl C.gR rfl) pa_nil)))) (pss_one (ps_ret (pe_cl c_holds_raw hr (by omega) (pa_cons (pv 0) (pa_cons (pv 1) pa_nil))))) pss_nil)
    (pss_cons (ps_if (pt_cmpR op_eq (pe_fld (pv 0) rfl) (pe_gs T.cONCE) (nomark _)) (pss_one (ps_ret (pe_cmpR op_eq (pv 1) pe_int (nomark _)))) pss_nil)
    (pss_cons (ps_if (pt_cmpR op_eq (pe_fld (pv 0) rfl) (pe_gs T.cLOAN) (nomark _)) (pss_one (ps_ret (pe_cmpR op_lt (pv 1) pe_int (nomark _)))) pss_nil)
    (pss_one (ps_ret (pe_or (pe_cmpR op_eq (pe_fld (pv 0) rfl) (pe_gs T.cFREE) (nomark _)) (pe_one (pe_and (pe_cmpR op_gt (pv 1) pe_int (nomark _)) (pe_one (pe_cl c_is_sum hr (by omega) (pa_cons (pe_fld (pv 0) rfl) (pa_cons (pe_op op_sub (pv 1) pe_int) pa_nil))))))))))), ?_⟩
    cases l with
    | raw hs rs =>
      obtain ⟨dx, fs, ep, hf⟩ := hl
      refine ⟨_, rfl, _, _, _, _, true, rfl, .own CR, .base (.ins ep C.cR C.iR.ha C.iR.hn C.iR.ht C.iR.hm), C.kRR, true, rfl, iteT ?_⟩
      exact ⟨_, rfl, _, rfl, p, dx, fs, hs, rs, n, rfl, ep, hf, q⟩
    | once =>
      obtain ⟨dx, fs, ep, lw, _⟩ := hl
      refine ⟨_, rfl, _, _, _, _, false, rfl, .own CR, .base (.ins ep C.cL C.iL.ha C.iL.hn C.iL.ht C.iL.hm), C.kLR, false, rfl, iteF ?_⟩
      refine ⟨_, rfl, p, CL, dx, fs, _, rfl, ep, C.cL, C.lWord, lw, rfl, true, eT rfl, iteT ?_⟩
      refine ⟨_, rfl, rfl, ?_⟩
      have e : (decide (V.int (n : Int) = V.int 1)) = Lt.once.holds n := by
        show _ = decide (n = 1)
        congr 1
        rw [V.int.injEq]
        apply propext
        omega
      rw [e]
      exact q
    | loan =>
      obtain ⟨dx, fs, ep, lw, _⟩ := hl
      refine ⟨_, rfl, _, _, _, _, false, rfl, .own CR, .base (.ins ep C.cL C.iL.ha C.iL.hn C.iL.ht C.iL.hm), C.kLR, false, rfl, iteF ?_⟩
      refine ⟨_, rfl, p, CL, dx, fs, _, rfl, ep, C.cL, C.lWord, lw, rfl, false, eF n_lo, iteF ?_⟩
      refine ⟨_, rfl, p, CL, dx, fs, _, rfl, ep, C.cL, C.lWord, lw, rfl, true, eT rfl, iteT ?_⟩
      refine ⟨_, rfl, _, _, rfl, rfl, ?_⟩
      have e : (decide ((n : Int) < 2)) = Lt.loan.holds n := by
        show _ = decide (n < 2)
        congr 1
        apply propext
        omega
      show Q (V.bl (decide ((n : Int) < 2))) H
      rw [e]
      exact q
    | free =>
      obtain ⟨dx, fs, ep, lw, _⟩ := hl
      refine ⟨_, rfl, _, _, _, _, false, rfl, .own CR, .base (.ins ep C.cL C.iL.ha C.iL.hn C.iL.ht C.iL.hm), C.kLR, false, rfl, iteF ?_⟩
      refine ⟨_, rfl, p, CL, dx, fs, _, rfl, ep, C.cL, C.lWord, lw, rfl, false, eF n_fo, iteF ?_⟩
      refine ⟨_, rfl, p, CL, dx, fs, _, rfl, ep, C.cL, C.lWord, lw, rfl, false, eF n_fl, iteF ?_⟩
      refine ⟨_, rfl, p, CL, dx, fs, _, rfl, ep, C.cL, C.lWord, lw, rfl, true, eT rfl, iteT ?_⟩
      exact q
    | more ms =>
      obtain ⟨dx, fs, ep, lw, hm⟩ := hl
      obtain ⟨la, fl, ll, ela, hls⟩ := hm rfl
      refine ⟨_, rfl, _, _, _, _, false, rfl, .own CR, .base (.ins ep C.cL C.iL.ha C.iL.hn C.iL.ht C.iL.hm), C.kLR, false, rfl, iteF ?_⟩
      refine ⟨_, rfl, p, CL, dx, fs, _, rfl, ep, C.cL, C.lWord, lw, rfl, false, eF n_mo, iteF ?_⟩
      refine ⟨_, rfl, p, CL, dx, fs, _, rfl, ep, C.cL, C.lWord, lw, rfl, false, eF n_ml, iteF ?_⟩
      refine ⟨_, rfl, p, CL, dx, fs, _, rfl, ep, C.cL, C.lWord, lw, rfl, false, eF n_mf, iteF ?_⟩
      refine ⟨_, rfl, _, _, rfl, rfl, ?_⟩
      cases n with
      | zero =>
        refine ⟨false, eF (by decide), iteF ?_⟩
        have e := holds_more0 ms
        rw [e] at q
        exact q
      | succ n =>
        refine ⟨true, eT (by omega), iteT ?_⟩
        refine ⟨_, rfl, p, CL, dx, fs, _, rfl, ep, C.cL, C.lLeasts, ll, _, rfl, _, _, rfl, rfl, la, fl, n, ms, ?_, ela, hls, fun b hb => ?_⟩
        · show [V.ref la, V.int (((n + 1 : Nat) : Int) - 1)] = [V.ref la, V.int (n : Int)]
          rw [show (((n + 1 : Nat) : Int) - 1) = (n : Int) by omega]
        · have e := holds_moreS hb
          rw [e] at q
          exact q
end
end K8
namespace K8
open PySem PySem.Spec PyProof.Rows L2
theorem lt900 {n : Nat} (h : n ≤ 900) : n < sizeLine := small1000 (by omega)
/-! ### counting -/
def stN (ws : List W) (s : Str) (i : Nat) : Nat := ((List.range i).filter fun p => decide (openName ws p = some s)).length
theorem stN_succ (ws : List W) (s : Str) (i : Nat) : stN ws s (i + 1) = stN ws s i + (if openName ws i = some s then 1 else 0) := by
  unfold stN
  rw [List.range_succ, List.filter_append, List.length_append]
  congr 1
  by_cases h : openName ws i = some s
  · rw [if_pos h, List.filter_cons, if_pos (decide_eq_true h)]; rfl
  · rw [if_neg h, List.filter_cons, if_neg (fun z => h (of_decide_eq_true z))]; rfl
theorem tkN_succ {ws : List W} {i : Nat} (h : i < ws.length) (a : Nat) : ((owners ws).take (i + 1)).count (some a) = ((owners ws).take i).count (some a) + (if owner ws i = some a then 1 else 0) := by
  rw [owners_take h, List.count_append]
  congr 1
  by_cases e : owner ws i = some a
  · rw [e, if_pos rfl]; simp
  · rw [if_neg e, List.count_singleton]
    simp [e]
theorem tkN_le (ws : List W) (i a : Nat) : ((owners ws).take i).count (some a) ≤ i := by
  refine Nat.le_trans List.count_le_length ?_
  rw [List.length_take]
  omega
def openIn : W → Option Nat → Option Str
  | .name s, none => some s
  | _, _ => none
theorem openName_of {ws : List W} {i : Nat} {u : W} (h : ws[i]? = some u) : openName ws i = openIn u (owner ws i) := by
  unfold openName
  rw [h]
  cases u with
  | name s => cases owner ws i <;> rfl
  | use => rfl
  | take s k => rfl
/-- the table of counts behind i words -/
structure CtSt (ws : List W) (i : Nat) (kvs : List (Key × V)) : Prop where
  tk : ∀ (a : Nat) (s : Str) (k : Kd), ws[a]? = some (.take s k) → valV kvs (Sum.inl (a : Int)) = some (natV (((owners ws).take i).count (some a)))
  nm : ∀ s, (valV kvs (Sum.inr s)).getD (.int 0) = natV (stN ws s i)
  len : kvs.length ≤ 60 + i
theorem CtSt.start {ws : List W} {kvs : List (Key × V)} (h1 : ∀ (a : Nat) (s : Str) (k : Kd), ws[a]? = some (.take s k) → valV kvs (Sum.inl (a : Int)) = some (.int 0)) (h2 : ∀ s, valV kvs (Sum.inr s) = none) (hl : kvs.length ≤ 60) : CtSt ws 0 kvs :=
  ⟨fun a s k h => h1 a s k h, fun s => by rw [h2 s]; rfl, hl⟩
theorem CtSt.other {ws : List W} {i : Nat} {kvs : List (Key × V)} (st : CtSt ws i kvs) (hi : i < ws.length) (ho : owner ws i = none) (hn : openName ws i = none) : CtSt ws (i + 1) kvs := by
  refine ⟨fun a s k h => ?_, fun s => ?_, by have := st.len; omega⟩
  · rw [tkN_succ hi, ho, if_neg (by simp), Nat.add_zero]; exact st.tk a s k h
  · rw [stN_succ, hn, if_neg (by simp), Nat.add_zero]; exact st.nm s
theorem int_nat_inj {a b : Nat} (h : (Sum.inl (a : Int) : Key) = Sum.inl (b : Int)) : a = b := by
  have := Sum.inl.inj h
  omega
theorem CtSt.owned {ws : List W} {i b : Nat} {kvs : List (Key × V)} (st : CtSt ws i kvs) (hi : i < ws.length) (ho : owner ws i = some b) (hn : openName ws i = none) : CtSt ws (i + 1) (putK kvs (Sum.inl (b : Int)) (natV (((owners ws).take i).count (some b) + 1))) := by
  refine ⟨fun a s k h => ?_, fun s => ?_, by have := st.len; have := length_putK kvs (Sum.inl (b : Int)) (natV (((owners ws).take i).count (some b) + 1)); omega⟩
  · rw [valV_put, tkN_succ hi, ho]
    by_cases e : a = b
    · subst e
      rw [if_pos rfl, if_pos rfl]
    · rw [if_neg (fun z => e (int_nat_inj z)), if_neg (fun z => e (by cases z; rfl)), Nat.add_zero]
      exact st.tk a s k h
  · rw [valV_put, if_neg (fun z => by cases z), stN_succ, hn, if_neg (by simp), Nat.add_zero]; exact st.nm s
theorem CtSt.open {ws : List W} {i : Nat} {t : Str} {kvs : List (Key × V)} (st : CtSt ws i kvs) (hi : i < ws.length) (ho : owner ws i = none) (hn : openName ws i = some t) : CtSt ws (i + 1) (putK kvs (Sum.inr t) (natV (stN ws t i + 1))) := by
  refine ⟨fun a s k h => ?_, fun s => ?_, by have := st.len; have := length_putK kvs (Sum.inr t) (natV (stN ws t i + 1)); omega⟩
  · rw [valV_put, if_neg (fun z => by cases z), tkN_succ hi, ho, if_neg (by simp), Nat.add_zero]
    exact st.tk a s k h
  · rw [valV_put, stN_succ, hn]
    by_cases e : s = t
    · subst e
      rw [if_pos rfl, if_pos rfl]
      rfl
    · rw [if_neg (fun z => e (Sum.inr.inj z)), if_neg (fun z => e (Option.some.inj z).symm), Nat.add_zero]
      exact st.nm s
section
variable {P : Program} {w : World} {K : PySem.W.Frag} {mg : Str → Option Value} {base : Heap} {f : Addr} {fd : FuncData} {CL CR CB : Addr}
/-! ### counts_of -/
abbrev s_counts_of : Stmt := topS 44
abbrev Ncounts_of : List Str := ["words", "takers", "found", "place", "word"]
theorem sc_counts_of : FnScope Ncounts_of ["words"] (defScope s_counts_of) := ⟨rfl, rfl, rfl, by decide +kernel, rfl, by decide +kernel, by decide +kernel⟩
def sp_counts_of : Sp := fun vs H Q _ => ∃ a ws, vs = [.ref a] ∧ PgV H a ws ∧ ∀ H' p kvs, Same H H' → H p = none → H' p = some (.dK kvs) → (∀ (a : Nat) (s : Str) (k : Kd), ws[a]? = some (.take s k) → valV kvs (Sum.inl (a : Int)) = some (natV (taken ws a))) →
  (∀ s, (valV kvs (Sum.inr s)).getD (.int 0) = natV (standing ws s)) → Q (.ref p) H'
theorem isTake_iff {u : W} : u.isTake = true ↔ ∃ s k, u = .take s k := by
  cases u <;> simp [Wd.isTake]
theorem ok_counts_of (T : Txt mg) (c_takers_of : Cl P w K mg base "takers_of" 3 ["words"] sp_takers_of) (c_is_take : Cl P w K mg base "is_take" 1 ["word"] sp_is_take) (c_is_open_at : Cl P w K mg base "is_open_at" 2 ["words", "takers", "place"] sp_is_open_at)
    (F : Fun K "counts_of" "counts_of" s_counts_of f fd) : FnOk P w K mg base CX0 4 f fd ["words"] sp_counts_of := by
  have nd := sc_counts_of.nd
  refine F.ok sc_counts_of (fun vs H Q Ex h => ?_) (fun cdv A outer s H vs Q Ex hr h => ?_)
  · obtain ⟨v, u, rfl, _⟩ := h
    rfl
  · obtain ⟨a, ws, rfl, hp, q⟩ := h
    have hu := hu_of hr
    refine ⟨_, pss_cons (ps_set (i := 1) nd rfl (Or.inl rfl) (pe_cl c_takers_of hr (by omega) (pa_cons (pv 0) pa_nil)))
    (pss_cons (ps_setDc (i := 2) (own := [("place", 3), ("word", 4)]) (g := gTup K 2 (gCons (gName 3) (gCons (gName 4) gNil))) rfl nd rfl rfl (sw_trueD rfl rfl rfl (by decide +kernel)) (pi_enumT (by rfl) T.enumerate (pa_cons (pv 0) pa_nil)) (blkOk_by (own := [("place", 3), ("word", 4)]) (N := Ncounts_of) (sc := defScope s_counts_of) (by decide +kernel)) (fun _ _ _ _ _ => (pg_tup rfl (pgs_cons (pg_name (i := 3) nd rfl (Or.inl rfl)) (pgs_cons (pg_name (i := 4) nd rfl (Or.inl rfl)) pgs_nil)))) (fun _ _ _ _ _ => (pts_one (pt_val (pe_cl c_is_take hr (by omega) (pa_cons (pv 4) pa_nil))))) (fun _ _ _ _ _ => (pv 3)) (fun _ _ _ _ _ => pe_int))
    (pss_cons (ps_for PassesOwn.never rfl (pi_enumT (by rfl) T.enumerate (pa_cons (pv 0) pa_nil)) (pg_tup rfl (pgs_cons (pg_name (i := 3) nd rfl (Or.inl rfl)) (pgs_cons (pg_name (i := 4) nd rfl (Or.inl rfl)) pgs_nil)))
      (pss_one (ps_if (pt_cmpR op_notN (pe_ix ix_list (pv 1) (pv 3) (fun _ _ => rfl)) pe_non (nomark _)) (pss_one (ps_daug hu (pv 2) (pe_ix ix_list (pv 1) (pv 3) (fun _ _ => rfl)) pe_int in_add (fun _ _ _ => rfl))) (pss_one (ps_if (pt_val (pe_cl c_is_open_at hr (by omega) (pa_cons (pv 0) (pa_cons (pv 1) (pa_cons (pv 3) pa_nil))))) (pss_one (ps_dput hu (pv 2) (pv 4) (pe_op op_add (pe_dget2 hu (pv 2) (pv 4) pe_int ⟨rfl, rfl, rfl, rfl⟩) pe_int) rfl)) pss_nil)))))
    (pss_one (ps_ret (pv 2))))), ?_⟩
    obtain ⟨us, ea, hw⟩ := hp.at_
    have hlen : us.length = ws.length := Paired.length hw
    have h60 := hp.len
    refine ⟨_, rfl, a, ws, rfl, hp, fun H1 to s1 nto e1 => ?_⟩
    have ea1 := s1 _ _ ea
    refine ⟨_, rfl, a, us, rfl, SqT.h ea1, fun D nD => ?_⟩
    refine dc_it (walk_enumT (K := K) (a := a) (xs := us)) (fun i H' => ∃ kvs, Same H1 H' ∧ H' D = some (.dK kvs) ∧ kvs.length ≤ i ∧ (∀ (a : Nat) (s : Str) (k : Kd), a < i → ws[a]? = some (.take s k) → valV kvs (Sum.inl (a : Int)) = some (.int 0)) ∧ ∀ s, valV kvs (Sum.inr s) = none) ?_ ?_ ?_ ?_
    · exact ⟨[], same_new _ nD, upd_same, Nat.le_refl _, fun a s k h => absurd h (Nat.not_lt_zero _), fun s => rfl⟩
    · rintro i H' hi ⟨kvs, s2, _⟩
      exact SqT.h (s2 _ _ ea1)
    · rintro i x H2 H3 hi ⟨kvs, s2, eD, hkl, htk, hnm⟩ ⟨Tp, x1, x, rfl, nT, eH3, ex1, hx⟩
      have ex1' := Option.some.inj ex1
      subst ex1'
      obtain ⟨u, eu, wu⟩ := pd_at_left hw hx
      obtain ⟨s3, e3, f3⟩ := new_f nT eH3.symm
      have s23 := s2.trans s3
      have wu3 : WdV H3 x u := wu.mono (s1.trans s23).tups
      refine ⟨Tp, _, rfl, SqT.h e3, rfl, _, _, rfl, _, _, rfl, rfl, rfl, ?_⟩
      refine ⟨_, rfl, x, u, rfl, wu3, u.isTake, rfl, ?_⟩
      cases hut : u.isTake with
      | false =>
        refine iteF ?_
        refine ⟨kvs, s23, s3 _ _ eD, by omega, fun b s k hb hs => ?_, hnm⟩
        by_cases e : b = i
        · subst e
          rw [eu] at hs
          cases hs
          cases hut
        · exact htk b s k (by omega) hs
      | true =>
        refine iteT ?_
        refine ⟨_, rfl, kvs, Sum.inl (i : Int), rfl, s3 _ _ eD, lt60 (by omega), ?_⟩
        refine ⟨_, s23.mut nD (fun b hb => upd_ne hb), upd_same, by have := length_putK kvs (Sum.inl (i : Int)) (V.int 0); omega, fun b s k hb hs => ?_, fun s => ?_⟩
        · rw [valV_put]
          by_cases e : b = i
          · subst e
            rw [if_pos rfl]
          · rw [if_neg (fun z => e (int_nat_inj z))]
            exact htk b s k (by omega) hs
        · rw [valV_put, if_neg (fun z => by cases z)]
          exact hnm s
    · rintro H2 ⟨kvs, s2, eD, hkl, htk, hnm⟩
      rw [hlen] at hkl htk
      have st0 : CtSt ws 0 kvs := CtSt.start (fun b s k hs => htk b s k (List.getElem?_eq_some_iff.mp hs).1 hs) hnm (by omega)
      have nD0 : H D = none := s1.free nD
      refine ⟨_, rfl, a, us, rfl, SqT.h (s2 _ _ ea1), for_it (walk_enumT (K := K) (a := a) (xs := us)) (fun i σ H' => ∃ (kvs : List (Key × V)) (y3 y4 : Option V), σ = [some (.ref a), some (.ref to), some (.ref D), y3, y4] ∧ Same H1 H' ∧ H' D = some (.dK kvs) ∧ CtSt ws i kvs) ?_ ?_ ?_ ?_⟩
      · exact ⟨kvs, none, none, rfl, s2, eD, st0⟩
      · rintro i σ H' hi ⟨kvs, y3, y4, _, s3, _⟩
        exact SqT.h (s3 _ _ ea1)
      · rintro i x σ H4 H5 hi ⟨kvs, y3, y4, rfl, s4, e4, st⟩ ⟨Tp, x1, x, rfl, nT, eH5, ex1, hx⟩
        have ex1' := Option.some.inj ex1
        subst ex1'
        obtain ⟨u, eu, wu⟩ := pd_at_left hw hx
        have hpl : i < ws.length := (List.getElem?_eq_some_iff.mp eu).1
        obtain ⟨s5, e5, f5⟩ := new_f nT eH5.symm
        have s45 := s4.trans s5
        have hto := s45 _ _ e1
        have hox : ((owners ws).map optV)[i]? = some (optV (owner ws i)) := by rw [List.getElem?_map, owners_at hpl]; rfl
        refine ⟨Tp, _, rfl, SqT.h e5, rfl, _, _, rfl, _, _, rfl, rfl, ?_⟩
        refine ⟨_, rfl, _, rfl, to, _, (i : Int), _, rfl, rfl, SqL.h hto, atI_nat hox, rfl, ?_⟩
        have hopen := openName_of eu
        cases ho : owner ws i with
        | some b =>
          rw [ho] at hox hopen
          refine ⟨true, rfl, iteT ?_⟩
          obtain ⟨s, k, eb, en⟩ := owner_take ho
          rw [eu] at en
          cases en
          refine ⟨_, rfl, _, rfl, _, rfl, to, _, (i : Int), _, rfl, rfl, SqL.h hto, atI_nat hox, D, _, rfl, (by have := DGet.k (k := Sum.inl (b : Int)) (s5 _ _ e4); rw [st.tk b s k eb] at this; exact this), _, _, rfl, rfl, _, DPut.k (k := Sum.inl (b : Int)) (s5 _ _ e4) (lt900 (by have := st.len; omega)), ?_⟩
          refine ⟨_, _, _, rfl, s45.mut nD (fun c hc => upd_ne hc), upd_same, ?_⟩
          exact st.owned hpl ho hopen
        | none =>
          rw [ho] at hox hopen
          refine ⟨false, rfl, iteF ?_⟩
          have hos : (owners ws)[i]? = some none := by rw [owners_at hpl, ho]
          refine ⟨_, rfl, _, rfl, _, rfl, a, to, us, ws, owners ws, i, u, none, rfl, s45 _ _ ea1, hw.mono (s1.trans s45).tups, hto, eu, hos, openB u none, rfl, ?_⟩
          cases u with
          | name s =>
            obtain ⟨rfl, hn⟩ := wu
            have hop : openName ws i = some s := hopen
            refine iteT ?_
            refine ⟨_, rfl, D, rfl, .inl ⟨_, .inl (s5 _ _ e4)⟩, _, rfl, _, DGet.k (k := Sum.inr s) (s5 _ _ e4), ?_⟩
            rw [st.nm s]
            refine ⟨_, _, rfl, rfl, _, rfl, _, rfl, D, _, rfl, DPut.k (k := Sum.inr s) (s5 _ _ e4) (lt900 (by have := st.len; omega)), ?_⟩
            refine ⟨_, _, _, rfl, s45.mut nD (fun c hc => upd_ne hc), upd_same, ?_⟩
            exact st.open hpl ho hop
          | use =>
            refine iteF ?_
            exact ⟨kvs, _, _, rfl, s45, s5 _ _ e4, st.other hpl ho hopen⟩
          | take s k =>
            refine iteF ?_
            exact ⟨kvs, _, _, rfl, s45, s5 _ _ e4, st.other hpl ho hopen⟩
      · rintro σ H4 ⟨kvs, y3, y4, rfl, s4, e4, st⟩
        rw [hlen] at st
        refine ⟨_, rfl, q H4 D kvs (s1.trans s4) nD0 e4 (fun b s k hs => ?_) (fun s => st.nm s)⟩
        have := st.tk b s k hs
        rw [List.take_of_length_le (by rw [owners_len]; exact Nat.le_refl _)] at this
        exact this
/-! ### known kinds -/
/-- the dict of known kinds at d -/
def KnV (H : Hp) (d : Addr) (kn : Str → Option Kd) : Prop := ∃ kvs, H d = some (.dK kvs) ∧ ∀ s, (valV kvs (Sum.inr s) = none ∧ kn s = none) ∨ (∃ v k, valV kvs (Sum.inr s) = some v ∧ kn s = some k ∧ KdV H v k ∧ k.depth ≤ 3)
theorem KnV.mono {H H' : Hp} {d : Addr} {kn : Str → Option Kd} (h : KnV H d kn) (s : Same H H') : KnV H' d kn := by
  obtain ⟨kvs, e, r⟩ := h
  refine ⟨kvs, s _ _ e, fun t => (r t).imp id fun ⟨v, k, a, b, c, d⟩ => ⟨v, k, a, b, c.mono s.tups, d⟩⟩
/-! ### wrong_name -/
abbrev s_wrong_name : Stmt := topS 52
abbrev Nwrong_name : List Str := ["words", "known", "takers", "place", "word"]
theorem sc_wrong_name : FnScope Nwrong_name ["words", "known"] (defScope s_wrong_name) := ⟨rfl, rfl, rfl, by decide +kernel, rfl, by decide +kernel, by decide +kernel⟩
def sp_wrong_name : Sp := fun vs H Q _ => ∃ a d ws kn, vs = [.ref a, .ref d] ∧ PgV H a ws ∧ KnV H d kn ∧ ∀ H', Same H H' → Q (optV (wrongName ws kn)) H'
theorem find_first {n i : Nat} {p : Nat → Bool} (hi : i < n) (h0 : ∀ q, q < i → p q = false) (h1 : p i = true) : (List.range n).find? p = some i := by
  rw [List.find?_eq_some_iff_getElem]
  refine ⟨h1, i, by simpa using hi, by simp, fun j hj => ?_⟩
  simp [h0 j hj]
theorem find_no {n : Nat} {p : Nat → Bool} (h0 : ∀ q, q < n → p q = false) : (List.range n).find? p = none := by
  rw [List.find?_eq_none]
  intro x hx
  rw [h0 x (List.mem_range.mp hx)]
  simp
theorem ok_wrong_name (T : Txt mg) (c_takers_of : Cl P w K mg base "takers_of" 3 ["words"] sp_takers_of) (c_is_open_at : Cl P w K mg base "is_open_at" 2 ["words", "takers", "place"] sp_is_open_at)
    (F : Fun K "wrong_name" "wrong_name" s_wrong_name f fd) : FnOk P w K mg base CX0 4 f fd ["words", "known"] sp_wrong_name := by
  have nd := sc_wrong_name.nd
  refine F.ok sc_wrong_name (fun vs H Q Ex h => ?_) (fun cdv A outer s H vs Q Ex hr h => ?_)
  · obtain ⟨_, _, _, _, rfl, _⟩ := h
    rfl
  · obtain ⟨a, d, ws, kn, rfl, hp, hk, q⟩ := h
    have hu := hu_of hr
    refine ⟨_, pss_cons (ps_set (i := 2) nd rfl (Or.inl rfl) (pe_cl c_takers_of hr (by omega) (pa_cons (pv 0) pa_nil)))
    (pss_cons (ps_for PassesOwn.never rfl (pi_enumT (by rfl) T.enumerate (pa_cons (pv 0) pa_nil)) (pg_tup rfl (pgs_cons (pg_name (i := 3) nd rfl (Or.inl rfl)) (pgs_cons (pg_name (i := 4) nd rfl (Or.inl rfl)) pgs_nil)))
      (pss_one (ps_if (PW.pt (pw_and (pt_val (pe_cl c_is_open_at hr (by omega) (pa_cons (pv 0) (pa_cons (pv 2) (pa_cons (pv 3) pa_nil))))) (pw_and1 (pt_cmp (pc_dnotin hu (pv 4) (pv 1)))))) (pss_one (ps_ret (pv 3))) pss_nil)))
    (pss_one (ps_ret pe_non))), ?_⟩
    obtain ⟨us, ea, hw⟩ := hp.at_
    have hlen : us.length = ws.length := Paired.length hw
    refine ⟨_, rfl, a, ws, rfl, hp, fun H1 to s1 nto e1 => ?_⟩
    have ea1 := s1 _ _ ea
    refine ⟨_, rfl, a, us, rfl, SqT.h ea1, for_it (walk_enumT (K := K) (a := a) (xs := us)) (fun i σ H' => ∃ (y3 y4 : Option V), σ = [some (.ref a), some (.ref d), some (.ref to), y3, y4] ∧ Same H1 H' ∧ ∀ p, p < i → badOpen ws kn p = false) ?_ ?_ ?_ ?_⟩
    · exact ⟨none, none, rfl, Same.refl _, fun p h => absurd h (Nat.not_lt_zero _)⟩
    · rintro i σ H' hi ⟨y3, y4, _, s3, _⟩
      exact SqT.h (s3 _ _ ea1)
    · rintro i x σ H4 H5 hi ⟨y3, y4, rfl, s4, hbad⟩ ⟨Tp, x1, x, rfl, nT, eH5, ex1, hx⟩
      have ex1' := Option.some.inj ex1
      subst ex1'
      obtain ⟨u, eu, wu⟩ := pd_at_left hw hx
      have hpl : i < ws.length := (List.getElem?_eq_some_iff.mp eu).1
      obtain ⟨s5, e5, f5⟩ := new_f nT eH5.symm
      have s45 := s4.trans s5
      have hto := s45 _ _ e1
      have hopen := openName_of eu
      have next : badOpen ws kn i = false → ∀ p, p < i + 1 → badOpen ws kn p = false := fun hb p hpi => by
        by_cases e : p = i
        · rw [e]; exact hb
        · exact hbad p (by omega)
      refine ⟨Tp, _, rfl, SqT.h e5, rfl, _, _, rfl, _, _, rfl, rfl, ?_⟩
      refine ⟨_, rfl, _, rfl, _, rfl, a, to, us, ws, owners ws, i, u, owner ws i, rfl, s45 _ _ ea1, hw.mono (s1.trans s45).tups, hto, eu, owners_at hpl, openB u (owner ws i), rfl, ?_⟩
      have no : openName ws i = none → badOpen ws kn i = false := fun h => by unfold badOpen; rw [h]
      cases u with
      | use => exact iteF (iteF ⟨_, _, rfl, s45, next (no hopen)⟩)
      | take s k => exact iteF (iteF ⟨_, _, rfl, s45, next (no hopen)⟩)
      | name s =>
        obtain ⟨rfl, hn⟩ := wu
        cases ho : owner ws i with
        | some b =>
          rw [ho] at hopen
          exact iteF (iteF ⟨_, _, rfl, s45, next (no hopen)⟩)
        | none =>
          rw [ho] at hopen
          have hop : openName ws i = some s := hopen
          refine iteT ?_
          obtain ⟨kvs, ek, hv⟩ := hk.mono (s1.trans s45)
          refine ⟨_, rfl, _, rfl, d, _, rfl, DGet.k (k := Sum.inr s) ek, ?_⟩
          rcases hv s with ⟨e1', e2'⟩ | ⟨v, k, e1', e2', _, _⟩
          · rw [e1']
            refine ⟨true, rfl, iteT ?_⟩
            have hb : badOpen ws kn i = true := by
              unfold badOpen
              rw [hop]
              show (kn s).isNone = true
              rw [e2']
              rfl
            have hw2 : wrongName ws kn = some i := find_first hpl hbad hb
            refine ⟨_, rfl, ?_⟩
            have := q H5 (s1.trans s45)
            rw [hw2] at this
            exact this
          · rw [e1']
            refine ⟨false, rfl, iteF ⟨_, _, rfl, s45, next ?_⟩⟩
            unfold badOpen
            rw [hop]
            show (kn s).isNone = false
            rw [e2']
            rfl
    · rintro σ H4 ⟨y3, y4, rfl, s4, hbad⟩
      rw [hlen] at hbad
      have hw2 : wrongName ws kn = none := find_no hbad
      have := q H4 (s1.trans s4)
      rw [hw2] at this
      exact this
end
end K8
namespace K8
open PySem PySem.Spec PyProof.Rows L2
/-! ### the kinds of parts as they lie -/
def OkV (H : Hp) : V → Option Kd → Prop
  | v, none => v = .non
  | v, some k => KdV H v k
theorem OkV.mono {H H' : Hp} (t : Tups H H') : ∀ {o : Option Kd} {v : V}, OkV H v o → OkV H' v o
  | none, _, h => h
  | some _, _, h => KdV.mono t h
theorem KdV.ne_non {H : Hp} {v : V} : ∀ {k : Kd}, KdV H v k → v ≠ .non
  | .leaf _, h => by rw [h.1]; intro z; cases z
  | .pair _ _, ⟨p, x, y, e, _⟩ => by rw [e]; intro z; cases z
structure KsSt (ws : List W) (kn : Str → Option Kd) (H0 H : Hp) (fo : Addr) (p : Nat) (vs : List V) (wr : Option Nat) : Prop where
  same : Same H0 H
  nf : H0 fo = none
  o : H fo = some (.lst (List.replicate p V.non ++ vs))
  pd : Paired (OkV H) vs (kst ws kn p (ws.drop p)).1
  wr : wr = (kst ws kn p (ws.drop p)).2
section
variable {ws : List W} {kn : Str → Option Kd} {H0 H H1 H2 : Hp} {fo : Addr} {p : Nat} {vs : List V} {wr : Option Nat}
theorem rep_snoc' {α : Type} (z : α) (p : Nat) (t : List α) : List.replicate (p + 1) z ++ t = List.replicate p z ++ z :: t := by
  rw [List.replicate_succ', List.append_assoc]
  rfl
theorem rep_at {α : Type} (z : α) (p i : Nat) (t : List α) : (List.replicate p z ++ t)[p + i]? = t[i]? := by
  rw [List.getElem?_append_right (by rw [List.length_replicate]; omega), List.length_replicate]
  congr 1
  omega
/-- new objects come -/
theorem KsSt.more (st : KsSt ws kn H0 H fo p vs wr) (s : Same H H1) : KsSt ws kn H0 H1 fo p vs wr :=
  ⟨st.same.trans s, st.nf, s _ _ st.o, pd_imp (fun _ _ r => OkV.mono s.tups r) st.pd, st.wr⟩
/-- found[p] = v -/
theorem KsSt.set {v : V} {o : Option Kd} {wr' : Option Nat} (st : KsSt ws kn H0 H fo (p + 1) vs wr) (hv : OkV H v o) (e2 : H2 fo = some (.lst ((List.replicate (p + 1) V.non ++ vs).set p v))) (f2 : ∀ b, b ≠ fo → H2 b = H b)
    (hk : kst ws kn p (ws.drop p) = (o :: (kst ws kn (p + 1) (ws.drop (p + 1))).1, wr')) : KsSt ws kn H0 H2 fo p (v :: vs) wr' := by
  have t : Tups H H2 := tups_but st.o (but_of f2)
  refine ⟨st.same.mut st.nf f2, st.nf, by rw [e2, rep_set], ?_, by rw [hk]⟩
  rw [hk]
  exact .cons (hv.mono t) (pd_imp (fun _ _ r => OkV.mono t r) st.pd)
/-- found[p] stays None -/
theorem KsSt.skip {wr' : Option Nat} (st : KsSt ws kn H0 H fo (p + 1) vs wr) (hk : kst ws kn p (ws.drop p) = (none :: (kst ws kn (p + 1) (ws.drop (p + 1))).1, wr')) : KsSt ws kn H0 H fo p (V.non :: vs) wr' := by
  refine ⟨st.same, st.nf, by rw [st.o, rep_snoc'], ?_, by rw [hk]⟩
  rw [hk]
  exact .cons rfl st.pd
theorem KsSt.len (st : KsSt ws kn H0 H fo p vs wr) : vs.length = ws.length - p := by
  have h1 := Paired.length st.pd
  rw [kst_len, List.length_drop] at h1
  exact h1
/-- found[q] for q behind p -/
theorem KsSt.at_ (st : KsSt ws kn H0 H fo p vs wr) {q : Nat} (h1 : p ≤ q) (h2 : q < ws.length) : ∃ v, (List.replicate p V.non ++ vs)[q]? = some v ∧ OkV H v ((kst ws kn p (ws.drop p)).1[q - p]?.getD none) ∧ (kst ws kn p (ws.drop p)).1[q - p]? = some ((kst ws kn p (ws.drop p)).1[q - p]?.getD none) := by
  have hl := st.len
  have hq : q - p < vs.length := by omega
  obtain ⟨o, e, r⟩ := pd_at_left st.pd (List.getElem?_eq_getElem hq)
  refine ⟨vs[q - p], ?_, by rw [e]; exact r, by rw [e]; rfl⟩
  have e3 := rep_at V.non p (q - p) vs
  rw [show p + (q - p) = q by omega] at e3
  rw [e3]
  exact List.getElem?_eq_getElem hq
theorem drop_at' {u : W} (hu : ws[p]? = some u) : ws.drop p = u :: ws.drop (p + 1) := by
  obtain ⟨hp, e⟩ := List.getElem?_eq_some_iff.mp hu
  rw [List.drop_eq_getElem_cons hp, e]
theorem kst_take {s : Str} {k : Kd} (hu : ws[p]? = some (.take s k)) : kst ws kn p (ws.drop p) = (((kst ws kn (p + 1) (ws.drop (p + 1))).1.headD none).map (Kd.pair k) :: (kst ws kn (p + 1) (ws.drop (p + 1))).1, (kst ws kn (p + 1) (ws.drop (p + 1))).2) := by
  rw [drop_at' hu]
  rfl
theorem kst_name {s : Str} (hu : ws[p]? = some (.name s)) : kst ws kn p (ws.drop p) = ((match owner ws p with
      | none => kn s
      | some a => takeKind ws[a]?) :: (kst ws kn (p + 1) (ws.drop (p + 1))).1, (kst ws kn (p + 1) (ws.drop (p + 1))).2) := by
  rw [drop_at' hu]
  rfl
theorem kst_use (hu : ws[p]? = some .use) : kst ws kn p (ws.drop p) =
    ((useKind ((kst ws kn (p + 1) (ws.drop (p + 1))).1.headD none) (((kst ws kn (p + 1) (ws.drop (p + 1))).1[E ws (p + 1) - (p + 1)]?).getD none)).1 :: (kst ws kn (p + 1) (ws.drop (p + 1))).1,
      if (useKind ((kst ws kn (p + 1) (ws.drop (p + 1))).1.headD none) (((kst ws kn (p + 1) (ws.drop (p + 1))).1[E ws (p + 1) - (p + 1)]?).getD none)).2 then some p else (kst ws kn (p + 1) (ws.drop (p + 1))).2) := by
  rw [drop_at' hu]
  rfl
theorem headD_zero {α : Type} (l : List (Option α)) : l.headD none = (l[0]?).getD none := by cases l <;> rfl
theorem E_lt_use {n : Nat} (h : Wf ws n) (hu : ws[p]? = some .use) : E ws (p + 1) < ws.length := by
  obtain ⟨a, b, r, e1, e2⟩ := use_two h hu
  have hq := succ_lt_use h hu
  obtain ⟨i1, i2, i3⟩ := S_all h (ws.length - (p + 1)) (p + 1) (by omega) hq
  have ea : E ws (p + 1) = a := by unfold E; rw [e1]; rfl
  rw [e1] at i2 i3
  have hb := i3 b (by simp)
  have hab := (List.pairwise_cons.mp i2).1 b (by simp)
  omega
theorem depth_ok (hk : ∀ s k, kn s = some k → k.depth ≤ 3) (ht : ∀ s k, Wd.take s k ∈ ws → k.depth ≤ 3) (h60 : ws.length ≤ 60) {q : Nat} {k : Kd} (h : (kst ws kn p (ws.drop p)).1[q]? = some (some k)) : k.depth ≤ 62 := by
  have := kst_depth ws kn 3 hk ht p (ws.drop p) (fun w hw => List.mem_of_mem_drop hw) k (List.mem_of_getElem? h)
  rw [List.length_drop] at this
  omega
end
theorem WsV.takes {H : Hp} {vs : List V} {ws : List W} (h : WsV H vs ws) {s : Str} {k : Kd} (hm : Wd.take s k ∈ ws) : k.depth ≤ 3 := by
  obtain ⟨i, hi⟩ := List.mem_iff_getElem?.mp hm
  obtain ⟨x, _, r⟩ := pd_at_right h hi
  obtain ⟨p, y, _, _, _, _, hd⟩ := r
  exact hd
theorem KnV.depth {H : Hp} {d : Addr} {kn : Str → Option Kd} (h : KnV H d kn) {s : Str} {k : Kd} (e : kn s = some k) : k.depth ≤ 3 := by
  obtain ⟨kvs, _, r⟩ := h
  rcases r s with ⟨_, e2⟩ | ⟨v, k', _, e2, _, hd⟩
  · rw [e] at e2; cases e2
  · rw [e] at e2; cases e2; exact hd
section
variable {P : Program} {w : World} {K : PySem.W.Frag} {mg : Str → Option Value} {base : Heap} {f : Addr} {fd : FuncData} {CL CR CB : Addr}
/-! ### kinds_of_parts -/
abbrev s_kinds_of_parts : Stmt := topS 51
abbrev Nkinds_of_parts : List Str := ["words", "known", "takers", "ends", "found", "wrong", "place", "word", "body", "one", "other"]
theorem sc_kinds_of_parts : FnScope Nkinds_of_parts ["words", "known"] (defScope s_kinds_of_parts) := ⟨rfl, rfl, rfl, by decide +kernel, rfl, by decide +kernel, by decide +kernel⟩
def sp_kinds_of_parts : Sp := fun vs H Q _ => ∃ a d ws kn, vs = [.ref a, .ref d] ∧ PgV H a ws ∧ KnV H d kn ∧ (∀ (p : Nat) s, openName ws p = some s → kn s ≠ none) ∧
  ∀ H' t fo vs, Same H H' → H t = none → H' t = some (.tup [.ref fo, optV (wrongKind ws kn)]) → H' fo = some (.lst vs) → Paired (OkV H') vs (kinds ws kn) → Q (.ref t) H'
theorem ok_kinds_of_parts (T : Txt mg) (c_takers_of : Cl P w K mg base "takers_of" 3 ["words"] sp_takers_of) (c_ends_of : Cl P w K mg base "ends_of" 2 ["words"] sp_ends_of) (c_is_take : Cl P w K mg base "is_take" 1 ["word"] sp_is_take)
    (F : Fun K "kinds_of_parts" "kinds_of_parts" s_kinds_of_parts f fd) : FnOk P w K mg base CX0 4 f fd ["words", "known"] sp_kinds_of_parts := by
  have nd := sc_kinds_of_parts.nd
  refine F.ok sc_kinds_of_parts (fun vs H Q Ex h => ?_) (fun cdv A outer s H vs Q Ex hr h => ?_)
  · obtain ⟨_, _, _, _, rfl, _⟩ := h
    rfl
  · obtain ⟨a, d, ws, kn, rfl, hp, hkn, hop, q⟩ := h
    have hu := hu_of hr
    have hu64 := hu64_of hr
    refine ⟨_, pss_cons (ps_set (i := 2) nd rfl (Or.inl rfl) (pe_cl c_takers_of hr (by omega) (pa_cons (pv 0) pa_nil)))
    (pss_cons (ps_set (i := 3) nd rfl (Or.inl rfl) (pe_cl c_ends_of hr (by omega) (pa_cons (pv 0) pa_nil)))
    (pss_cons (ps_set (i := 4) nd rfl (Or.inl rfl) (pe_op op_rep (pe_lst (pa_cons pe_non pa_nil)) (pe_callB call_len_seq (by rfl) T.len (by decide +kernel) (pa_cons (pv 0) pa_nil))))
    (pss_cons (ps_set (i := 5) nd rfl (Or.inl rfl) pe_non)
    (pss_cons (ps_for PassesOwn.never rfl (pi_range3 rfl T.range (pa_cons (pe_op op_sub (pe_callB call_len_seq (by rfl) T.len (by decide +kernel) (pa_cons (pv 0) pa_nil)) pe_int) (pa_cons (pe_un un_neg pe_int) (pa_cons (pe_un un_neg pe_int) pa_nil)))) (pg_name (i := 6) nd rfl (Or.inl rfl))
      (pss_cons (ps_set (i := 7) nd rfl (Or.inl rfl) (pe_ix ix_tup (pv 0) (pv 6) (fun _ _ => rfl)))
      (pss_one (ps_if (pt_val (pe_cl c_is_take hr (by omega) (pa_cons (pv 7) pa_nil))) (pss_cons (ps_set (i := 8) nd rfl (Or.inl rfl) (pe_ix ix_list (pv 4) (pe_op op_add (pv 6) pe_int) (fun _ _ => rfl)))
        (pss_one (ps_asg (pe_ifExp (pt_cmpR op_isN (pv 8) pe_non (nomark _)) pe_non (pe_tup (pa_cons (pe_ix ix_tup (pv 7) pe_int (fun _ _ => rfl)) (pa_cons (pv 8) pa_nil)))) (pg_sub (pv 4) (pv 6) set_list)))) (pss_one (ps_if (pt_cmpR (op_neD hu64) (pv 7) (pe_gs T.cUSE) (nomark _)) (pss_one (ps_asg (pe_ifExp (pt_cmpR op_isN (pe_ix ix_list (pv 2) (pv 6) (fun _ _ => rfl)) pe_non (nomark _)) (pe_dget hu (pv 1) (pv 7) (fun _ _ => rfl)) (pe_ix ix_tup (pe_ix ix_tup (pv 0) (pe_ix ix_list (pv 2) (pv 6) (fun _ _ => rfl)) (fun _ _ => rfl)) pe_int (fun _ _ => rfl))) (pg_sub (pv 4) (pv 6) set_list))) (pss_cons (ps_par (i := 9) (j := 10) (by rfl) nd rfl rfl (by decide) rfl rfl (pa_cons (pe_ix ix_list (pv 4) (pe_op op_add (pv 6) pe_int) (fun _ _ => rfl)) (pa_cons (pe_ix ix_list (pv 4) (pe_ix ix_list (pv 3) (pe_op op_add (pv 6) pe_int) (fun _ _ => rfl)) (fun _ _ => rfl)) pa_nil)) (by rfl))
          (pss_one (ps_if (PW.pt (pw_and (pt_cmpR op_notN (pv 9) pe_non (nomark _)) (pw_and1 (pt_cmpR op_notN (pv 10) pe_non (nomark _))))) (pss_one (ps_if (PW.pt (pw_and (pt_val (pe_callB call_isi (by rfl) T.isinstance (by decide +kernel) (pa_cons (pv 9) (pa_cons (pe_ty (Ty := "tuple") T.tuple (by decide +kernel)) pa_nil)))) (pw_and1 (pt_cmpR (op_eqD hu64) (pe_ix ix_tup (pv 9) pe_int (fun _ _ => rfl)) (pv 10) (nomark _))))) (pss_one (ps_asg (pe_ix ix_tup (pv 9) pe_int (fun _ _ => rfl)) (pg_sub (pv 4) (pv 6) set_list))) (pss_one (ps_set (i := 5) nd rfl (Or.inl rfl) (pv 6))))) pss_nil)))))))))
    (pss_one (ps_ret (pe_tup (pa_cons (pv 4) (pa_cons (pv 5) pa_nil))))))))), ?_⟩
    obtain ⟨us, ea, hw⟩ := hp.at_
    have hlen : us.length = ws.length := Paired.length hw
    have h60 := hp.len
    -- takers, ends, found
    refine ⟨_, rfl, a, ws, rfl, hp, fun H1 to s1 nto e1 => ?_⟩
    refine ⟨_, rfl, a, ws, rfl, hp.mono s1.tups, fun H2 eo s2 neo e2 => ?_⟩
    have s12 := s1.trans s2
    refine ⟨(by show 1 ≤ sizeLine; decide), fun z nz => ?_⟩
    generalize eH : upd H2 z (.lst [V.non]) = H3
    obtain ⟨s3, e3, f3⟩ := new_f nz eH
    refine ⟨_, rfl, a, us, rfl, .inr (SqT.h (s3 _ _ (s12 _ _ ea))), z, _, _, rfl, rfl, e3, by omega, by omega, ?_, fun fo nfo => ?_⟩
    · show 1 * ((us.length : Nat) : Int).toNat ≤ sizeLine
      exact le60 (by omega)
    rw [show ((us.length : Nat) : Int).toNat = ws.length by omega, flat_rep]
    generalize eH4 : upd H3 fo (.lst (List.replicate ws.length V.non)) = H4
    obtain ⟨s4, e4, f4⟩ := new_f nfo eH4
    have s24 : Same H2 H4 := s3.trans s4
    have nf2 : H2 fo = none := s3.free nfo
    have eto2 := s2 _ _ e1
    have ea2 := s12 _ _ ea
    -- the loop
    refine ⟨_, rfl, a, us, rfl, .inr (SqT.h (s24 _ _ ea2)), _, _, rfl, rfl, 1, rfl, 1, rfl, _, _, _, _, rfl, RgC.neg (by omega) (by omega) (by omega) (by omega), ?_⟩
    have en : (((us.length : Nat) : Int) - 1 - -1).toNat = ws.length := by omega
    rw [en]
    refine for_rangeC (fun i σ H' => ∃ (vs : List V) (wr : Option Nat) (y6 y7 y8 y9 y10 : Option V), σ = [some (.ref a), some (.ref d), some (.ref to), some (.ref eo), some (.ref fo), some (optV wr), y6, y7, y8, y9, y10] ∧ KsSt ws kn H2 H' fo (ws.length - i) vs wr) ?_ ?_ ?_
    · refine ⟨[], none, none, none, none, none, none, rfl, s24, nf2, ?_, ?_, ?_⟩
      · rw [Nat.sub_zero, List.append_nil]; exact e4
      · rw [Nat.sub_zero, List.drop_length]; exact .nil
      · rw [Nat.sub_zero, List.drop_length]; rfl
    · rintro i σ H5 hi ⟨vs, wr, y6, y7, y8, y9, y10, rfl, st⟩
      obtain ⟨p, ep⟩ : ∃ p, ws.length - i = p + 1 := ⟨ws.length - i - 1, by omega⟩
      have epl : ws.length - (i + 1) = p := by omega
      have hpl : p < ws.length := by omega
      have eplace : (((us.length : Nat) : Int) - 1 + (i : Int) * -1) = (p : Int) := by omega
      rw [ep] at st
      rw [epl]
      have eu : ws[p]? = some ws[p] := List.getElem?_eq_getElem hpl
      generalize ws[p] = u at eu
      obtain ⟨x, hx, wu⟩ := pd_at_right hw eu
      have t5 := (s12.trans st.same).tups
      have wu5 : WdV H5 x u := wu.mono t5
      have ea5 := st.same _ _ ea2
      have eto5 := st.same _ _ eto2
      have eeo5 := st.same _ _ e2
      have hdep : ∀ {q : Nat} {k : Kd}, (kst ws kn (p + 1) (ws.drop (p + 1))).1[q]? = some (some k) → k.depth ≤ 62 := fun h => depth_ok (fun s k e => hkn.depth e) (fun s k hm => hw.takes hm) h60 h
      have hvl := st.len
      have hfl : p < (List.replicate (p + 1) V.non ++ vs).length := by rw [List.length_append, List.length_replicate]; omega
      rw [show ((((us.length : Nat) : Int) - 1) + (i : Int) * -1) = (p : Int) from eplace]
      refine ⟨_, rfl, _, rfl, a, us, (p : Int), x, rfl, rfl, SqT.h ea5, atI_nat hx, ?_⟩
      refine ⟨_, rfl, x, u, rfl, wu5, u.isTake, rfl, ?_⟩
      cases u with
      | take s k =>
        refine iteT ?_
        have hq := succ_lt_take hp.wf eu
        obtain ⟨v, hv, ov, ol⟩ := st.at_ (q := p + 1) (Nat.le_refl _) hq
        rw [Nat.sub_self] at ov ol
        obtain ⟨pt, xk, rfl, ept, hn, hkk, hdk⟩ := wu5
        -- body = found[place + 1]
        refine ⟨_, rfl, _, rfl, _, _, rfl, rfl, fo, _, ((p + 1 : Nat) : Int), v, rfl, rfl, SqL.h st.o, atI_nat hv, ?_⟩
        have hkst := kst_take (kn := kn) eu
        rw [headD_zero] at hkst
        cases eo2 : ((kst ws kn (p + 1) (ws.drop (p + 1))).1[0]?).getD none with
        | none =>
          rw [eo2] at ov hkst
          have ev : v = .non := ov
          subst ev
          refine ⟨_, rfl, rfl, true, eT rfl, iteT ?_⟩
          refine ⟨_, rfl, _, rfl, fo, _, (p : Int), p, rfl, rfl, st.o, ixN_lt hfl, ?_⟩
          generalize eH6 : upd H5 fo (.lst ((List.replicate (p + 1) V.non ++ vs).set p V.non)) = H6
          obtain ⟨e6, f6⟩ := mut_f eH6
          exact ⟨_, wr, _, _, _, _, _, rfl, st.set (o := none) rfl e6 f6 (by rw [hkst, st.wr]; rfl)⟩
        | some kb =>
          rw [eo2] at ov hkst
          have ov' : KdV H5 v kb := ov
          refine ⟨_, rfl, rfl, false, eF ov'.ne_non, iteF ?_⟩
          refine ⟨_, rfl, pt, _, 1, xk, rfl, rfl, SqT.h ept, rfl, _, rfl, (by show 2 ≤ sizeLine; decide), fun TT nTT => ?_⟩
          generalize eH6 : upd H5 TT (.tup [xk, v]) = H6
          obtain ⟨s6, e6, f6⟩ := new_f nTT eH6
          have st6 := st.more s6
          refine ⟨_, rfl, _, rfl, fo, _, (p : Int), p, rfl, rfl, st6.o, ixN_lt hfl, ?_⟩
          generalize eH7 : upd H6 fo (.lst ((List.replicate (p + 1) V.non ++ vs).set p (V.ref TT))) = H7
          obtain ⟨e7, f7⟩ := mut_f eH7
          refine ⟨_, wr, _, _, _, _, _, rfl, st6.set (o := some (Kd.pair k kb)) ⟨TT, xk, v, rfl, e6, hkk.mono s6.tups, ov'.mono s6.tups⟩ e7 f7 (by rw [hkst, st.wr]; rfl)⟩
      | name s =>
        obtain ⟨rfl, hn⟩ := wu5
        have hne := name_ne_use hn
        have hkst := kst_name (kn := kn) eu
        refine iteF ?_
        refine ⟨_, rfl, .str s, .str "@", .str _, .str _, str_shaped (nameOk_strOk hn), str_shaped use_strOk, true, by simp [PyData.eqv, hne], iteT ?_⟩
        have hox : ((owners ws).map optV)[p]? = some (optV (owner ws p)) := by rw [List.getElem?_map, owners_at hpl]; rfl
        refine ⟨_, rfl, _, rfl, to, _, (p : Int), _, rfl, rfl, SqL.h eto5, atI_nat hox, rfl, ?_⟩
        cases ho : owner ws p with
        | none =>
          rw [ho] at hkst hox
          refine ⟨true, eT rfl, iteT ?_⟩
          have hon : openName ws p = some s := by rw [openName_of eu, ho]; rfl
          obtain ⟨kvs, ek, hv⟩ := hkn.mono (s12.trans st.same)
          rcases hv s with ⟨_, e2'⟩ | ⟨v, k, e1', e2', hkv, _⟩
          · exact absurd e2' (hop p s hon)
          refine ⟨_, rfl, _, rfl, d, v, rfl, (by have := DGet.k (k := Sum.inr s) ek; rw [e1'] at this; exact this), ?_⟩
          refine ⟨_, rfl, _, rfl, fo, _, (p : Int), p, rfl, rfl, st.o, ixN_lt hfl, ?_⟩
          generalize eH7 : upd H5 fo (.lst ((List.replicate (p + 1) V.non ++ vs).set p v)) = H7
          obtain ⟨e7, f7⟩ := mut_f eH7
          exact ⟨_, wr, _, _, _, _, _, rfl, st.set (o := some k) hkv e7 f7 (by rw [hkst, st.wr]; show (kn s :: _, _) = _; rw [e2'])⟩
        | some b =>
          rw [ho] at hkst hox
          refine ⟨false, eF (fun z => by cases z), iteF ?_⟩
          obtain ⟨t, k, eb, en2⟩ := owner_take ho
          obtain ⟨xb, hxb, wb⟩ := pd_at_right hw eb
          obtain ⟨pb, xk, rfl, epb, hnb, hkb, hdb⟩ := wb
          refine ⟨_, rfl, _, rfl, _, rfl, to, _, (p : Int), _, rfl, rfl, SqL.h eto5, atI_nat hox, a, us, (b : Int), _, rfl, rfl, SqT.h ea5, atI_nat hxb, pb, _, 1, xk, rfl, rfl, SqT.h (t5 _ _ epb), rfl, ?_⟩
          refine ⟨_, rfl, _, rfl, fo, _, (p : Int), p, rfl, rfl, st.o, ixN_lt hfl, ?_⟩
          generalize eH7 : upd H5 fo (.lst ((List.replicate (p + 1) V.non ++ vs).set p xk)) = H7
          obtain ⟨e7, f7⟩ := mut_f eH7
          exact ⟨_, wr, _, _, _, _, _, rfl, st.set (o := some k) (hkb.mono t5) e7 f7 (by rw [hkst, st.wr]; show (takeKind ws[b]? :: _, _) = _; rw [eb]; rfl)⟩
      | use =>
        have ev : x = .str "@" := wu5
        subst ev
        have hkst := kst_use (kn := kn) eu
        have hq := succ_lt_use hp.wf eu
        have hEl := E_lt_use hp.wf eu
        have hEb := (E_bounds hp.wf hq).1
        refine iteF ?_
        refine ⟨_, rfl, .str "@", .str "@", .str _, .str _, str_shaped use_strOk, str_shaped use_strOk, false, by simp [PyData.eqv], iteF ?_⟩
        obtain ⟨v1, hv1, ov1, ol1⟩ := st.at_ (q := p + 1) (Nat.le_refl _) hq
        obtain ⟨v2, hv2, ov2, ol2⟩ := st.at_ (q := E ws (p + 1)) (by omega) hEl
        rw [Nat.sub_self] at ov1 ol1
        rw [headD_zero] at hkst
        have heo : ((ends ws).map natV)[p + 1]? = some (natV (E ws (p + 1))) := by rw [List.getElem?_map, ends_E hq]; rfl
        refine ⟨_, rfl, _, rfl, _, _, rfl, rfl, fo, _, ((p + 1 : Nat) : Int), v1, rfl, rfl, SqL.h st.o, atI_nat hv1, _, rfl, _, rfl, _, rfl, _, _, rfl, rfl, eo, _, ((p + 1 : Nat) : Int), _, rfl, rfl, SqL.h eeo5, atI_nat heo, fo, _, (E ws (p + 1) : Int), v2, rfl, rfl, SqL.h st.o, atI_nat hv2, v1, v2, rfl, ?_⟩
        generalize ((kst ws kn (p + 1) (ws.drop (p + 1))).1[0]?).getD none = o1 at ov1 ol1 hkst
        generalize ((kst ws kn (p + 1) (ws.drop (p + 1))).1[E ws (p + 1) - (p + 1)]?).getD none = o2 at ov2 ol2 hkst
        have hwr := st.wr
        cases o1 with
        | none =>
          have ev1 : v1 = .non := ov1
          subst ev1
          refine ⟨_, rfl, rfl, false, rfl, iteF ?_⟩
          exact ⟨_, wr, _, _, _, _, _, rfl, st.skip (by rw [hkst, hwr]; rfl)⟩
        | some k1 =>
          have ov1' : KdV H5 v1 k1 := ov1
          refine ⟨_, rfl, rfl, true, by rw [decide_eq_false ov1'.ne_non]; rfl, iteT ?_⟩
          cases o2 with
          | none =>
            have ev2 : v2 = .non := ov2
            subst ev2
            refine ⟨_, rfl, rfl, false, rfl, iteF ?_⟩
            exact ⟨_, wr, _, _, _, _, _, rfl, st.skip (by rw [hkst, hwr]; cases k1 <;> rfl)⟩
          | some k2 =>
            have ov2' : KdV H5 v2 k2 := ov2
            refine ⟨_, rfl, rfl, true, by rw [decide_eq_false ov2'.ne_non]; rfl, iteT ?_⟩
            cases k1 with
            | leaf n =>
              obtain ⟨rfl, _, _⟩ := ov1'
              refine ⟨_, rfl, _, _, _, _, false, rfl, .ty _, .base (.int n), isi_int_tuple, false, rfl, iteF ?_⟩
              exact ⟨_, rfl, _, some p, _, _, _, _, _, rfl, st.skip (by rw [hkst]; rfl)⟩
            | pair ka kb =>
              obtain ⟨p1, xa, xb, rfl, ep1, ha, hb⟩ := ov1'
              have hd1 : (Kd.pair ka kb).depth ≤ 62 := hdep ol1
              have hd2 : k2.depth ≤ 62 := hdep ol2
              simp only [Kd.depth] at hd1
              refine ⟨_, rfl, _, _, _, _, true, rfl, .ty _, .base (.tup ep1), isi_tuple_tuple, true, rfl, iteT ?_⟩
              refine ⟨_, rfl, p1, _, 0, xa, rfl, rfl, SqT.h ep1, rfl, _, rfl, kdD ka, kdD k2, ha.dp, ov2'.dp, kd_shaped (by omega), kd_shaped (by omega), ?_⟩
              rw [kdD_eqv]
              by_cases e : ka = k2
              · refine ⟨true, eT e, iteT ?_⟩
                refine ⟨_, rfl, p1, _, 1, xb, rfl, rfl, SqT.h ep1, rfl, ?_⟩
                refine ⟨_, rfl, _, rfl, fo, _, (p : Int), p, rfl, rfl, st.o, ixN_lt hfl, ?_⟩
                generalize eH7 : upd H5 fo (.lst ((List.replicate (p + 1) V.non ++ vs).set p xb)) = H7
                obtain ⟨e7, f7⟩ := mut_f eH7
                refine ⟨_, wr, _, _, _, _, _, rfl, st.set (o := some kb) hb e7 f7 ?_⟩
                rw [hkst, hwr]
                simp [useKind, e]
              · refine ⟨false, eF e, iteF ?_⟩
                refine ⟨_, rfl, _, some p, _, _, _, _, _, rfl, st.skip ?_⟩
                rw [hkst]
                simp [useKind, e]
    · rintro σ H5 ⟨vs, wr, y6, y7, y8, y9, y10, rfl, st⟩
      rw [Nat.sub_self] at st
      refine ⟨_, rfl, _, rfl, (by show 2 ≤ sizeLine; decide), fun t nt => ?_⟩
      generalize eH6 : upd H5 t (.tup [V.ref fo, optV wr]) = H6
      obtain ⟨s6, e6, f6⟩ := new_f nt eH6
      have st6 := st.more s6
      have hn : (kst ws kn 0 (ws.drop 0)) = kst ws kn 0 ws := rfl
      refine q H6 t fo vs (s12.trans st6.same) ((s12.trans st.same).free nt) ?_ st6.o st6.pd
      rw [e6, st.wr]
      rfl
end
end K8
namespace K8
open PySem PySem.Spec PyProof.Rows L2
/-! ### faults as they lie -/
def FltV (H : Hp) (v : V) : Option (Flt Str) → Prop
  | none => v = .non
  | some (.opn p) => ∃ t, v = .ref t ∧ H t = some (.tup [.str "open", natV p])
  | some (.knd p) => ∃ t, v = .ref t ∧ H t = some (.tup [.str "kind", natV p])
  | some (.handed s n) => ∃ t, v = .ref t ∧ H t = some (.tup [.str "handed", .str s, natV n])
  | some (.cnt p n) => ∃ t, v = .ref t ∧ H t = some (.tup [.str "count", natV p, natV n])
theorem FltV.mono {H H' : Hp} (tt : Tups H H') {v : V} : ∀ {o : Option (Flt Str)}, FltV H v o → FltV H' v o
  | none, h => h
  | some (.opn p), ⟨t, e, h⟩ => ⟨t, e, tt _ _ h⟩
  | some (.knd p), ⟨t, e, h⟩ => ⟨t, e, tt _ _ h⟩
  | some (.handed s n), ⟨t, e, h⟩ => ⟨t, e, tt _ _ h⟩
  | some (.cnt p n), ⟨t, e, h⟩ => ⟨t, e, tt _ _ h⟩
theorem str_at {xs : List Str} {i : Nat} {x : V} (h : (xs.map V.str)[i]? = some x) : ∃ m, xs[i]? = some m ∧ x = V.str m := by
  rw [List.getElem?_map] at h
  cases e : xs[i]? with
  | none => rw [e] at h; cases h
  | some m =>
    rw [e] at h
    exact ⟨m, rfl, (Option.some.inj h).symm⟩
theorem find_list {α : Type} {p : α → Bool} : ∀ {xs : List α} {i : Nat} {x : α}, xs[i]? = some x → (∀ (j : Nat) y, j < i → xs[j]? = some y → p y = false) → p x = true → xs.find? p = some x
  | [], i, x, h, _, _ => by simp at h
  | a :: r, 0, x, h, h0, h1 => by
    have e : a = x := by simpa using h
    subst e
    rw [List.find?_cons, h1]
  | a :: r, i + 1, x, h, h0, h1 => by
    have ha : p a = false := h0 0 a (Nat.succ_pos _) rfl
    rw [List.find?_cons, ha]
    exact find_list (i := i) (by simpa using h) (fun j y hj hy => h0 (j + 1) y (by omega) (by simpa using hy)) h1
theorem find_list_no {α : Type} {p : α → Bool} {xs : List α} (h0 : ∀ (j : Nat) y, xs[j]? = some y → p y = false) : xs.find? p = none := by
  rw [List.find?_eq_none]
  intro x hx
  obtain ⟨j, hj⟩ := List.mem_iff_getElem?.mp hx
  rw [h0 j x hj]
  simp
section
variable {P : Program} {w : World} {K : PySem.W.Frag} {mg : Str → Option Value} {base : Heap} {f : Addr} {fd : FuncData} {CL CR CB : Addr}
/-! ### wrong_count -/
abbrev s_wrong_count : Stmt := topS 53
abbrev Nwrong_count : List Str := ["lot", "handed", "words", "told", "name", "place", "word"]
theorem sc_wrong_count : FnScope Nwrong_count ["lot", "handed", "words"] (defScope s_wrong_count) := ⟨rfl, rfl, rfl, by decide +kernel, rfl, by decide +kernel, by decide +kernel⟩
def sp_wrong_count (CL CR : Addr) : Sp := fun vs H Q _ => ∃ (lp b a : Addr) (l : Lt) (hs : List Str) (ws : List W), vs = [.ref lp, .ref b, .ref a] ∧ LtV CL CR H lp l ∧ H b = some (.lst (hs.map V.str)) ∧ PgV H a ws ∧
  ∀ H' v, Same H H' → FltV H' v (countFault l.holds ws hs) → Q v H'
theorem ok_wrong_count (T : Txt mg) (c_counts_of : Cl P w K mg base "counts_of" 4 ["words"] sp_counts_of) (c_holds_there : Cl P w K mg base "holds_there" 2 ["lot", "number"] (sp_holds_there CL CR)) (c_is_take : Cl P w K mg base "is_take" 1 ["word"] sp_is_take)
    (F : Fun K "wrong_count" "wrong_count" s_wrong_count f fd) : FnOk P w K mg base CX0 5 f fd ["lot", "handed", "words"] (sp_wrong_count CL CR) := by
  have nd := sc_wrong_count.nd
  refine F.ok sc_wrong_count (fun vs H Q Ex h => ?_) (fun cdv A outer s H vs Q Ex hr h => ?_)
  · obtain ⟨_, _, _, _, _, _, rfl, _⟩ := h
    rfl
  · obtain ⟨lp, b, a, l, hs, ws, rfl, hl, eb, hp, q⟩ := h
    have hu := hu_of hr
    refine ⟨_, pss_cons (ps_set (i := 3) nd rfl (Or.inl rfl) (pe_cl c_counts_of hr (by omega) (pa_cons (pv 2) pa_nil)))
    (pss_cons (ps_for PassesOwn.never rfl (pi_list (pv 1)) (pg_name (i := 4) nd rfl (Or.inl rfl))
      (pss_one (ps_if (pt_not (pt_val (pe_cl c_holds_there hr (by omega) (pa_cons (pv 0) (pa_cons (pe_dget2 hu (pv 3) (pv 4) pe_int ⟨rfl, rfl, rfl, rfl⟩) pa_nil))))) (pss_one (ps_ret (pe_tup (pa_cons pe_str (pa_cons (pv 4) (pa_cons (pe_dget2 hu (pv 3) (pv 4) pe_int ⟨rfl, rfl, rfl, rfl⟩) pa_nil)))))) pss_nil)))
    (pss_cons (ps_for PassesOwn.never rfl (pi_enumT (by rfl) T.enumerate (pa_cons (pv 2) pa_nil)) (pg_tup rfl (pgs_cons (pg_name (i := 5) nd rfl (Or.inl rfl)) (pgs_cons (pg_name (i := 6) nd rfl (Or.inl rfl)) pgs_nil)))
      (pss_one (ps_if (PW.pt (pw_and (pt_val (pe_cl c_is_take hr (by omega) (pa_cons (pv 6) pa_nil))) (pw_and1 (pt_not (pt_val (pe_cl c_holds_there hr (by omega) (pa_cons (pv 0) (pa_cons (pe_dget hu (pv 3) (pv 5) (fun _ _ => rfl)) pa_nil)))))))) (pss_one (ps_ret (pe_tup (pa_cons pe_str (pa_cons (pv 5) (pa_cons (pe_dget hu (pv 3) (pv 5) (fun _ _ => rfl)) pa_nil)))))) pss_nil)))
    (pss_one (ps_ret pe_non)))), ?_⟩
    obtain ⟨us, ea, hw⟩ := hp.at_
    have hlen : us.length = ws.length := Paired.length hw
    refine ⟨_, rfl, a, ws, rfl, hp, fun H1 tp kvs s1 ntp e1 htk hnm => ?_⟩
    have eb1 := s1 _ _ eb
    refine ⟨_, rfl, b, rfl, ⟨_, SqL.h eb1⟩, for_list (K := K) (a := b) (xs := hs.map V.str) (fun i σ H' => ∃ (y4 : Option V), σ = [some (.ref lp), some (.ref b), some (.ref a), some (.ref tp), y4, none, none] ∧ Same H1 H' ∧ ∀ (j : Nat) t, j < i → hs[j]? = some t → (!l.holds (standing ws t)) = false) ?_ ?_ ?_ ?_⟩
    · exact ⟨none, rfl, Same.refl _, fun j t h => absurd h (Nat.not_lt_zero _)⟩
    · rintro i σ H' hi ⟨y4, _, s2, _⟩
      exact SqL.h (s2 _ _ eb1)
    · rintro i x σ H2 hx ⟨y4, rfl, s2, hall⟩
      obtain ⟨t, et, rfl⟩ := str_at hx
      have e2 := s2 _ _ e1
      have s12 := s1.trans s2
      have hnt := hnm t
      have hlt := hl.mono s12
      refine ⟨_, rfl, _, rfl, tp, rfl, .inl ⟨_, .inl e2⟩, _, rfl, _, DGet.k (k := Sum.inr t) e2, ?_⟩
      rw [hnt]
      refine ⟨lp, l, standing ws t, rfl, hlt, l.holds (standing ws t), rfl, ?_⟩
      cases hh : l.holds (standing ws t) with
      | true =>
        refine iteF ⟨_, rfl, s2, fun j t' hj ht' => ?_⟩
        by_cases e : j = i
        · subst e
          rw [et] at ht'
          cases ht'
          rw [hh]
          rfl
        · exact hall j t' (by omega) ht'
      | false =>
        refine iteT ?_
        refine ⟨_, rfl, _, rfl, tp, rfl, .inl ⟨_, .inl e2⟩, _, rfl, _, DGet.k (k := Sum.inr t) e2, (by show 3 ≤ sizeLine; decide), fun tt ntt => ?_⟩
        rw [hnt]
        generalize eH3 : upd H2 tt (.tup [V.str "handed", V.str t, natV (standing ws t)]) = H3
        obtain ⟨s3, e3, f3⟩ := new_f ntt eH3
        have hw1 : wrongHanded l.holds ws hs = some t := find_list et hall (by rw [hh]; rfl)
        refine q H3 _ (s12.trans s3) ?_
        have : countFault l.holds ws hs = some (.handed t (standing ws t)) := by unfold countFault; rw [hw1]
        rw [this]
        exact ⟨tt, rfl, e3⟩
    · rintro σ H2 ⟨y4, rfl, s2, hall⟩
      rw [List.length_map] at hall
      have hw1 : wrongHanded l.holds ws hs = none := find_list_no fun j y hy => hall j y (List.getElem?_eq_some_iff.mp hy).1 hy
      have s12 := s1.trans s2
      have ea2 := s12 _ _ ea
      refine ⟨_, rfl, a, us, rfl, SqT.h ea2, for_it (walk_enumT (K := K) (a := a) (xs := us)) (fun i σ H' => ∃ (y4 y5 y6 : Option V), σ = [some (.ref lp), some (.ref b), some (.ref a), some (.ref tp), y4, y5, y6] ∧ Same H2 H' ∧ ∀ p, p < i → (((ws[p]?.map Wd.isTake).getD false) && !l.holds (taken ws p)) = false) ?_ ?_ ?_ ?_⟩
      · exact ⟨_, none, none, rfl, Same.refl _, fun p h => absurd h (Nat.not_lt_zero _)⟩
      · rintro i σ H' hi ⟨y4, y5, y6, _, s3, _⟩
        exact SqT.h (s3 _ _ ea2)
      · rintro i x σ H4 H5 hi ⟨y4, y5, y6, rfl, s4, hbad⟩ ⟨Tp, x1, x, rfl, nT, eH5, ex1, hx⟩
        have ex1' := Option.some.inj ex1
        subst ex1'
        obtain ⟨u, eu, wu⟩ := pd_at_left hw hx
        have hpl : i < ws.length := (List.getElem?_eq_some_iff.mp eu).1
        obtain ⟨s5, e5, f5⟩ := new_f nT eH5.symm
        have s45 := s4.trans s5
        have s15 := s12.trans s45
        have next : ((((ws[i]?.map Wd.isTake).getD false) && !l.holds (taken ws i)) = false) → ∀ p, p < i + 1 → (((ws[p]?.map Wd.isTake).getD false) && !l.holds (taken ws p)) = false := fun hb p hpi => by
          by_cases e : p = i
          · rw [e]; exact hb
          · exact hbad p (by omega)
        refine ⟨Tp, _, rfl, SqT.h e5, rfl, _, _, rfl, _, _, rfl, rfl, ?_⟩
        refine ⟨_, rfl, x, u, rfl, wu.mono s15.tups, u.isTake, rfl, ?_⟩
        cases u with
        | use => exact iteF (iteF ⟨_, _, _, rfl, s45, next (by rw [eu]; rfl)⟩)
        | name s => exact iteF (iteF ⟨_, _, _, rfl, s45, next (by rw [eu]; rfl)⟩)
        | take s k =>
          refine iteT ?_
          have etp : H5 tp = some (.dK kvs) := s45 _ _ (s2 _ _ e1)
          have hg := htk i s k eu
          have hdg : DGet H5 tp (.int (i : Int)) (some (natV (taken ws i))) := by
            have := DGet.k (k := Sum.inl (i : Int)) etp
            rw [hg] at this
            exact this
          refine ⟨_, rfl, _, rfl, _, rfl, tp, _, rfl, hdg, lp, l, taken ws i, rfl, hl.mono s15, l.holds (taken ws i), rfl, ?_⟩
          cases hh : l.holds (taken ws i) with
          | true => exact iteF ⟨_, _, _, rfl, s45, next (by rw [eu, hh]; rfl)⟩
          | false =>
            refine iteT ?_
            refine ⟨_, rfl, _, rfl, _, rfl, tp, _, rfl, hdg, (by show 3 ≤ sizeLine; decide), fun tt ntt => ?_⟩
            generalize eH6 : upd H5 tt (.tup [V.str "count", V.int (i : Int), natV (taken ws i)]) = H6
            obtain ⟨s6, e6, f6⟩ := new_f ntt eH6
            have hw2 : wrongTake l.holds ws = some i := find_first hpl hbad (by rw [eu, hh]; rfl)
            refine q H6 _ (s15.trans s6) ?_
            have : countFault l.holds ws hs = some (.cnt i (taken ws i)) := by unfold countFault; rw [hw1, hw2]
            rw [this]
            exact ⟨tt, rfl, e6⟩
      · rintro σ H4 ⟨y4, y5, y6, rfl, s4, hbad⟩
        rw [hlen] at hbad
        have hw2 : wrongTake l.holds ws = none := find_no hbad
        have := q H4 .non (s12.trans s4)
        have e : countFault l.holds ws hs = none := by unfold countFault; rw [hw1, hw2]
        rw [e] at this
        exact this rfl
/-! ### fault_there -/
abbrev s_fault_there : Stmt := topS 54
abbrev Nfault_there : List Str := ["lot", "known", "handed", "words", "place"]
theorem sc_fault_there : FnScope Nfault_there ["lot", "known", "handed", "words"] (defScope s_fault_there) := ⟨rfl, rfl, rfl, by decide +kernel, rfl, by decide +kernel, by decide +kernel⟩
def sp_fault_there (CL CR : Addr) : Sp := fun vs H Q _ => ∃ (lp d b a : Addr) (l : Lt) (kn : Str → Option Kd) (hs : List Str) (ws : List W), vs = [.ref lp, .ref d, .ref b, .ref a] ∧ LtV CL CR H lp l ∧ KnV H d kn ∧ H b = some (.lst (hs.map V.str)) ∧ PgV H a ws ∧
  ∀ H' v, Same H H' → FltV H' v (judge l.holds kn hs ws) → Q v H'
theorem open_known {ws : List W} {kn : Str → Option Kd} (h : wrongName ws kn = none) : ∀ (p : Nat) s, openName ws p = some s → kn s ≠ none := by
  intro p s e z
  unfold wrongName at h
  rw [List.find?_eq_none] at h
  have hp : p < ws.length := by
    unfold openName at e
    by_cases c : p < ws.length
    · exact c
    · rw [List.getElem?_eq_none (by omega)] at e
      cases e
  refine h p (List.mem_range.mpr hp) ?_
  unfold badOpen
  rw [e]
  show (kn s).isNone = true
  rw [z]
  rfl
theorem ok_fault_there (T : Txt mg) (c_wrong_name : Cl P w K mg base "wrong_name" 4 ["words", "known"] sp_wrong_name) (c_kinds_of_parts : Cl P w K mg base "kinds_of_parts" 4 ["words", "known"] sp_kinds_of_parts)
    (c_wrong_count : Cl P w K mg base "wrong_count" 5 ["lot", "handed", "words"] (sp_wrong_count CL CR)) (F : Fun K "fault_there" "fault_there" s_fault_there f fd) : FnOk P w K mg base CX0 6 f fd ["lot", "known", "handed", "words"] (sp_fault_there CL CR) := by
  have nd := sc_fault_there.nd
  refine F.ok sc_fault_there (fun vs H Q Ex h => ?_) (fun cdv A outer s H vs Q Ex hr h => ?_)
  · obtain ⟨_, _, _, _, _, _, _, _, rfl, _⟩ := h
    rfl
  · obtain ⟨lp, d, b, a, l, kn, hs, ws, rfl, hl, hk, eb, hp, q⟩ := h
    refine ⟨_, pss_cons (ps_set (i := 4) nd rfl (Or.inl rfl) (pe_cl c_wrong_name hr (by omega) (pa_cons (pv 3) (pa_cons (pv 1) pa_nil))))
    (pss_cons (ps_if (pt_cmpR op_notN (pv 4) pe_non (nomark _)) (pss_one (ps_ret (pe_tup (pa_cons pe_str (pa_cons (pv 4) pa_nil))))) pss_nil)
    (pss_cons (ps_set (i := 4) nd rfl (Or.inl rfl) (pe_ix ix_tup (pe_cl c_kinds_of_parts hr (by omega) (pa_cons (pv 3) (pa_cons (pv 1) pa_nil))) pe_int (fun _ _ => rfl)))
    (pss_cons (ps_if (pt_cmpR op_notN (pv 4) pe_non (nomark _)) (pss_one (ps_ret (pe_tup (pa_cons pe_str (pa_cons (pv 4) pa_nil))))) pss_nil)
    (pss_one (ps_ret (pe_cl c_wrong_count hr (by omega) (pa_cons (pv 0) (pa_cons (pv 2) (pa_cons (pv 3) pa_nil))))))))), ?_⟩
    refine ⟨_, rfl, _, rfl, a, d, ws, kn, rfl, hp, hk, fun H1 s1 => ?_⟩
    cases e1 : wrongName ws kn with
    | some p =>
      refine ⟨_, rfl, rfl, true, rfl, iteT ?_⟩
      refine ⟨_, rfl, (by show 2 ≤ sizeLine; decide), fun tt ntt => ?_⟩
      generalize eH2 : upd H1 tt (.tup [V.str "open", optV (some p)]) = H2
      obtain ⟨s2, e2, f2⟩ := new_f ntt eH2
      refine q H2 _ (s1.trans s2) ?_
      have : judge l.holds kn hs ws = some (.opn p) := by unfold judge; rw [e1]
      rw [this]
      exact ⟨tt, rfl, e2⟩
    | none =>
      refine ⟨_, rfl, rfl, false, rfl, iteF ?_⟩
      refine ⟨_, rfl, _, rfl, a, d, ws, kn, rfl, hp.mono s1.tups, hk.mono s1, open_known e1, fun H2 t fo vs s2 nt et efo hpd => ?_⟩
      refine ⟨t, _, 1, _, rfl, rfl, SqT.h et, rfl, ?_⟩
      cases e2 : wrongKind ws kn with
      | some p =>
        refine ⟨_, rfl, rfl, true, rfl, iteT ?_⟩
        refine ⟨_, rfl, (by show 2 ≤ sizeLine; decide), fun tt ntt => ?_⟩
        generalize eH3 : upd H2 tt (.tup [V.str "kind", optV (some p)]) = H3
        obtain ⟨s3, e3, f3⟩ := new_f ntt eH3
        refine q H3 _ ((s1.trans s2).trans s3) ?_
        have : judge l.holds kn hs ws = some (.knd p) := by unfold judge; rw [e1, e2]
        rw [this]
        exact ⟨tt, rfl, e3⟩
      | none =>
        have s12 := s1.trans s2
        refine ⟨_, rfl, rfl, false, rfl, iteF ?_⟩
        refine ⟨_, rfl, _, rfl, _, rfl, lp, b, a, l, hs, ws, rfl, hl.mono s12, s12 _ _ eb, hp.mono s12.tups, fun H3 v s3 hv => ?_⟩
        refine q H3 v (s12.trans s3) ?_
        have : judge l.holds kn hs ws = countFault l.holds ws hs := by unfold judge; rw [e1, e2]
        rw [this]
        exact hv
end
end K8
namespace K8
open PySem PySem.Spec PyProof.Rows L2
/-! ### named kinds as they lie -/
def PkV (H : Hp) (p : Addr) (sk : Str × Kd) : Prop := ∃ x, H p = some (.tup [.str sk.1, x]) ∧ nameOk sk.1 = true ∧ KdV H x sk.2 ∧ sk.2.depth ≤ 3
theorem PkV.mono {H H' : Hp} (t : Tups H H') {p : Addr} {sk : Str × Kd} (h : PkV H p sk) : PkV H' p sk := by
  obtain ⟨x, e, hn, hk, hd⟩ := h
  exact ⟨x, t _ _ e, hn, hk.mono t, hd⟩
/-- a plain tuple of (name, kind) -/
def KnT (H : Hp) (a : Addr) (kl : List (Str × Kd)) : Prop := ∃ ps, PlT H a (ps.map V.ref) ∧ Paired (PkV H) ps kl
theorem KnT.mono {H H' : Hp} (s : Same H H') {a : Addr} {kl : List (Str × Kd)} (h : KnT H a kl) : KnT H' a kl := by
  obtain ⟨ps, e, r⟩ := h
  exact ⟨ps, e.mono s, pd_imp (fun _ _ r => r.mono s.tups) r⟩
def knOf (kl : List (Str × Kd)) : Str → Option Kd := kl.foldl (fun kn sk s => if s = sk.1 then some sk.2 else kn s) (fun _ => none)
def KnR (H : Hp) (kvs : List (Key × V)) (kn : Str → Option Kd) : Prop := ∀ s, (valV kvs (Sum.inr s) = none ∧ kn s = none) ∨ (∃ v k, valV kvs (Sum.inr s) = some v ∧ kn s = some k ∧ KdV H v k ∧ k.depth ≤ 3)
theorem merge_kn {H : Hp} : ∀ {kvs : List (Key × V)} {kl : List (Str × Kd)} {acc : List (Key × V)} {kn : Str → Option Kd}, Paired (fun (kv : Key × V) (sk : Str × Kd) => kv.1 = Sum.inr sk.1 ∧ KdV H kv.2 sk.2 ∧ sk.2.depth ≤ 3) kvs kl → KnR H acc kn →
    KnR H (mergeK acc kvs) (kl.foldl (fun kn sk s => if s = sk.1 then some sk.2 else kn s) kn)
  | _, _, acc, kn, .nil, h => h
  | _, _, acc, kn, .cons (a := kv) (b := sk) ⟨e, hk, hd⟩ t, h => by
    refine merge_kn (acc := putK acc kv.1 kv.2) (kn := fun s => if s = sk.1 then some sk.2 else kn s) t fun s => ?_
    show (valV (putK acc kv.1 kv.2) (Sum.inr s) = none ∧ (if s = sk.1 then some sk.2 else kn s) = none) ∨ (∃ v k, valV (putK acc kv.1 kv.2) (Sum.inr s) = some v ∧ (if s = sk.1 then some sk.2 else kn s) = some k ∧ KdV H v k ∧ k.depth ≤ 3)
    rw [valV_put, e]
    by_cases c : s = sk.1
    · rw [if_pos (by rw [c]), if_pos c]
      exact .inr ⟨_, _, rfl, rfl, hk, hd⟩
    · rw [if_neg (fun z => c (Sum.inr.inj z)), if_neg c]
      exact h s
theorem pk_kvs {K : PySem.W.Frag} {H : Hp} : ∀ {ps : List Addr} {kl : List (Str × Kd)}, Paired (PkV H) ps kl → ∃ kvs : List (Key × V), Paired (fun p kv => SqT K H p [kV kv.1, kv.2]) ps kvs ∧ Paired (fun (kv : Key × V) (sk : Str × Kd) => kv.1 = Sum.inr sk.1 ∧ KdV H kv.2 sk.2 ∧ sk.2.depth ≤ 3) kvs kl
  | _, _, .nil => ⟨[], .nil, .nil⟩
  | _, _, .cons (a := p) (b := sk) ⟨x, e, _, hk, hd⟩ t => by
    obtain ⟨kvs, r1, r2⟩ := pk_kvs t
    exact ⟨(Sum.inr sk.1, x) :: kvs, .cons (SqT.h e) r1, .cons ⟨rfl, hk, hd⟩ r2⟩
theorem pk_at {H : Hp} {ps : List Addr} {kl : List (Str × Kd)} {i : Nat} {x : V} (r : Paired (PkV H) ps kl) (h : (ps.map V.ref)[i]? = some x) : ∃ p sk, x = .ref p ∧ kl[i]? = some sk ∧ PkV H p sk := by
  rw [List.getElem?_map] at h
  cases e : ps[i]? with
  | none => rw [e] at h; cases h
  | some p =>
    rw [e] at h
    obtain ⟨sk, e2, r2⟩ := pd_at_left r e
    exact ⟨p, sk, (Option.some.inj h).symm, e2, r2⟩
theorem inV_no {n : Str} {bs : List Str} (h : n ∉ bs) : inV (V.str n) (bs.map V.str) = false := by
  unfold inV
  rw [List.any_eq_false]
  intro x hx
  obtain ⟨b, hb, rfl⟩ := List.mem_map.mp hx
  show ¬ (b == n) = true
  intro z
  exact h (by rw [← eq_of_beq z]; exact hb)
/-- a book as it lies at p -/
def BkV (CL CR CB : Addr) (H : Hp) (p : Addr) (l : Lt) (tl : List (Str × Kd)) : Prop := ∃ dx fs lp ta, H p = some (.ins CB dx fs) ∧ fs.lookup ("lot" : Str) = some (.ref lp) ∧ LtV CL CR H lp l ∧ fs.lookup ("tools" : Str) = some (.ref ta) ∧ KnT H ta tl ∧ tl.length ≤ 8
theorem BkV.mono {CL CR CB : Addr} {H H' : Hp} (s : Same H H') {p : Addr} {l : Lt} {tl : List (Str × Kd)} (h : BkV CL CR CB H p l tl) : BkV CL CR CB H' p l tl := by
  obtain ⟨dx, fs, lp, ta, e1, e2, e3, e4, e5, e6⟩ := h
  exact ⟨dx, fs, lp, ta, s _ _ e1, e2, e3.mono s, e4, e5.mono s, e6⟩
theorem ne_lt : ¬ ("lot" : Str) = "tools" := by decide +kernel
section
variable {P : Program} {w : World} {K : PySem.W.Frag} {mg : Str → Option Value} {base : Heap} {f : Addr} {fd : FuncData} {CL CR CB : Addr}
/-! ### are_named -/
abbrev s_are_named : Stmt := topS 48
abbrev Nare_named : List Str := ["thing", "most", "barred", "names", "item", "name"]
theorem sc_are_named : FnScope Nare_named ["thing", "most", "barred"] (defScope s_are_named) := ⟨rfl, rfl, rfl, by decide +kernel, rfl, by decide +kernel, by decide +kernel⟩
def sp_are_named : Sp := fun vs H Q _ => ∃ (a b : Addr) (m : Int) (kl : List (Str × Kd)) (bs : List Str), vs = [.ref a, .int m, .ref b] ∧ KnT H a kl ∧ (kl.length : Int) ≤ m ∧ kl.length ≤ 20 ∧ (kl.map (·.1)).Nodup ∧ seqO H b (bs.map V.str) ∧ (∀ sk ∈ kl, sk.1 ∉ bs) ∧
  ∀ H', Same H H' → Q (.bl true) H'
theorem flatS (bs : List Str) : (bs.map V.str).all flatV = true := by
  rw [List.all_map]
  exact List.all_eq_true.mpr fun _ _ => rfl
theorem ok_are_named (T : Txt mg) (c_is_pair : Cl P w K mg base "is_pair" 1 ["thing"] sp_is_pair) (c_is_name : Cl P w K mg base "is_name" 1 ["thing"] sp_is_name) (c_is_kind_of_any_size : Cl P w K mg base "is_kind_of_any_size" 3 ["thing"] sp_is_kind_of_any_size)
    (F : Fun K "are_named" "are_named" s_are_named f fd) : FnOk P w K mg base CX0 4 f fd ["thing", "most", "barred"] sp_are_named := by
  have nd := sc_are_named.nd
  refine F.ok sc_are_named (fun vs H Q Ex h => ?_) (fun cdv A outer s H vs Q Ex hr h => ?_)
  · obtain ⟨_, _, _, _, _, rfl, _⟩ := h
    rfl
  · obtain ⟨a, b, m, kl, bs, rfl, hk, hm, h20, hnd, hb, hbar, q⟩ := h
    refine ⟨_, pss_cons (ps_if (PW.pt (pw_or (pt_not (pt_val (pe_callB call_isi (by rfl) T.isinstance (by decide +kernel) (pa_cons (pv 0) (pa_cons (pe_ty (Ty := "tuple") T.tuple (by decide +kernel)) pa_nil))))) (pw_or1 (pt_cmpR op_gt (pe_callB call_len_seq (by rfl) T.len (by decide +kernel) (pa_cons (pv 0) pa_nil)) (pv 1) (nomark _))))) (pss_one (ps_ret pe_bl)) pss_nil)
    (pss_cons (ps_if (pt_not (pt_val (pe_callB (cr_all rfl) (by rfl) T.all (by decide +kernel) (pa_cons (pe_lc (own := [("item", 4)]) (g := gName 4) rfl nd (pi_tup (pv 0)) (blkOk_by (own := [("item", 4)]) (N := Nare_named) (sc := defScope s_are_named) (by decide +kernel)) (fun _ _ _ _ _ => (pg_name (i := 4) nd rfl (Or.inl rfl))) (fun _ _ _ _ _ => pts_nil) (fun _ _ _ _ _ => (pe_and (pe_cl c_is_pair hr (by omega) (pa_cons (pv 4) pa_nil)) (pe_and (pe_cl c_is_name hr (by omega) (pa_cons (pe_ix (r := rIxT K) ix_tup (pv 4) pe_int (fun _ _ => rfl)) pa_nil)) (pe_one (pe_cl c_is_kind_of_any_size hr (by omega) (pa_cons (pe_ix (r := rIxT K) ix_tup (pv 4) pe_int (fun _ _ => rfl)) pa_nil))))))) pa_nil)))) (pss_one (ps_ret pe_bl)) pss_nil)
    (pss_cons (ps_setLc (i := 3) (own := [("item", 4)]) (g := gName 4) rfl nd rfl rfl (sw_true rfl rfl rfl (by decide +kernel)) (pi_tup (pv 0)) (blkOk_by (own := [("item", 4)]) (N := Nare_named) (sc := defScope s_are_named) (by decide +kernel)) (fun _ _ _ _ _ => (pg_name (i := 4) nd rfl (Or.inl rfl))) (fun _ _ _ _ _ => pts_nil) (fun _ _ _ _ _ => (pe_ix (r := rIxT K) ix_tup (pv 4) pe_int (fun _ _ => rfl))))
    (pss_one (ps_ret (pe_and (pe_cmpR op_eq (pe_callB cr_lenSetTx (by rfl) T.len (by decide +kernel) (pa_cons (pe_callTy (cr_setTx rfl) (by rfl) T.set (by decide +kernel) (pa_cons (pv 3) pa_nil)) pa_nil)) (pe_callB call_len_seq (by rfl) T.len (by decide +kernel) (pa_cons (pv 3) pa_nil)) (nomark _)) (pe_one (pe_not (pe_callB (cr_any rfl) (by rfl) T.any (by decide +kernel) (pa_cons (pe_lc (own := [("name", 5)]) (g := gName 5) rfl nd (pi_list (pv 3)) (blkOk_by (own := [("name", 5)]) (N := Nare_named) (sc := defScope s_are_named) (by decide +kernel)) (fun _ _ _ _ _ => (pg_name (i := 5) nd rfl (Or.inl rfl))) (fun _ _ _ _ _ => pts_nil) (fun _ _ _ _ _ => (pe_cmpR (r := rIn K false) op_in_seq (pv 5) (pv 2) (by rfl)))) pa_nil))))))))), ?_⟩
    obtain ⟨ps, hpl, hpd⟩ := hk
    have hlen : ps.length = kl.length := Paired.length hpd
    obtain ⟨o, eo, hod⟩ := id hpl
    refine ⟨_, rfl, _, _, _, _, true, rfl, .ty _, .fTuple eo, isi_tuple_tuple, true, rfl, iteF ?_⟩
    refine ⟨_, rfl, a, _, rfl, .inr hpl.sq, _, rfl, _, _, rfl, rfl, false, eF ?_, iteF ?_⟩
    · rw [List.length_map]; omega
    -- all(..)
    refine ⟨_, rfl, a, rfl, ⟨_, hpl.sq⟩, fun D nD => ?_⟩
    refine lc_tup (K := K) (a := a) (xs := ps.map V.ref) (fun i H' => Same H H' ∧ H' D = some (.lst ((List.replicate i true).map V.bl))) ⟨same_new _ nD, upd_same⟩ (fun i H' _ h' => (hpl.mono h'.1).sq) ?_ ?_
    · rintro i x H1 hx ⟨s1, eD⟩
      obtain ⟨p, sk, rfl, esk, hpk⟩ := pk_at hpd hx
      obtain ⟨x, ep, hn, hkd, hdp⟩ := hpk.mono s1.tups
      have hil := (List.getElem?_eq_some_iff.mp esk).1
      refine ⟨rfl, _, rfl, _, rfl, .inr ⟨p, _, _, rfl, ep, true, rfl, iteT ?_⟩⟩
      refine ⟨_, rfl, p, _, 0, _, rfl, rfl, SqT.h ep, rfl, sk.1, rfl, hn, fun H2 s2 => ⟨true, rfl, iteT ?_⟩⟩
      refine ⟨_, rfl, p, _, 1, x, rfl, rfl, SqT.h (s2 _ _ ep), rfl, x, sk.2, rfl, hkd.mono s2.tups, hdp, fun H3 s3 => ⟨_, (s2.trans s3) _ _ eD, ?_, ?_⟩⟩
      · rw [List.length_map, List.length_replicate]
        exact lt60 (by omega)
      · rw [rep_snoc]
        exact ⟨(s1.trans (s2.trans s3)).mut nD (fun b hb => upd_ne hb), upd_same⟩
    rintro H2 ⟨s2, eD⟩
    refine ⟨D, _, rfl, SqL.h eD, ?_⟩
    rw [rep_all']
    refine ⟨true, rfl, iteF ?_⟩
    -- names
    refine ⟨_, rfl, a, rfl, ⟨_, (hpl.mono s2).sq⟩, fun N nN => ?_⟩
    refine lc_tup (K := K) (a := a) (xs := ps.map V.ref) (fun i H' => Same H2 H' ∧ H' N = some (.lst (((kl.map (·.1)).take i).map V.str))) ⟨same_new _ nN, upd_same⟩ (fun i H' _ h' => ((hpl.mono s2).mono h'.1).sq) ?_ ?_
    · rintro i x H3 hx ⟨s3, eN⟩
      obtain ⟨p, sk, rfl, esk, hpk⟩ := pk_at hpd hx
      obtain ⟨x, ep, hn, hkd, hdp⟩ := hpk.mono (s2.trans s3).tups
      have hil := (List.getElem?_eq_some_iff.mp esk).1
      refine ⟨rfl, _, rfl, p, _, 0, _, rfl, rfl, SqT.h ep, rfl, _, eN, ?_, s3.mut nN (fun b hb => upd_ne hb), ?_⟩
      · rw [List.length_map, List.length_take]
        exact lt60 (by omega)
      · rw [upd_same, List.take_add_one, List.getElem?_map, esk, List.map_append]
        rfl
    rintro H3 ⟨s3, eN⟩
    rw [List.take_of_length_le (by rw [List.length_map, List.length_map]; omega)] at eN
    have s23 := s2.trans s3
    -- len(set(names)) == len(names)
    refine ⟨_, rfl, N, _, rfl, SqL.h eN, by rw [List.length_map]; omega, fun so sl nso hsl hmem hno => ?_⟩
    generalize eH4 : upd H3 so (SetSO _ _ so sl) = H4
    obtain ⟨s4, e4, f4⟩ := new_f nso eH4
    have hsl2 := hno hnd
    rw [List.length_map] at hsl2
    refine ⟨so, sl, rfl, e4, by omega, _, rfl, N, _, rfl, .inl (SqL.h (s4 _ _ eN)), rfl, true, eT ?_, iteT ?_⟩
    · rw [hsl2, List.length_map, List.length_map]
    -- any(..)
    have hb4 := hb.mono (s23.trans s4)
    refine ⟨_, rfl, N, rfl, ⟨_, SqL.h (s4 _ _ eN)⟩, fun D2 nD2 => ?_⟩
    refine lc_list (K := K) (a := N) (xs := (kl.map (·.1)).map V.str) (fun i H' => Same H4 H' ∧ H' D2 = some (.lst ((List.replicate i false).map V.bl))) ⟨same_new _ nD2, upd_same⟩ (fun i H' _ h' => SqL.h (h'.1 _ _ (s4 _ _ eN))) ?_ ?_
    · rintro i x H5 hx ⟨s5, eD2⟩
      obtain ⟨n, en, rfl⟩ := str_at hx
      rw [List.getElem?_map] at en
      have hnb : n ∉ bs := by
        cases esk : kl[i]? with
        | none => rw [esk] at en; cases en
        | some sk =>
          rw [esk] at en
          have : sk.1 = n := Option.some.inj en
          rw [← this]
          exact hbar sk (List.mem_of_getElem? esk)
      have hil : i < kl.length := by
        by_cases c : i < kl.length
        · exact c
        · rw [List.getElem?_eq_none (by omega)] at en; cases en
      have hb5 : SqL K H5 b (bs.map V.str) ∨ SqT K H5 b (bs.map V.str) := by
        rcases hb4.mono s5 with e | e
        · exact .inl (SqL.h e)
        · exact .inr (SqT.h e)
      refine ⟨rfl, _, rfl, _, rfl, b, _, rfl, hb5, rfl, flatS bs, _, eD2, ?_, ?_⟩
      · rw [List.length_map, List.length_replicate]
        exact lt60 (by omega)
      · rw [inV_no hnb]
        show Same H4 (upd H5 D2 (.lst ((List.replicate i false).map V.bl ++ [V.bl false]))) ∧ _
        rw [show (if false = true then !false else false) = false from rfl, rep_snocF]
        exact ⟨s5.mut nD2 (fun b hb => upd_ne hb), upd_same⟩
    · rintro H5 ⟨s5, eD2⟩
      refine ⟨D2, _, rfl, SqL.h eD2, ?_⟩
      rw [rep_none]
      exact ⟨false, rfl, q _ ((s23.trans s4).trans s5)⟩
end
end K8
namespace K8
open PySem PySem.Spec PyProof.Rows L2
/-- a def that may raise -/
structure ClX (P : Program) (w : World) (K : PySem.W.Frag) (mg : Str → Option Value) (base : Heap) (x : Str) (k : Nat) (ps : List Str) (sp : Sp) : Prop where
  ex : ∃ f fd, mg x = some (.ref f) ∧ PySem.W.keepIn K (.ref f) = true ∧ Binds K fd ps [] ∧ FnOk P w K mg base (L2.CX P w) k f fd ps sp
def tClX (sp : Sp) (E : XK) (t : TA) : TE := fun σ H Q => t σ H fun vs H1 => sp vs H1 Q E
section
variable {X : Cx} {x : Str} {p pos : Pos} {e : Expr} {es : List Expr} {t : TA} {k j : Nat} {ps : List Str} {sp : Sp} {Ex : XK}
theorem pe_clX (C : ClX X.prog X.w X.K X.mg X.base x k ps sp) (hr : Room j X.A) (hk : k ≤ j) (hx : Passes (L2.CX X.prog X.w) X Ex) (ha : PA X (e :: es) t) (hg : Gl X x := by rfl) (hdb : (x == ("__debug__" : Str)) = false := by decide)
    (he : starEach (e :: es) X.env = (false, eval e X.env) :: starEach es X.env := by rfl) (hpl : (backTo pos (starEach es X.env)).any (·.1) = false := by rfl) : PE X (.Call (.Name x p) (e :: es) [] pos) (tClX sp Ex t) := by
  obtain ⟨f, fd, hm, kp, b, F⟩ := C.ex
  have q := pe_call (X := X) (p := p) (pos := pos) F (hr.mono hk) hg hm kp b .nil hx ha hdb he hpl
  refine ⟨fun pins s σ H Q I h => q.run pins s σ H Q I ?_⟩
  show t σ H fun vs H1 => sp (vs ++ []) H1 Q Ex
  have e2 : (fun (vs : List V) (H1 : Hp) => sp (vs ++ []) H1 Q Ex) = fun vs H1 => sp vs H1 Q Ex := by
    funext vs H1
    rw [List.append_nil]
  rw [e2]
  exact h
end
section
variable {P : Program} {w : World} {K : PySem.W.Frag} {mg : Str → Option Value} {base : Heap} {f : Addr} {fd : FuncData} {CL CR CB : Addr}
/-! ### Book.__init__ -/
abbrev s_Book_init : Stmt := inClass (topS 49) 0
abbrev NBook_init : List Str := ["self", "lot", "tools"]
theorem sc_Book_init : FnScope NBook_init ["self", "lot", "tools"] (defScope s_Book_init) := ⟨rfl, rfl, rfl, by decide +kernel, rfl, by decide +kernel, by decide +kernel⟩
def sp_Book_init (CL CR CB : Addr) : Sp := fun vs H Q _ => ∃ (p dx lp a : Addr) (l : Lt) (tl : List (Str × Kd)), vs = [.ref p, .ref lp, .ref a] ∧ H p = some (.ins CB dx []) ∧ LtV CL CR H lp l ∧ KnT H a tl ∧ tl.length ≤ 8 ∧ (tl.map (·.1)).Nodup ∧
  ∀ H' fs, SameB p H H' → H' p = some (.ins CB dx fs) → fs.lookup ("lot" : Str) = some (.ref lp) → fs.lookup ("tools" : Str) = some (.ref a) → Q .non H'
theorem LtV.ty {H : Hp} {lp : Addr} {mg : Str → Option Value} (C : CTxt K mg CL CR CB) : ∀ {l : Lt}, LtV CL CR H lp l → ∃ D, TyX K H (.ref lp) (.ref D) ∧ PySem.W.kitAny K (.ref D) [.ref CL, .ref CR] = some true
  | .once, ⟨dx, fs, e, _⟩ => ⟨CL, .base (.ins e C.cL C.iL.ha C.iL.hn C.iL.ht C.iL.hm), C.kL⟩
  | .loan, ⟨dx, fs, e, _⟩ => ⟨CL, .base (.ins e C.cL C.iL.ha C.iL.hn C.iL.ht C.iL.hm), C.kL⟩
  | .free, ⟨dx, fs, e, _⟩ => ⟨CL, .base (.ins e C.cL C.iL.ha C.iL.hn C.iL.ht C.iL.hm), C.kL⟩
  | .more ms, ⟨dx, fs, e, _⟩ => ⟨CL, .base (.ins e C.cL C.iL.ha C.iL.hn C.iL.ht C.iL.hm), C.kL⟩
  | .raw hs rs, ⟨dx, fs, e, _⟩ => ⟨CR, .base (.ins e C.cR C.iR.ha C.iR.hn C.iR.ht C.iR.hm), C.kR⟩
theorem ok_Book_init (T : Txt mg) (C : CTxt K mg CL CR CB) (c_are_named : Cl P w K mg base "are_named" 4 ["thing", "most", "barred"] sp_are_named)
    (F : Fun K "__init__" "Book.__init__" s_Book_init f fd) : FnOk P w K mg base CX0 5 f fd ["self", "lot", "tools"] (sp_Book_init CL CR CB) := by
  have nd := sc_Book_init.nd
  refine F.ok sc_Book_init (fun vs H Q Ex h => ?_) (fun cdv A outer s H vs Q Ex hr h => ?_)
  · obtain ⟨_, _, _, _, _, _, rfl, _⟩ := h
    rfl
  · obtain ⟨p, dx, lp, a, l, tl, rfl, ep, hl, hk, h8, hnd, q⟩ := h
    refine ⟨_, pss_cons (ps_if (pt_not (pt_val (pe_callB call_isiT (by rfl) T.isinstance (by decide +kernel) (pa_cons (pv 1) (pa_cons (pe_tup (pa_cons (pe_glob (v := .ref CL) rfl C.gL rfl) (pa_cons (pe_glob (v := .ref CR) rfl C.gR rfl) pa_nil))) pa_nil))))) (pss_one ps_never) pss_nil)
    (pss_cons (ps_if (pt_not (pt_val (pe_cl c_are_named hr (by omega) (pa_cons (pv 2) (pa_cons (pe_gi T.cMOST_TOOLS) (pa_cons (pe_tup pa_nil) pa_nil)))))) (pss_one ps_never) pss_nil)
    (pss_cons (ps_fld (pv 0) (pv 1) rfl)
    (pss_one (ps_fld (pv 0) (pv 2) rfl)))), ?_⟩
    refine ⟨_, rfl, (by show 2 ≤ sizeLine; decide), fun tp ntp => ?_⟩
    generalize eH1 : upd H tp (.tup [V.ref CL, V.ref CR]) = H1
    obtain ⟨s1, e1, f1⟩ := new_f ntp eH1
    obtain ⟨D, ty, ka⟩ := (hl.mono s1).ty C
    refine ⟨_, tp, _, _, _, true, rfl, e1, .cons (.own CL) (.cons (.own CR) .nil), ty, ka, true, rfl, iteF ?_⟩
    refine ⟨_, rfl, Nat.zero_le _, fun bp nbp => ?_⟩
    generalize eH2 : upd H1 bp (.tup []) = H2
    obtain ⟨s2, e2, f2⟩ := new_f nbp eH2
    have s12 := s1.trans s2
    refine ⟨a, bp, 8, tl, [], rfl, hk.mono s12, by omega, by omega, hnd, .inr e2, fun _ _ z => (by cases z), fun H3 s3 => ⟨true, rfl, iteF ?_⟩⟩
    have s13 := s12.trans s3
    refine ⟨_, rfl, _, rfl, p, CB, dx, [], rfl, s13 _ _ ep, C.cB, C.bLot, by decide, ?_⟩
    generalize eH4 : upd H3 p (.ins CB dx (putF "lot" (.ref lp) [])) = H4
    obtain ⟨e4, f4⟩ := mut_f eH4
    refine ⟨_, rfl, _, rfl, p, CB, dx, _, rfl, e4, C.cB, C.bTools, putF_lt1, ?_⟩
    generalize eH5 : upd H4 p (.ins CB dx (putF "tools" (.ref a) (putF "lot" (.ref lp) []))) = H5
    obtain ⟨e5, f5⟩ := mut_f eH5
    refine q H5 _ (fun b o hb e => by rw [f5 _ hb, f4 _ hb]; exact s13 _ _ e) e5 ?_ ?_
    · rw [lookup_putF, if_neg ne_lt, lookup_putF, if_pos rfl]
    · rw [lookup_putF, if_pos rfl]
/-! ### check_handed -/
abbrev s_check_handed : Stmt := topS 50
abbrev Ncheck_handed : List Str := ["book", "thing", "name", "kind"]
theorem sc_check_handed : FnScope Ncheck_handed ["book", "thing"] (defScope s_check_handed) := ⟨rfl, rfl, rfl, by decide +kernel, rfl, by decide +kernel, by decide +kernel⟩
def sp_check_handed (CL CR CB : Addr) : Sp := fun vs H Q _ => ∃ (p a : Addr) (l : Lt) (tl hl : List (Str × Kd)), vs = [.ref p, .ref a] ∧ BkV CL CR CB H p l tl ∧ KnT H a hl ∧ hl.length ≤ 6 ∧ ((tl ++ hl).map (·.1)).Nodup ∧ ∀ H', Same H H' → Q .non H'
/-- the list of names made by [name for name, kind in t] -/
theorem names_lc {H0 : Hp} {ps : List Addr} {kl : List (Str × Kd)} (h : Paired (PkV H0) ps kl) {i : Nat} {x : V} (hx : (ps.map V.ref)[i]? = some x) {H : Hp} (t : Tups H0 H) : ∃ p sk y, x = .ref p ∧ kl[i]? = some sk ∧ H p = some (.tup [.str sk.1, y]) := by
  obtain ⟨p, sk, e, esk, hpk⟩ := pk_at h hx
  obtain ⟨y, ep, _⟩ := hpk.mono t
  exact ⟨p, sk, y, e, esk, ep⟩
theorem ok_check_handed (T : Txt mg) (C : CTxt K mg CL CR CB) (c_are_named : Cl P w K mg base "are_named" 4 ["thing", "most", "barred"] sp_are_named)
    (F : Fun K "check_handed" "check_handed" s_check_handed f fd) : FnOk P w K mg base CX0 5 f fd ["book", "thing"] (sp_check_handed CL CR CB) := by
  have nd := sc_check_handed.nd
  refine F.ok sc_check_handed (fun vs H Q Ex h => ?_) (fun cdv A outer s H vs Q Ex hr h => ?_)
  · obtain ⟨_, _, _, _, _, rfl, _⟩ := h
    rfl
  · obtain ⟨p, a, l, tl, hl, rfl, ⟨dx, fs, lp, ta, ep, e2, e3, e4, ht, h8⟩, hh, h6, hnd, q⟩ := h
    refine ⟨_, pss_one (ps_if (pt_not (pt_val (pe_cl c_are_named hr (by omega) (pa_cons (pv 1) (pa_cons (pe_gi T.cMOST_HANDED) (pa_cons (pe_lc (own := [("name", 2), ("kind", 3)]) (g := gTup K 2 (gCons (gName 2) (gCons (gName 3) gNil))) rfl nd (pi_tup (pe_fld (pv 0) rfl)) (blkOk_by (own := [("name", 2), ("kind", 3)]) (N := Ncheck_handed) (sc := defScope s_check_handed) (by decide +kernel)) (fun _ _ _ _ _ => (pg_tup rfl (pgs_cons (pg_name (i := 2) nd rfl (Or.inl rfl)) (pgs_cons (pg_name (i := 3) nd rfl (Or.inl rfl)) pgs_nil)))) (fun _ _ _ _ _ => pts_nil) (fun _ _ _ _ _ => (pv 2))) pa_nil)))))) (pss_one ps_never) pss_nil), ?_⟩
    obtain ⟨ps, hpl, hpd⟩ := ht
    have hlen : ps.length = tl.length := Paired.length hpd
    refine ⟨_, rfl, _, rfl, p, CB, dx, fs, .ref ta, rfl, ep, C.cB, C.bTools, e4, ta, rfl, ⟨_, hpl.sq⟩, fun D nD => ?_⟩
    refine lc_tup (K := K) (a := ta) (xs := ps.map V.ref) (fun i H' => Same H H' ∧ H' D = some (.lst (((tl.map (·.1)).take i).map V.str))) ⟨same_new _ nD, upd_same⟩ (fun i H' _ h' => (hpl.mono h'.1).sq) ?_ ?_
    · rintro i x H3 hx ⟨s3, eN⟩
      obtain ⟨pp, sk, y, rfl, esk, epp⟩ := names_lc hpd hx s3.tups
      have hil := (List.getElem?_eq_some_iff.mp esk).1
      refine ⟨pp, _, rfl, SqT.h epp, rfl, _, _, rfl, _, _, rfl, rfl, rfl, _, rfl, _, eN, ?_, s3.mut nD (fun b hb => upd_ne hb), ?_⟩
      · rw [List.length_map, List.length_take]
        exact lt60 (by omega)
      · rw [upd_same, List.take_add_one, List.getElem?_map, esk, List.map_append]
        rfl
    rintro H3 ⟨s3, eN⟩
    rw [List.take_of_length_le (by rw [List.length_map, List.length_map]; omega)] at eN
    rw [List.map_append, List.nodup_append] at hnd
    obtain ⟨_, n2, n3⟩ := hnd
    refine ⟨a, D, 6, hl, tl.map (·.1), rfl, hh.mono s3, by omega, by omega, n2, .inl eN, fun sk hsk hb => n3 sk.1 hb sk.1 (List.mem_map.mpr ⟨sk, hsk, rfl⟩) rfl, fun H4 s4 => ⟨true, rfl, iteF ?_⟩⟩
    exact q _ (s3.trans s4)
/-! ### known_in -/
abbrev s_known_in : Stmt := topS 55
abbrev Nknown_in : List Str := ["book", "handed"]
theorem sc_known_in : FnScope Nknown_in ["book", "handed"] (defScope s_known_in) := ⟨rfl, rfl, rfl, by decide +kernel, rfl, by decide +kernel, by decide +kernel⟩
def sp_known_in (CL CR CB : Addr) : Sp := fun vs H Q _ => ∃ (p a : Addr) (l : Lt) (tl hl : List (Str × Kd)), vs = [.ref p, .ref a] ∧ BkV CL CR CB H p l tl ∧ KnT H a hl ∧ hl.length ≤ 20 ∧ ∀ H' d, Same H H' → H d = none → KnV H' d (knOf (tl ++ hl)) → Q (.ref d) H'
theorem pd_app' {α β : Type} {R : α → β → Prop} : ∀ {xs xs' : List α} {ys ys' : List β}, Paired R xs ys → Paired R xs' ys' → Paired R (xs ++ xs') (ys ++ ys')
  | _, _, _, _, .nil, h => h
  | _, _, _, _, .cons r t, h => .cons r (pd_app' t h)
theorem pd_nil_left {α β : Type} {R : α → β → Prop} {ys : List β} (h : Paired R [] ys) : ys = [] := by cases h; rfl
theorem dict_known {H H1 : Hp} {d : Addr} {kvs : List (Key × V)} {kl : List (Str × Kd)} (r : Paired (fun (kv : Key × V) (sk : Str × Kd) => kv.1 = Sum.inr sk.1 ∧ KdV H kv.2 sk.2 ∧ sk.2.depth ≤ 3) kvs kl) (s : Same H H1) (e : H1 d = some (.dK (mergeK [] kvs))) : KnV H1 d (knOf kl) := by
  have h0 : KnR H [] (fun _ => none) := fun s => .inl ⟨rfl, rfl⟩
  have h1 := merge_kn r h0
  exact ⟨_, e, fun t => (h1 t).imp id fun ⟨v, k, a, b, c, d⟩ => ⟨v, k, a, b, c.mono s.tups, d⟩⟩
theorem ok_known_in (T : Txt mg) (C : CTxt K mg CL CR CB) (F : Fun K "known_in" "known_in" s_known_in f fd) : FnOk P w K mg base CX0 1 f fd ["book", "handed"] (sp_known_in CL CR CB) := by
  have nd := sc_known_in.nd
  refine F.ok sc_known_in (fun vs H Q Ex h => ?_) (fun cdv A outer s H vs Q Ex hr h => ?_)
  · obtain ⟨_, _, _, _, _, rfl, _⟩ := h
    rfl
  · obtain ⟨p, a, l, tl, hl, rfl, ⟨dx, fs, lp, ta, ep, e2, e3, e4, ⟨ps, hpl, hpd⟩, h8⟩, ⟨qs, hql, hqd⟩, h20, q⟩ := h
    refine ⟨_, pss_one (ps_ret (pe_callTy (call_dictPT rfl) (by rfl) T.dict (by decide +kernel) (pa_cons (pe_op op_catP (pe_fld (pv 0) rfl) (pv 1)) pa_nil))), ?_⟩
    have hlen : ps.length = tl.length := Paired.length hpd
    have hlen2 : qs.length = hl.length := Paired.length hqd
    refine ⟨_, rfl, p, CB, dx, fs, .ref ta, rfl, ep, C.cB, C.bTools, e4, _, rfl, ta, a, _, _, rfl, rfl, hpl.sq, hql.sq, by rw [List.length_map, List.length_map]; exact le60 (by omega), fun h0 => ?_, fun h0 h1 => ?_, fun h0 h1 np o nnp hod => ?_⟩
    · have hps : ps = [] := List.map_eq_nil_iff.mp h0
      subst hps
      have htl := pd_nil_left hpd
      subst htl
      obtain ⟨kvs, r1, r2⟩ := pk_kvs (K := K) hqd
      refine ⟨a, qs, kvs, rfl, hql, r1, fun d nd2 => ?_⟩
      generalize eH1 : upd H d (.dK (mergeK [] kvs)) = H1
      obtain ⟨s1, e1, f1⟩ := new_f nd2 eH1
      exact q H1 d s1 nd2 (dict_known r2 s1 e1)
    · have hqs : qs = [] := List.map_eq_nil_iff.mp h1
      subst hqs
      have hhl := pd_nil_left hqd
      subst hhl
      obtain ⟨kvs, r1, r2⟩ := pk_kvs (K := K) hpd
      refine ⟨ta, ps, kvs, rfl, hpl, r1, fun d nd2 => ?_⟩
      generalize eH1 : upd H d (.dK (mergeK [] kvs)) = H1
      obtain ⟨s1, e1, f1⟩ := new_f nd2 eH1
      rw [List.append_nil] at q
      exact q H1 d s1 nd2 (dict_known r2 s1 e1)
    · have enm : ps.map V.ref ++ qs.map V.ref = (ps ++ qs).map V.ref := (List.map_append).symm
      have hpl1 : PlT (upd H np (.frz o (.tup (ps.map V.ref ++ qs.map V.ref)))) np ((ps ++ qs).map V.ref) := by rw [← enm]; exact plt_new hod
      generalize eH1 : upd H np (.frz o (.tup (ps.map V.ref ++ qs.map V.ref))) = H1 at hpl1
      obtain ⟨s1, e1, f1⟩ := new_f nnp eH1
      have hpd1 : Paired (PkV H1) (ps ++ qs) (tl ++ hl) := pd_app' (pd_imp (fun _ _ r => r.mono s1.tups) hpd) (pd_imp (fun _ _ r => r.mono s1.tups) hqd)
      obtain ⟨kvs, r1, r2⟩ := pk_kvs (K := K) hpd1
      refine ⟨np, ps ++ qs, kvs, rfl, hpl1, r1, fun d nd2 => ?_⟩
      generalize eH2 : upd H1 d (.dK (mergeK [] kvs)) = H2
      obtain ⟨s2, e2', f2⟩ := new_f nd2 eH2
      exact q H2 d (s1.trans s2) (s1.free nd2) (dict_known r2 s2 e2')
end
end K8
namespace K8
open PySem PySem.Spec PyProof.Rows L2
section
variable {P : Program} {w : World} {K : PySem.W.Frag} {mg : Str → Option Value} {base : Heap} {f : Addr} {fd : FuncData} {CL CR CB CF fF : Addr}
noncomputable abbrev judged (l : Lt) (tl hl : List (Str × Kd)) (ws : List W) : Option (Flt Str) := judge l.holds (knOf (tl ++ hl)) (hl.map (·.1)) ws
/-- what the calls about (book, handed, words) are given -/
def BhW (CL CR CB : Addr) (H : Hp) (vs : List V) (l : Lt) (tl hl : List (Str × Kd)) (ws : List W) : Prop := ∃ p a b, vs = [.ref p, .ref a, .ref b] ∧ BkV CL CR CB H p l tl ∧ KnT H a hl ∧ hl.length ≤ 6 ∧ ((tl ++ hl).map (·.1)).Nodup ∧ PgV H b ws
/-! ### fault_in -/
abbrev s_fault_in : Stmt := topS 56
abbrev Nfault_in : List Str := ["book", "handed", "words", "name", "kind"]
theorem sc_fault_in : FnScope Nfault_in ["book", "handed", "words"] (defScope s_fault_in) := ⟨rfl, rfl, rfl, by decide +kernel, rfl, by decide +kernel, by decide +kernel⟩
def sp_fault_in (CL CR CB : Addr) : Sp := fun vs H Q _ => ∃ l tl hl ws, BhW CL CR CB H vs l tl hl ws ∧ ∀ H' v, Same H H' → FltV H' v (judged l tl hl ws) → Q v H'
theorem ok_fault_in (T : Txt mg) (C : CTxt K mg CL CR CB) (c_fault_there : Cl P w K mg base "fault_there" 6 ["lot", "known", "handed", "words"] (sp_fault_there CL CR)) (c_known_in : Cl P w K mg base "known_in" 1 ["book", "handed"] (sp_known_in CL CR CB))
    (F : Fun K "fault_in" "fault_in" s_fault_in f fd) : FnOk P w K mg base CX0 7 f fd ["book", "handed", "words"] (sp_fault_in CL CR CB) := by
  have nd := sc_fault_in.nd
  refine F.ok sc_fault_in (fun vs H Q Ex h => ?_) (fun cdv A outer s H vs Q Ex hr h => ?_)
  · obtain ⟨_, _, _, _, ⟨_, _, _, rfl, _⟩, _⟩ := h
    rfl
  · obtain ⟨l, tl, hl, ws, ⟨p, a, b, rfl, hb, hh, h6, hnd, hp⟩, q⟩ := h
    refine ⟨_, pss_one (ps_ret (pe_cl c_fault_there hr (by omega) (pa_cons (pe_fld (pv 0) rfl) (pa_cons (pe_cl c_known_in hr (by omega) (pa_cons (pv 0) (pa_cons (pv 1) pa_nil))) (pa_cons (pe_lc (own := [("name", 3), ("kind", 4)]) (g := gTup K 2 (gCons (gName 3) (gCons (gName 4) gNil))) rfl nd (pi_tup (pv 1)) (blkOk_by (own := [("name", 3), ("kind", 4)]) (N := Nfault_in) (sc := defScope s_fault_in) (by decide +kernel)) (fun _ _ _ _ _ => (pg_tup rfl (pgs_cons (pg_name (i := 3) nd rfl (Or.inl rfl)) (pgs_cons (pg_name (i := 4) nd rfl (Or.inl rfl)) pgs_nil)))) (fun _ _ _ _ _ => pts_nil) (fun _ _ _ _ _ => (pv 3))) (pa_cons (pv 2) pa_nil)))))), ?_⟩
    have hb' := hb
    obtain ⟨dx, fs, lp, ta, ep, e2, e3, e4, ht, h8⟩ := hb'
    refine ⟨_, rfl, p, CB, dx, fs, .ref lp, rfl, ep, C.cB, C.bLot, e2, _, rfl, _, rfl, p, a, l, tl, hl, rfl, hb, hh, by omega, fun H1 d s1 nd1 hkn => ?_⟩
    obtain ⟨qs, hql, hqd⟩ := hh
    have hlen2 : qs.length = hl.length := Paired.length hqd
    have hq1 := hql.mono s1
    refine ⟨_, rfl, a, rfl, ⟨_, hq1.sq⟩, fun D nD => ?_⟩
    refine lc_tup (K := K) (a := a) (xs := qs.map V.ref) (fun i H' => Same H1 H' ∧ H' D = some (.lst (((hl.map (·.1)).take i).map V.str))) ⟨same_new _ nD, upd_same⟩ (fun i H' _ h' => (hq1.mono h'.1).sq) ?_ ?_
    · rintro i x H3 hx ⟨s3, eN⟩
      obtain ⟨pp, sk, y, rfl, esk, epp⟩ := names_lc hqd hx (s1.trans s3).tups
      have hil := (List.getElem?_eq_some_iff.mp esk).1
      refine ⟨pp, _, rfl, SqT.h epp, rfl, _, _, rfl, _, _, rfl, rfl, rfl, _, rfl, _, eN, ?_, s3.mut nD (fun b hb => upd_ne hb), ?_⟩
      · rw [List.length_map, List.length_take]
        exact lt60 (by omega)
      · rw [upd_same, List.take_add_one, List.getElem?_map, esk, List.map_append]
        rfl
    rintro H3 ⟨s3, eN⟩
    rw [List.take_of_length_le (by rw [List.length_map, List.length_map]; omega)] at eN
    have s13 := s1.trans s3
    exact ⟨_, rfl, lp, d, D, b, l, _, hl.map (·.1), ws, rfl, e3.mono s13, hkn.mono s3, eN, hp.mono s13.tups, fun H4 v s4 hv => q H4 v (s13.trans s4) hv⟩
/-! ### fault -/
abbrev s_fault : Stmt := topS 57
abbrev Nfault : List Str := ["book", "handed", "program"]
theorem sc_fault : FnScope Nfault ["book", "handed", "program"] (defScope s_fault) := ⟨rfl, rfl, rfl, by decide +kernel, rfl, by decide +kernel, by decide +kernel⟩
theorem BhW.mono {H H' : Hp} (s : Same H H') {vs : List V} {l : Lt} {tl hl : List (Str × Kd)} {ws : List W} (h : BhW CL CR CB H vs l tl hl ws) : BhW CL CR CB H' vs l tl hl ws := by
  obtain ⟨p, a, b, e, h1, h2, h3, h4, h5⟩ := h
  exact ⟨p, a, b, e, h1.mono s, h2.mono s, h3, h4, h5.mono s.tups⟩
theorem ok_fault (T : Txt mg) (c_check_handed : Cl P w K mg base "check_handed" 5 ["book", "thing"] (sp_check_handed CL CR CB)) (c_check_program : Cl P w K mg base "check_program" 5 ["thing"] sp_check_program)
    (c_fault_in : Cl P w K mg base "fault_in" 7 ["book", "handed", "words"] (sp_fault_in CL CR CB)) (F : Fun K "fault" "fault" s_fault f fd) : FnOk P w K mg base CX0 8 f fd ["book", "handed", "program"] (sp_fault_in CL CR CB) := by
  have nd := sc_fault.nd
  refine F.ok sc_fault (fun vs H Q Ex h => ?_) (fun cdv A outer s H vs Q Ex hr h => ?_)
  · obtain ⟨_, _, _, _, ⟨_, _, _, rfl, _⟩, _⟩ := h
    rfl
  · obtain ⟨l, tl, hl, ws, ⟨p, a, b, rfl, hb, hh, h6, hnd, hp⟩, q⟩ := h
    refine ⟨_, pss_cons (ps_expr (pe_cl c_check_handed hr (by omega) (pa_cons (pv 0) (pa_cons (pv 1) pa_nil))))
    (pss_cons (ps_expr (pe_cl c_check_program hr (by omega) (pa_cons (pv 2) pa_nil)))
    (pss_one (ps_ret (pe_cl c_fault_in hr (by omega) (pa_cons (pv 0) (pa_cons (pv 1) (pa_cons (pv 2) pa_nil))))))), ?_⟩
    refine ⟨_, rfl, _, rfl, p, a, l, tl, hl, rfl, hb, hh, h6, hnd, fun H1 s1 => ?_⟩
    refine ⟨_, rfl, b, ws, rfl, hp.mono s1.tups, fun H2 s2 => ?_⟩
    have s12 := s1.trans s2
    exact ⟨_, rfl, _, rfl, _, rfl, l, tl, hl, ws, ⟨p, a, b, rfl, hb.mono s12, hh.mono s12, h6, hnd, hp.mono s12.tups⟩, fun H3 v s3 hv => q H3 v (s12.trans s3) hv⟩
/-! ### check_right -/
abbrev s_check_right : Stmt := topS 58
abbrev Ncheck_right : List Str := ["book", "handed", "program", "found"]
theorem sc_check_right : FnScope Ncheck_right ["book", "handed", "program"] (defScope s_check_right) := ⟨rfl, rfl, rfl, by decide +kernel, rfl, by decide +kernel, by decide +kernel⟩
def sp_check_right (CL CR CB CF : Addr) : Sp := fun vs H Q E => ∃ l tl hl ws, BhW CL CR CB H vs l tl hl ws ∧ (judged l tl hl ws = none → ∀ H', Same H H' → Q .non H') ∧
  (∀ flt, judged l tl hl ws = some flt → ∀ H' v d, Same H H' → FltV H' v (some flt) → H' d = some (.xd [(("fault" : Str), v)]) → E (.ref CF) (some d) H')
theorem ok_check_right (T : Txt mg) (TF : K8X.FaTxt P K mg CF fF) (c_check_handed : Cl P w K mg base "check_handed" 5 ["book", "thing"] (sp_check_handed CL CR CB)) (c_check_program : Cl P w K mg base "check_program" 5 ["thing"] sp_check_program)
    (c_fault_in : Cl P w K mg base "fault_in" 7 ["book", "handed", "words"] (sp_fault_in CL CR CB)) (F : Fun K "check_right" "check_right" s_check_right f fd) : FnOk P w K mg base (L2.CX P w) 8 f fd ["book", "handed", "program"] (sp_check_right CL CR CB CF) := by
  have nd := sc_check_right.nd
  refine F.okX sc_check_right (fun vs H Q Ex h => ?_) (fun cdv A outer s H vs Q Ex hr h => ?_)
  · obtain ⟨_, _, _, _, ⟨_, _, _, rfl, _⟩, _⟩ := h
    rfl
  · obtain ⟨l, tl, hl, ws, ⟨p, a, b, rfl, hb, hh, h6, hnd, hp⟩, q0, q1⟩ := h
    refine ⟨_, pss_cons (ps_expr (pe_cl c_check_handed hr (by omega) (pa_cons (pv 0) (pa_cons (pv 1) pa_nil))))
    (pss_cons (ps_expr (pe_cl c_check_program hr (by omega) (pa_cons (pv 2) pa_nil)))
    (pss_cons (ps_set (i := 3) nd rfl (Or.inl rfl) (pe_cl c_fault_in hr (by omega) (pa_cons (pv 0) (pa_cons (pv 1) (pa_cons (pv 2) pa_nil)))))
    (pss_one (ps_if (pt_cmpR op_notN (pv 3) pe_non (nomark _)) (pss_one (ps_raiseFa rfl TF hr (takes_of rfl rfl rfl rfl) (by exact (pa_cons (pv 3) pa_nil)))) pss_nil)))), ?_⟩
    refine ⟨_, rfl, _, rfl, p, a, l, tl, hl, rfl, hb, hh, h6, hnd, fun H1 s1 => ?_⟩
    refine ⟨_, rfl, b, ws, rfl, hp.mono s1.tups, fun H2 s2 => ?_⟩
    have s12 := s1.trans s2
    refine ⟨_, rfl, _, rfl, _, rfl, l, tl, hl, ws, ⟨p, a, b, rfl, hb.mono s12, hh.mono s12, h6, hnd, hp.mono s12.tups⟩, fun H3 v s3 hv => ?_⟩
    have s13 := s12.trans s3
    cases ej : judged l tl hl ws with
    | none =>
      rw [ej] at hv
      have ev : v = .non := hv
      subst ev
      exact ⟨_, rfl, rfl, false, rfl, iteF (q0 ej H3 s13)⟩
    | some flt =>
      rw [ej] at hv
      have hne : v ≠ .non := by
        cases flt with
        | opn p => obtain ⟨t, e, _⟩ := hv; rw [e]; intro z; cases z
        | knd p => obtain ⟨t, e, _⟩ := hv; rw [e]; intro z; cases z
        | handed s n => obtain ⟨t, e, _⟩ := hv; rw [e]; intro z; cases z
        | cnt p n => obtain ⟨t, e, _⟩ := hv; rw [e]; intro z; cases z
      refine ⟨_, rfl, rfl, true, by rw [decide_eq_false hne]; rfl, iteT ?_⟩
      refine ⟨_, rfl, v, rfl, fun d hd => ?_⟩
      generalize eH4 : upd H3 d (.xd [(("fault" : Str), v)]) = H4
      obtain ⟨s4, e4, f4⟩ := new_f hd eH4
      exact q1 flt ej H4 v d (s13.trans s4) (hv.mono s4.tups) e4
/-! ### kind_there -/
abbrev s_kind_there : Stmt := topS 59
abbrev Nkind_there : List Str := ["book", "handed", "words"]
theorem sc_kind_there : FnScope Nkind_there ["book", "handed", "words"] (defScope s_kind_there) := ⟨rfl, rfl, rfl, by decide +kernel, rfl, by decide +kernel, by decide +kernel⟩
def sp_kind_there (CL CR CB : Addr) : Sp := fun vs H Q _ => ∃ l tl hl ws, BhW CL CR CB H vs l tl hl ws ∧ judged l tl hl ws = none ∧ ∀ H' v, Same H H' → OkV H' v (((kinds ws (knOf (tl ++ hl)))[0]?).getD none) → Q v H'
theorem judged_name {l : Lt} {tl hl : List (Str × Kd)} {ws : List W} (h : judged l tl hl ws = none) : wrongName ws (knOf (tl ++ hl)) = none := by
  unfold judged judge at h
  cases e : wrongName ws (knOf (tl ++ hl)) with
  | none => rfl
  | some p => rw [e] at h; cases h
theorem ok_kind_there (T : Txt mg) (c_kinds_of_parts : Cl P w K mg base "kinds_of_parts" 4 ["words", "known"] sp_kinds_of_parts) (c_known_in : Cl P w K mg base "known_in" 1 ["book", "handed"] (sp_known_in CL CR CB))
    (F : Fun K "kind_there" "kind_there" s_kind_there f fd) : FnOk P w K mg base CX0 5 f fd ["book", "handed", "words"] (sp_kind_there CL CR CB) := by
  have nd := sc_kind_there.nd
  refine F.ok sc_kind_there (fun vs H Q Ex h => ?_) (fun cdv A outer s H vs Q Ex hr h => ?_)
  · obtain ⟨_, _, _, _, ⟨_, _, _, rfl, _⟩, _⟩ := h
    rfl
  · obtain ⟨l, tl, hl, ws, ⟨p, a, b, rfl, hb, hh, h6, hnd, hp⟩, hj, q⟩ := h
    refine ⟨_, pss_one (ps_ret (pe_ix ix_list (pe_ix ix_tup (pe_cl c_kinds_of_parts hr (by omega) (pa_cons (pv 2) (pa_cons (pe_cl c_known_in hr (by omega) (pa_cons (pv 0) (pa_cons (pv 1) pa_nil))) pa_nil))) pe_int (fun _ _ => rfl)) pe_int (fun _ _ => rfl))), ?_⟩
    refine ⟨_, rfl, _, rfl, _, rfl, p, a, l, tl, hl, rfl, hb, hh, by omega, fun H1 d s1 nd1 hkn => ?_⟩
    refine ⟨b, d, ws, knOf (tl ++ hl), rfl, hp.mono s1.tups, hkn, open_known (judged_name hj), fun H2 t fo vs s2 nt et efo hpd => ?_⟩
    have hkl : (kinds ws (knOf (tl ++ hl))).length = ws.length := kst_len ws _ 0 ws
    have h1 : 0 < ws.length := by
      cases ws with
      | nil => have := hp.wf; cases this
      | cons x r => exact Nat.succ_pos _
    have hvl : vs.length = ws.length := by rw [← hkl]; exact Paired.length hpd
    have hv0 : vs[0]? = some vs[0] := List.getElem?_eq_getElem (by omega)
    obtain ⟨o, eo, ho⟩ := pd_at_left hpd hv0
    refine ⟨t, _, 0, _, rfl, rfl, SqT.h et, rfl, fo, vs, 0, vs[0], rfl, rfl, SqL.h efo, atI_nat (j := 0) hv0, ?_⟩
    refine q H2 _ (s1.trans s2) ?_
    rw [eo]
    exact ho
/-! ### kind_of -/
abbrev s_kind_of : Stmt := topS 60
abbrev Nkind_of : List Str := ["book", "handed", "program"]
theorem sc_kind_of : FnScope Nkind_of ["book", "handed", "program"] (defScope s_kind_of) := ⟨rfl, rfl, rfl, by decide +kernel, rfl, by decide +kernel, by decide +kernel⟩
def sp_kind_of (CL CR CB CF : Addr) : Sp := fun vs H Q E => ∃ l tl hl ws, BhW CL CR CB H vs l tl hl ws ∧ (judged l tl hl ws = none → ∀ H' v, Same H H' → OkV H' v (((kinds ws (knOf (tl ++ hl)))[0]?).getD none) → Q v H') ∧
  (∀ flt, judged l tl hl ws = some flt → ∀ H' v d, Same H H' → FltV H' v (some flt) → H' d = some (.xd [(("fault" : Str), v)]) → E (.ref CF) (some d) H')
theorem ok_kind_of (T : Txt mg) (c_check_right : ClX P w K mg base "check_right" 8 ["book", "handed", "program"] (sp_check_right CL CR CB CF)) (c_kind_there : Cl P w K mg base "kind_there" 5 ["book", "handed", "words"] (sp_kind_there CL CR CB))
    (F : Fun K "kind_of" "kind_of" s_kind_of f fd) : FnOk P w K mg base (L2.CX P w) 9 f fd ["book", "handed", "program"] (sp_kind_of CL CR CB CF) := by
  have nd := sc_kind_of.nd
  refine F.okX sc_kind_of (fun vs H Q Ex h => ?_) (fun cdv A outer s H vs Q Ex hr h => ?_)
  · obtain ⟨_, _, _, _, ⟨_, _, _, rfl, _⟩, _⟩ := h
    rfl
  · obtain ⟨l, tl, hl, ws, ⟨p, a, b, rfl, hb, hh, h6, hnd, hp⟩, q0, q1⟩ := h
    refine ⟨_, pss_cons (ps_expr (pe_clX (Ex := Ex) c_check_right hr (by omega) (passes_call (takes_of rfl rfl rfl rfl) (fun _ _ _ _ h => h)) (pa_cons (pv 0) (pa_cons (pv 1) (pa_cons (pv 2) pa_nil)))))
    (pss_one (ps_ret (pe_cl c_kind_there hr (by omega) (pa_cons (pv 0) (pa_cons (pv 1) (pa_cons (pv 2) pa_nil)))))), ?_⟩
    refine ⟨_, rfl, _, rfl, _, rfl, l, tl, hl, ws, ⟨p, a, b, rfl, hb, hh, h6, hnd, hp⟩, fun ej H1 s1 => ?_, fun flt ej H1 v d s1 hv ed => q1 flt ej H1 v d s1 hv ed⟩
    exact ⟨_, rfl, _, rfl, _, rfl, l, tl, hl, ws, ⟨p, a, b, rfl, hb.mono s1, hh.mono s1, h6, hnd, hp.mono s1.tups⟩, ej, fun H2 v s2 hv => q0 ej H2 v (s1.trans s2) hv⟩
end
end K8
namespace K8
open PySem PySem.Spec PyProof.Rows L2
/-- a word ahead of the second part -/
theorem seq_mid {t u : TS} {D : Ends} {σ : L2.St} {H : Hp} (Pm : L2.St → Hp → Prop) (h2 : ∀ σ' H', Pm σ' H' → u D σ' H') (h1 : ∀ R : L2.St → Hp → Prop, (∀ σ' H', Pm σ' H' → R σ' H') → t { D with nx := R } σ H) : tSeq t u D σ H :=
  h1 (fun σ' H' => u D σ' H') h2
def absI (x : Int) : Int := if x < 0 then -x else x
theorem absI_pos (x : Int) : 0 ≤ absI x := by unfold absI; split <;> omega
theorem cut63 (ns : List Int) : ∃ ms : List Int, cutV (ns.map V.int) none (some 63) = ms.map V.int ∧ ms.length ≤ 63 := by
  refine ⟨(ns.drop (HT.sIx ns.length 0 none)).take (HT.sIx ns.length ns.length (some 63) - HT.sIx ns.length 0 none), ?_, ?_⟩
  · unfold cutV
    rw [List.map_take, List.map_drop, List.length_map]
  · rw [List.length_take]
    have : HT.sIx ns.length ns.length (some 63) ≤ 63 := by
      unfold HT.sIx
      simp
      omega
    omega
/-! ### the hand -/
def HandV (H : Hp) (h c : Addr) : Prop := ∃ (cs : List Int) (i : Nat) (b z k : Int), H h = some (.lst [.ref c, natV i, .int b, .int z, .int k]) ∧ H c = some (.lst (cs.map V.int)) ∧ (∀ x ∈ cs, 0 ≤ x) ∧ 0 ≤ b ∧ cs.length ≤ 63
theorem HandV.mono {H H' : Hp} {h c : Addr} (v : HandV H h c) (s : Same H H') : HandV H' h c := by
  obtain ⟨cs, i, b, z, k, e1, e2, r⟩ := v
  exact ⟨cs, i, b, z, k, s _ _ e1, s _ _ e2, r⟩
theorem HandV.ls {H : Hp} {h c : Addr} (v : HandV H h c) : ∃ xs, H h = some (.lst xs) := by
  obtain ⟨cs, i, b, z, k, e1, _⟩ := v
  exact ⟨_, e1⟩
theorem HandV.nh {H : Hp} {h c p : Addr} (v : HandV H h c) (n : H p = none) : p ≠ h := by
  obtain ⟨xs, e⟩ := v.ls
  exact fun z => by rw [z, e] at n; cases n
theorem HandV.nc {H : Hp} {h c p : Addr} (v : HandV H h c) (n : H p = none) : p ≠ c := by
  obtain ⟨cs, i, b, z, k, e1, e2, r⟩ := v
  exact fun z => by rw [z, e2] at n; cases n
theorem HandV.hc {H : Hp} {h c : Addr} (v : HandV H h c) : c ≠ h := by
  obtain ⟨cs, i, b, z, k, eh, ec, r⟩ := v
  exact fun e => by
    rw [e, eh] at ec
    have e2 := HO.lst.inj (Option.some.inj ec)
    cases cs with
    | nil => cases e2
    | cons x r => cases (List.cons.inj e2).1
/-- all but the hand stays, the hand is one -/
def Hd (h c : Addr) (H H' : Hp) : Prop := SameB h H H' ∧ HandV H' h c
section
variable {H H1 H2 : Hp} {h c p : Addr}
theorem Hd.refl (v : HandV H h c) : Hd h c H H := ⟨fun _ _ _ e => e, v⟩
theorem Hd.trans (a : Hd h c H H1) (b : Hd h c H1 H2) : Hd h c H H2 := ⟨a.1.trans b.1, b.2⟩
theorem Hd.new (a : Hd h c H H1) (s : Same H1 H2) : Hd h c H H2 := ⟨a.1.trans (SameB.of s), a.2.mono s⟩
theorem Hd.of (v : HandV H h c) (s : Same H H1) : Hd h c H H1 := (Hd.refl v).new s
theorem Hd.mut (a : Hd h c H H1) (v : HandV H h c) (n : H p = none) (f : ∀ b, b ≠ p → H2 b = H1 b) : Hd h c H H2 := by
  refine ⟨fun b o hb e => ?_, ?_⟩
  · rw [f b (ne_of_none e n)]
    exact a.1 b o hb e
  · obtain ⟨cs, i, b, z, k, e1, e2, r⟩ := a.2
    exact ⟨cs, i, b, z, k, by rw [f _ (v.nh n).symm]; exact e1, by rw [f _ (v.nc n).symm]; exact e2, r⟩
theorem Hd.tups (a : Hd h c H H1) (v : HandV H h c) : Tups H H1 := by
  obtain ⟨xs, e⟩ := v.ls
  exact fun p ys ep => a.1 p _ (ne_of ep e (by intro z; cases z)) ep
theorem Hd.frz (a : Hd h c H H1) (v : HandV H h c) {o : Obj} {u : HO} (ep : H p = some (.frz o u)) : H1 p = some (.frz o u) := by
  obtain ⟨xs, e⟩ := v.ls
  exact a.1 p _ (ne_of ep e (by intro z; cases z)) ep
theorem Hd.dk (a : Hd h c H H1) (v : HandV H h c) {u : List (Key × V)} (ep : H p = some (.dK u)) : H1 p = some (.dK u) := by
  obtain ⟨xs, e⟩ := v.ls
  exact a.1 p _ (ne_of ep e (by intro z; cases z)) ep
/-- what is new behind is new ahead -/
theorem Hd.free (a : Hd h c H H1) (n : H1 p = none) : H p = none := by
  cases e : H p with
  | none => rfl
  | some o =>
    have := a.1 p o (a.2.nh n) e
    rw [n] at this
    cases this
end
section
variable {P : Program} {w : World} {K : PySem.W.Frag} {mg : Str → Option Value} {base : Heap} {f : Addr} {fd : FuncData}
/-! ### _law_hand -/
abbrev s_law_hand : Stmt := topS 62
abbrev Nlaw_hand : List Str := ["_law_script", "_law_cells", "_law_cell"]
theorem sc_law_hand : FnScope Nlaw_hand ["_law_script"] (defScope s_law_hand) := ⟨rfl, rfl, rfl, by decide +kernel, rfl, by decide +kernel, by decide +kernel⟩
def sp_law_hand (K : PySem.W.Frag) : Sp := fun vs H Q _ => ∃ (a : Addr) (ns : List Int), vs = [.ref a] ∧ SqL K H a (ns.map V.int) ∧ ns.length ≤ 1000 ∧ ∀ H' h c, Same H H' → H h = none → HandV H' h c → Q (.ref h) H'
theorem ok_law_hand (T : Txt mg) (F : Fun K "_law_hand" "_law_hand" s_law_hand f fd) : FnOk P w K mg base CX0 1 f fd ["_law_script"] (sp_law_hand K) := by
  have nd := sc_law_hand.nd
  refine F.ok sc_law_hand (fun vs H Q Ex h => ?_) (fun cdv A outer s H vs Q Ex hr h => ?_)
  · obtain ⟨_, _, rfl, _⟩ := h
    rfl
  · obtain ⟨a, ns, rfl, ha, hl, q⟩ := h
    refine ⟨_, pss_cons (ps_setLc (i := 1) (own := [("_law_cell", 2)]) (g := gName 2) rfl nd rfl rfl (sw_true rfl rfl rfl (by decide +kernel)) (pi_list (pe_slice sl_list (pv 0) po_none (po_some pe_int))) (blkOk_by (own := [("_law_cell", 2)]) (N := Nlaw_hand) (sc := defScope s_law_hand) (by decide +kernel)) (fun _ _ _ _ _ => (pg_name (i := 2) nd rfl (Or.inl rfl))) (fun _ _ _ _ _ => pts_nil) (fun _ _ _ _ _ => (pe_callB call_abs (by rfl) T.abs (by decide +kernel) (pa_cons (pe_callTy call_int1 (by rfl) T.int (by decide +kernel) (pa_cons (pv 2) pa_nil)) pa_nil))))
    (pss_one (ps_ret (pe_lst (pa_cons (pv 1) (pa_cons pe_int (pa_cons pe_int (pa_cons (pe_op op_add pe_int (pe_callB call_len_seq (by rfl) T.len (by decide +kernel) (pa_cons (pv 1) pa_nil))) (pa_cons pe_int pa_nil)))))))), ?_⟩
    obtain ⟨ms, em, hm63⟩ := cut63 ns
    refine ⟨_, rfl, 63, rfl, a, _, rfl, ha, fun sl nsl => ?_⟩
    rw [em]
    generalize eH1 : upd H sl (.lst (ms.map V.int)) = H1
    obtain ⟨s1, e1, f1⟩ := new_f nsl eH1
    refine ⟨sl, rfl, ⟨_, SqL.h e1⟩, fun D nD => ?_⟩
    refine lc_list (K := K) (a := sl) (xs := ms.map V.int) (fun i H' => Same H1 H' ∧ H' D = some (.lst (((ms.map absI).take i).map V.int))) ⟨same_new _ nD, upd_same⟩ (fun i H' _ h' => SqL.h (h'.1 _ _ e1)) ?_ ?_
    · rintro i x H2 hx ⟨s2, eD⟩
      rw [List.getElem?_map] at hx
      cases e : ms[i]? with
      | none => rw [e] at hx; cases hx
      | some m =>
        rw [e] at hx
        have ex : x = V.int m := (Option.some.inj hx).symm
        subst ex
        have hil := (List.getElem?_eq_some_iff.mp e).1
        refine ⟨rfl, _, rfl, .inl ⟨m, rfl, m, rfl, _, eD, ?_, s2.mut nD (fun b hb => upd_ne hb), ?_⟩⟩
        · rw [List.length_map, List.length_take]
          exact lt60 (by omega)
        · rw [upd_same, List.take_add_one, List.getElem?_map, e, List.map_append]
          rfl
    · rintro H2 ⟨s2, eD⟩
      rw [List.take_of_length_le (by rw [List.length_map, List.length_map]; exact Nat.le_refl _)] at eD
      refine ⟨_, rfl, _, rfl, D, _, rfl, .inl (SqL.h eD), _, _, rfl, rfl, (by show 5 ≤ sizeLine; decide), fun hd nhd => ?_⟩
      generalize eH3 : upd H2 hd _ = H3
      obtain ⟨s3, e3, f3⟩ := new_f nhd eH3
      refine q H3 hd D ((s1.trans s2).trans s3) ((s1.trans s2).free nhd) ⟨ms.map absI, 0, 0, _, 0, e3, s3 _ _ eD, fun x hx => ?_, Int.le_refl _, by rw [List.length_map]; exact hm63⟩
      obtain ⟨m, _, rfl⟩ := List.mem_map.mp hx
      exact absI_pos m
/-! ### _law_draw -/
abbrev s_law_draw : Stmt := topS 63
abbrev Nlaw_draw : List Str := ["_law_hand_here", "_law_many", "_law_number", "_law_cell", "_law_digit"]
theorem sc_law_draw : FnScope Nlaw_draw ["_law_hand_here", "_law_many"] (defScope s_law_draw) := ⟨rfl, rfl, rfl, by decide +kernel, rfl, by decide +kernel, by decide +kernel⟩
def sp_law_draw : Sp := fun vs H Q _ => ∃ (h c : Addr) (n : Nat), vs = [.ref h, natV n] ∧ HandV H h c ∧ 0 < n ∧ n ≤ 1000 ∧ ∀ H' d, d < n → Hd h c H H' → Q (natV d) H'
theorem mod_nat {x : Int} {n : Nat} (hn : 0 < n) : ∃ d : Nat, d < n ∧ x % (n : Int) = (d : Int) := by
  have h1 := Int.emod_nonneg x (show (n : Int) ≠ 0 by omega)
  have h2 := Int.emod_lt_of_pos x (show (0 : Int) < n by omega)
  exact ⟨(x % (n : Int)).toNat, by omega, by omega⟩
theorem ok_law_draw (T : Txt mg) (F : Fun K "_law_draw" "_law_draw" s_law_draw f fd) : FnOk P w K mg base CX0 1 f fd ["_law_hand_here", "_law_many"] sp_law_draw := by
  have nd := sc_law_draw.nd
  refine F.ok sc_law_draw (fun vs H Q Ex h => ?_) (fun cdv A outer s H vs Q Ex hr h => ?_)
  · obtain ⟨_, _, _, rfl, _⟩ := h
    rfl
  · obtain ⟨h, c, n, rfl, hv0, hn, h1000, q⟩ := h
    have nch := hv0.hc
    obtain ⟨cs, i, b, z, k, eh, ec, hcs, hb, h63⟩ := hv0
    refine ⟨_, pss_cons (ps_if (PW.pt (pw_and (pt_cmpR op_eq (pe_ix ix_list (pv 0) pe_int (fun _ _ => rfl)) pe_int (nomark _)) (pw_and1 (pt_cmpR op_lt (pe_ix ix_list (pv 0) pe_int (fun _ _ => rfl)) (pe_callB call_len_seq (by rfl) T.len (by decide +kernel) (pa_cons (pe_ix ix_list (pv 0) pe_int (fun _ _ => rfl)) pa_nil)) (nomark _))))) (pss_cons (ps_set (i := 3) nd rfl (Or.inl rfl) (pe_ix ix_list (pe_ix ix_list (pv 0) pe_int (fun _ _ => rfl)) (pe_ix ix_list (pv 0) pe_int (fun _ _ => rfl)) (fun _ _ => rfl)))
      (pss_cons (ps_asg (pe_op op_add (pe_ix ix_list (pv 0) pe_int (fun _ _ => rfl)) pe_int) (pg_sub (pv 0) pe_int set_list))
      (pss_cons (ps_asg (pe_op op_mod (pe_callTy call_int1 (by rfl) T.int (by decide +kernel) (pa_cons (pe_op op_add (pe_op op_add (pe_op op_mul (pe_ix ix_list (pv 0) pe_int (fun _ _ => rfl)) pe_int) (pv 3)) pe_int) pa_nil)) pe_int) (pg_sub (pv 0) pe_int set_list))
      (pss_one (ps_if (pt_cmpR op_ge (pv 3) (pe_op op_pow pe_int pe_int) (nomark _)) (pss_one (ps_asg (pv 3) (pg_sub (pv 0) pe_int set_list))) pss_nil))))) pss_nil)
    (pss_cons (ps_if (pt_cmpR op_gt (pe_ix ix_list (pv 0) pe_int (fun _ _ => rfl)) pe_int (nomark _)) (pss_cons (ps_set (i := 4) nd rfl (Or.inl rfl) (pe_op op_mod (pe_callTy call_int1 (by rfl) T.int (by decide +kernel) (pa_cons (pe_ix ix_list (pv 0) pe_int (fun _ _ => rfl)) pa_nil)) (pv 1)))
      (pss_cons (ps_asg (pe_op op_fdiv (pe_ix ix_list (pv 0) pe_int (fun _ _ => rfl)) (pv 1)) (pg_sub (pv 0) pe_int set_list))
      (pss_one (ps_ret (pv 4))))) pss_nil)
    (pss_cons (ps_asg (pe_op op_add (pe_ix ix_list (pv 0) pe_int (fun _ _ => rfl)) pe_int) (pg_sub (pv 0) pe_int set_list))
    (pss_cons (ps_set (i := 2) nd rfl (Or.inl rfl) (pe_op op_mod (pe_callTy call_int1 (by rfl) T.int (by decide +kernel) (pa_cons (pe_op op_mul (pe_callTy call_int1 (by rfl) T.int (by decide +kernel) (pa_cons (pe_op op_add (pe_ix ix_list (pv 0) pe_int (fun _ _ => rfl)) (pe_op op_mul pe_int (pe_ix ix_list (pv 0) pe_int (fun _ _ => rfl)))) pa_nil)) pe_int) pa_nil)) pe_int))
    (pss_cons (ps_set (i := 2) nd rfl (Or.inl rfl) (pe_op op_mod (pe_callTy call_int1 (by rfl) T.int (by decide +kernel) (pa_cons (pe_op op_mul (pv 2) (pe_op op_add (pe_op op_fdiv (pv 2) pe_int) pe_int)) pa_nil)) pe_int))
    (pss_cons (ps_set (i := 2) nd rfl (Or.inl rfl) (pe_op op_mod (pe_callTy call_int1 (by rfl) T.int (by decide +kernel) (pa_cons (pe_op op_mul (pv 2) (pe_op op_add (pe_op op_fdiv (pv 2) pe_int) pe_int)) pa_nil)) pe_int))
    (pss_one (ps_ret (pe_op op_mod (pe_callTy call_int1 (by rfl) T.int (by decide +kernel) (pa_cons (pe_op op_fdiv (pv 2) pe_int) pa_nil)) (pv 1))))))))), ?_⟩
    refine seq_mid (fun σ' H' => ∃ (y3 : Option V) (i : Nat) (b z k : Int), σ' = [some (.ref h), some (natV n), none, y3, none] ∧ SameB h H H' ∧ H' h = some (.lst [.ref c, natV i, .int b, .int z, .int k]) ∧ 0 ≤ b) ?_ ?_
    · rintro σ1 H1 ⟨y3, i, b, z, k, rfl, sb, eh1, hb1⟩
      have ec1 := sb _ _ nch ec
      have fin : ∀ {H2 : Hp} {i : Nat} {b z k : Int}, SameB h H H2 → H2 h = some (.lst [.ref c, natV i, .int b, .int z, .int k]) → 0 ≤ b → HandV H2 h c := fun {H2 i b z k} s2 e2 hb2 => ⟨cs, i, b, z, k, e2, s2 _ _ nch ec, hcs, hb2, h63⟩
      refine ⟨_, rfl, h, _, 2, .int b, rfl, rfl, SqL.h eh1, rfl, _, _, rfl, rfl, _, rfl, ?_⟩
      refine ite2 (fun c1 => ?_) (fun c1 => ?_)
      · obtain ⟨d, hd, ed⟩ := mod_nat (x := b) hn
        refine ⟨_, rfl, h, _, 2, .int b, rfl, rfl, SqL.h eh1, rfl, .inl ⟨b, rfl, _, rfl, _, _, rfl, rfl, (show (0 : Int) < (n : Int) by omega), ?_⟩⟩
        refine ⟨_, rfl, h, _, 2, .int b, rfl, rfl, SqL.h eh1, rfl, _, rfl, _, _, rfl, rfl, ⟨(show (0 : Int) < (n : Int) by omega), (show (n : Int) < 1073741824 by omega)⟩, _, rfl, h, _, 2, 2, rfl, rfl, eh1, rfl, ?_⟩
        generalize eH2 : upd H1 h _ = H2
        obtain ⟨e2, f2⟩ := mut_f eH2
        have sb2 : SameB h H H2 := fun x o hx e => by rw [f2 _ hx]; exact sb x o hx e
        refine ⟨_, rfl, ?_⟩
        show Q (V.int (b % (n : Int))) H2
        rw [ed]
        exact q H2 d hd ⟨sb2, fin sb2 e2 (Int.ediv_nonneg hb1 (by omega))⟩
      · refine ⟨_, rfl, h, _, 4, .int k, rfl, rfl, SqL.h eh1, rfl, _, _, rfl, rfl, _, rfl, h, _, 4, 4, rfl, rfl, eh1, rfl, ?_⟩
        generalize eH2 : upd H1 h _ = H2
        obtain ⟨e2, f2⟩ := mut_f eH2
        have sb2 : SameB h H H2 := fun x o hx e => by rw [f2 _ hx]; exact sb x o hx e
        have e2' : H2 h = some (.lst [.ref c, natV i, .int b, .int z, .int (k + 1)]) := e2
        have cm : ∀ i : Int, CMul i 48271 := fun i => .inr ⟨by omega, by omega⟩
        obtain ⟨N1, hN1, eN1⟩ := mod_nat (x := (z + 7919 * (k + 1)) * 48271) (n := 2147483647) (by omega)
        try dsimp only
        refine seq_mid (fun σ' H' => σ' = [some (.ref h), some (natV n), some (natV N1), y3, none] ∧ H' = H2) ?_ fun R hR => ?_
        rotate_left
        · refine ⟨_, rfl, h, _, 3, .int z, rfl, rfl, SqL.h e2', rfl, _, rfl, h, _, 4, .int (k + 1), rfl, rfl, SqL.h e2', rfl, _, _, rfl, rfl, .inl ⟨by omega, by omega⟩, _, _, rfl, rfl, .inl ⟨_, rfl, _, _, rfl, rfl, cm _, .inl ⟨_, rfl, _, _, rfl, rfl, (show (0 : Int) < 2147483647 by decide), ?_⟩⟩⟩
          exact hR _ _ ⟨congrArg (fun x => [some (V.ref h), some (natV n), some (V.int x), y3, none]) eN1, rfl⟩
        rintro _ H2 ⟨rfl, rfl⟩
        obtain ⟨N2, hN2, eN2⟩ := mod_nat (x := (N1 : Int) * ((N1 : Int) / 1009 + 69621)) (n := 2147483647) (by omega)
        try dsimp only
        refine seq_mid (fun σ' H' => σ' = [some (.ref h), some (natV n), some (natV N2), y3, none] ∧ H' = H2) ?_ fun R hR => ?_
        rotate_left
        · refine ⟨_, rfl, _, rfl, _, _, rfl, rfl, ⟨by decide, by decide⟩, _, _, rfl, rfl, _, _, rfl, rfl, .inl ⟨by omega, by omega⟩, .inl ⟨_, rfl, _, _, rfl, rfl, (show (0 : Int) < 2147483647 by decide), ?_⟩⟩
          exact hR _ _ ⟨congrArg (fun x => [some (V.ref h), some (natV n), some (V.int x), y3, none]) eN2, rfl⟩
        rintro _ H2 ⟨rfl, rfl⟩
        obtain ⟨N3, hN3, eN3⟩ := mod_nat (x := (N2 : Int) * ((N2 : Int) / 2003 + 40692)) (n := 2147483399) (by omega)
        try dsimp only
        refine seq_mid (fun σ' H' => σ' = [some (.ref h), some (natV n), some (natV N3), y3, none] ∧ H' = H2) ?_ fun R hR => ?_
        rotate_left
        · refine ⟨_, rfl, _, rfl, _, _, rfl, rfl, ⟨by decide, by decide⟩, _, _, rfl, rfl, _, _, rfl, rfl, .inl ⟨by omega, by omega⟩, .inl ⟨_, rfl, _, _, rfl, rfl, (show (0 : Int) < 2147483399 by decide), ?_⟩⟩
          exact hR _ _ ⟨congrArg (fun x => [some (V.ref h), some (natV n), some (V.int x), y3, none]) eN3, rfl⟩
        rintro _ H2 ⟨rfl, rfl⟩
        obtain ⟨d, hd, ed⟩ := mod_nat (x := (N3 : Int) / 16) hn
        refine ⟨_, rfl, _, _, rfl, rfl, ⟨by decide, by decide⟩, .inl ⟨_, rfl, _, rfl, _, _, rfl, rfl, (show (0 : Int) < (n : Int) by omega), ?_⟩⟩
        show Q (V.int (((N3 : Int) / 16) % (n : Int))) H2
        rw [ed]
        exact q H2 d hd ⟨sb2, fin sb2 e2' hb1⟩
    · intro R hR
      refine ⟨_, rfl, h, _, 2, .int b, rfl, rfl, SqL.h eh, rfl, rfl, ?_⟩
      by_cases hb0 : b = 0
      · refine ⟨true, eT (by rw [hb0]), iteT ?_⟩
        refine ⟨_, rfl, h, _, 1, natV i, rfl, rfl, SqL.h eh, rfl, _, rfl, h, _, 0, .ref c, rfl, rfl, SqL.h eh, rfl, c, _, rfl, .inl (SqL.h ec), _, _, rfl, rfl, _, rfl, ?_⟩
        refine ite2 (fun c1 => ?_) (fun c1 => ?_)
        · have c1' : (i : Int) < (((cs.map V.int).length : Nat) : Int) := of_decide_eq_true c1
          rw [List.length_map] at c1'
          have hil : i < cs.length := by omega
          have ex : (cs.map V.int)[i]? = some (V.int cs[i]) := by rw [List.getElem?_map, List.getElem?_eq_getElem hil]; rfl
          have hx0 : 0 ≤ cs[i] := hcs _ (List.getElem_mem hil)
          generalize cs[i] = x at ex hx0
          refine ⟨_, rfl, h, _, 0, .ref c, rfl, rfl, SqL.h eh, rfl, _, rfl, h, _, 1, natV i, rfl, rfl, SqL.h eh, rfl, c, _, (i : Int), _, rfl, rfl, SqL.h ec, atI_nat ex, ?_⟩
          refine ⟨_, rfl, h, _, 1, natV i, rfl, rfl, SqL.h eh, rfl, _, _, rfl, rfl, _, rfl, h, _, 1, 1, rfl, rfl, eh, rfl, ?_⟩
          generalize eH1 : upd H h _ = H1
          obtain ⟨e1, f1⟩ := mut_f eH1
          have e1' : H1 h = some (.lst [.ref c, natV (i + 1), .int b, .int z, .int k]) := e1
          refine ⟨_, rfl, h, _, 3, .int z, rfl, rfl, SqL.h e1', rfl, _, _, rfl, rfl, .inr ⟨by omega, by omega⟩, _, rfl, _, _, rfl, rfl, _, _, rfl, rfl, .inl ⟨_, rfl, _, _, rfl, rfl, (show (0 : Int) < 2147483629 by decide), _, rfl, h, _, 3, 3, rfl, rfl, e1', rfl, ?_⟩⟩
          generalize eH2 : upd H1 h _ = H2
          obtain ⟨e2, f2⟩ := mut_f eH2
          have e2' : H2 h = some (.lst [.ref c, natV (i + 1), .int b, .int ((z * 69621 + x + 11) % 2147483629), .int k]) := e2
          have sb2 : SameB h H H2 := fun y o hy e => by rw [f2 _ hy, f1 _ hy]; exact e
          refine ⟨_, rfl, _, _, rfl, rfl, ⟨by decide, by decide, by decide⟩, _, _, rfl, rfl, _, rfl, ?_⟩
          refine ite2 (fun c2 => ?_) (fun c2 => ?_)
          · refine ⟨_, rfl, _, rfl, h, _, 2, 2, rfl, rfl, e2', rfl, ?_⟩
            generalize eH3 : upd H2 h _ = H3
            obtain ⟨e3, f3⟩ := mut_f eH3
            have e3' : H3 h = some (.lst [.ref c, natV (i + 1), .int x, .int ((z * 69621 + x + 11) % 2147483629), .int k]) := e3
            exact hR _ _ ⟨_, i + 1, x, _, k, rfl, fun y o hy e => by rw [f3 _ hy]; exact sb2 y o hy e, e3', hx0⟩
          · exact hR _ _ ⟨_, i + 1, b, _, k, rfl, sb2, e2', hb⟩
        · exact hR _ _ ⟨none, i, b, z, k, rfl, fun y o hy e => e, eh, hb⟩
      · refine ⟨false, eF (fun z => hb0 (V.int.inj z)), iteF ?_⟩
        exact hR _ _ ⟨none, i, b, z, k, rfl, fun y o hy e => e, eh, hb⟩
end
end K8
namespace K8
open PySem PySem.Spec PyProof.Rows L2
theorem Hd.mem {h c p : Addr} {H H1 : Hp} (a : Hd h c H H1) {o : HO} (hp : p ≠ h) (e : H p = some o) : H1 p = some o := a.1 p o hp e
section
variable {P : Program} {w : World} {K : PySem.W.Frag} {mg : Str → Option Value} {base : Heap} {f : Addr} {fd : FuncData}
/-! ### _law_some -/
abbrev s_law_some : Stmt := topS 64
abbrev Nlaw_some : List Str := ["_law_hand_here", "_law_things"]
theorem sc_law_some : FnScope Nlaw_some ["_law_hand_here", "_law_things"] (defScope s_law_some) := ⟨rfl, rfl, rfl, by decide +kernel, rfl, by decide +kernel, by decide +kernel⟩
def sp_law_some : Sp := fun vs H Q _ => ∃ (h c t : Addr) (xs : List V), vs = [.ref h, .ref t] ∧ HandV H h c ∧ H t = some (.lst xs) ∧ t ≠ h ∧ 0 < xs.length ∧ xs.length ≤ 1000 ∧ ∀ H' x, x ∈ xs → Hd h c H H' → Q x H'
theorem ok_law_some (T : Txt mg) (c_law_draw : Cl P w K mg base "_law_draw" 1 ["_law_hand_here", "_law_many"] sp_law_draw) (F : Fun K "_law_some" "_law_some" s_law_some f fd) :
    FnOk P w K mg base CX0 2 f fd ["_law_hand_here", "_law_things"] sp_law_some := by
  have nd := sc_law_some.nd
  refine F.ok sc_law_some (fun vs H Q Ex h => ?_) (fun cdv A outer s H vs Q Ex hr h => ?_)
  · obtain ⟨_, _, _, _, rfl, _⟩ := h
    rfl
  · obtain ⟨h, c, t, xs, rfl, hv, et, nth, hl, h1000, q⟩ := h
    refine ⟨_, pss_one (ps_ret (pe_ix ix_list (pv 1) (pe_cl c_law_draw hr (by omega) (pa_cons (pv 0) (pa_cons (pe_callB call_len_seq (by rfl) T.len (by decide +kernel) (pa_cons (pv 1) pa_nil)) pa_nil))) (fun _ _ => rfl))), ?_⟩
    refine ⟨_, rfl, _, rfl, _, rfl, t, _, rfl, .inl (SqL.h et), h, c, xs.length, rfl, hv, hl, h1000, fun H' d hd hh => ?_⟩
    have ex : xs[d]? = some xs[d] := List.getElem?_eq_getElem hd
    exact ⟨t, xs, (d : Int), xs[d], rfl, rfl, SqL.h (hh.mem nth et), atI_nat ex, q H' _ (List.getElem_mem hd) hh⟩
/-! ### _law_shuffled -/
abbrev s_law_shuffled : Stmt := topS 65
abbrev Nlaw_shuffled : List Str := ["_law_hand_here", "_law_things", "_law_pool", "_law_found"]
theorem sc_law_shuffled : FnScope Nlaw_shuffled ["_law_hand_here", "_law_things"] (defScope s_law_shuffled) := ⟨rfl, rfl, rfl, by decide +kernel, rfl, by decide +kernel, by decide +kernel⟩
def sp_law_shuffled : Sp := fun vs H Q _ => ∃ (h c t : Addr) (xs : List Str), vs = [.ref h, .ref t] ∧ HandV H h c ∧ H t = some (.lst (xs.map V.str)) ∧ t ≠ h ∧ xs.length ≤ 60 ∧ ∀ (H' : Hp) (p : Addr) (ys : List Str), ys.Perm xs → Hd h c H H' → H p = none → H' p = some (.lst (ys.map V.str)) → Q (.ref p) H'
theorem map_erase {α β : Type} (g : α → β) : ∀ (l : List α) (i : Nat), (l.map g).eraseIdx i = (l.eraseIdx i).map g
  | [], i => by simp
  | a :: r, 0 => by simp
  | a :: r, i + 1 => by simp [map_erase g r i]
theorem ok_law_shuffled (T : Txt mg) (c_law_draw : Cl P w K mg base "_law_draw" 1 ["_law_hand_here", "_law_many"] sp_law_draw) (F : Fun K "_law_shuffled" "_law_shuffled" s_law_shuffled f fd) :
    FnOk P w K mg base CX0 2 f fd ["_law_hand_here", "_law_things"] sp_law_shuffled := by
  have nd := sc_law_shuffled.nd
  refine F.ok sc_law_shuffled (fun vs H Q Ex h => ?_) (fun cdv A outer s H vs Q Ex hr h => ?_)
  · obtain ⟨_, _, _, _, rfl, _⟩ := h
    rfl
  · obtain ⟨h, c, t, xs, rfl, hv, et, nth, h60, q⟩ := h
    refine ⟨_, pss_cons (ps_set (i := 2) nd rfl (Or.inl rfl) (pe_callTy call_list_of (by rfl) T.list (by decide +kernel) (pa_cons (pv 1) pa_nil)))
    (pss_cons (ps_set (i := 3) nd rfl (Or.inl rfl) (pe_lst pa_nil))
    (pss_cons (ps_while PassesOwn.never (pt_cmpR op_gt (pe_callB call_len_seq (by rfl) T.len (by decide +kernel) (pa_cons (pv 2) pa_nil)) pe_int (nomark _)) (pss_one (ps_expr (pe_bm PySem.F.plainAttrs_list PySem.F.slot_list_append PySem.F.type_list_append mt_append (pv 3) (pa_cons (pe_bm PySem.F.plainAttrs_list PySem.F.slot_list_pop PySem.F.type_list_pop mt_popAt (pv 2) (pa_cons (pe_cl c_law_draw hr (by omega) (pa_cons (pv 0) (pa_cons (pe_callB call_len_seq (by rfl) T.len (by decide +kernel) (pa_cons (pv 2) pa_nil)) pa_nil))) pa_nil)) pa_nil)))))
    (pss_one (ps_ret (pv 3))))), ?_⟩
    refine ⟨_, rfl, t, _, rfl, .inl (SqL.h et), fun po npo => ?_⟩
    generalize eH1 : upd H po (.lst (xs.map V.str)) = H1
    obtain ⟨s1, e1, f1⟩ := new_f npo eH1
    refine ⟨Nat.zero_le _, fun fo nfo => ?_⟩
    generalize eH2 : upd H1 fo (.lst []) = H2
    obtain ⟨s2, e2, f2⟩ := new_f nfo eH2
    have nfo0 : H fo = none := s1.free nfo
    have npf : po ≠ fo := ne_of_none e1 nfo
    refine ⟨fun m σ H' => ∃ (ys zs : List Str), σ = [some (.ref h), some (.ref t), some (.ref po), some (.ref fo)] ∧ Hd h c H H' ∧ H' po = some (.lst (ys.map V.str)) ∧ H' fo = some (.lst (zs.map V.str)) ∧ (zs ++ ys).Perm xs ∧ m = ys.length, ⟨_, xs, [], rfl, Hd.of hv (s1.trans s2), s2 _ _ e1, e2, List.Perm.refl _, rfl⟩, ?_⟩
    rintro m σ H3 ⟨ys, zs, rfl, hh, ep, ef, hperm, rfl⟩
    have hle : zs.length + ys.length = xs.length := by rw [← List.length_append]; exact hperm.length_eq
    refine ⟨_, rfl, po, _, rfl, .inl (SqL.h ep), _, _, rfl, rfl, _, rfl, ?_⟩
    refine ite2 (fun c1 => ?_) (fun c1 => ?_)
    · have c1' : (0 : Int) < (((ys.map V.str).length : Nat) : Int) := of_decide_eq_true c1
      rw [List.length_map] at c1'
      refine ⟨fun σ' H' => ∃ m', m' < ys.length ∧ ∃ (ys zs : List Str), σ' = [some (.ref h), some (.ref t), some (.ref po), some (.ref fo)] ∧ Hd h c H H' ∧ H' po = some (.lst (ys.map V.str)) ∧ H' fo = some (.lst (zs.map V.str)) ∧ (zs ++ ys).Perm xs ∧ m' = ys.length, fun σ' H' h => h, ?_⟩
      refine ⟨_, rfl, .inl ⟨rfl, _, SqL.h ef⟩, _, rfl, .inl ⟨rfl, _, SqL.h ep⟩, _, rfl, _, rfl, po, _, rfl, .inl (SqL.h ep), h, c, ys.length, by rw [List.length_map], hh.2, by omega, by omega, fun H4 d hd hh4 => ?_⟩
      have ep4 := hh4.mem (hv.nh npo) ep
      have ef4 := hh4.mem (hv.nh nfo0) ef
      have ey : ys[d]? = some ys[d] := List.getElem?_eq_getElem hd
      refine ⟨po, ys.map V.str, (d : Int), d, V.str ys[d], rfl, rfl, ep4, by omega, by omega, ?_, by rw [List.getElem?_map, ey]; rfl, ?_⟩
      · rw [List.length_map]
        exact (ixN_seq (ixN_lt hd)).1
      rw [map_erase]
      generalize eH5 : upd H4 po (.lst ((ys.eraseIdx d).map V.str)) = H5
      obtain ⟨e5, f5⟩ := mut_f eH5
      have ef5 : H5 fo = some (.lst (zs.map V.str)) := by rw [f5 _ npf.symm]; exact ef4
      refine ⟨fo, _, _, rfl, rfl, ef5, by rw [List.length_map]; exact lt60 (by omega), ?_⟩
      have eap : zs.map V.str ++ [V.str ys[d]] = (zs ++ [ys[d]]).map V.str := by rw [List.map_append]; rfl
      rw [eap]
      generalize eH6 : upd H5 fo (.lst ((zs ++ [ys[d]]).map V.str)) = H6
      obtain ⟨e6, f6⟩ := mut_f eH6
      have hel : (ys.eraseIdx d).length + 1 = ys.length := by rw [List.length_eraseIdx_of_lt hd]; omega
      refine ⟨(ys.eraseIdx d).length, by omega, ys.eraseIdx d, zs ++ [ys[d]], rfl, (((hh.trans hh4).mut hv npo f5).mut hv nfo0 f6), by rw [f6 _ npf]; exact e5, e6, ?_, rfl⟩
      have hp2 : (ys[d] :: ys.eraseIdx d).Perm ys := L2.erase_perm ys d _ ey
      rw [List.append_assoc]
      exact (List.Perm.append_left zs hp2).trans hperm
    · have c1' : ¬ (0 : Int) < (((ys.map V.str).length : Nat) : Int) := fun z => c1 (decide_eq_true z)
      rw [List.length_map] at c1'
      have hys : ys = [] := List.eq_nil_of_length_eq_zero (by omega)
      rw [hys, List.append_nil] at hperm
      exact ⟨_, rfl, q H3 fo zs hperm hh nfo0 ef⟩
/-! ### _law_kind -/
abbrev s_law_kind : Stmt := topS 71
abbrev Nlaw_kind : List Str := ["_law_hand_here", "_law_deep"]
theorem sc_law_kind : FnScope Nlaw_kind ["_law_hand_here", "_law_deep"] (defScope s_law_kind) := ⟨rfl, rfl, rfl, by decide +kernel, rfl, by decide +kernel, by decide +kernel⟩
def sp_law_kind (D : Nat) : Sp := fun vs H Q _ => ∃ (h c : Addr) (d : Nat), vs = [.ref h, natV d] ∧ HandV H h c ∧ d ≤ D ∧ ∀ H' v k, Hd h c H H' → KdV H' v k → k.depth ≤ d → Q v H'
/-- the letter that is drawn -/
theorem draw_letter {K : PySem.W.Frag} {h c : Addr} {H1 : Hp} {σ : L2.St} {Q : VK} (hσ : σ[0]? = some (some (.ref h))) (hv : HandV H1 h c) (q : ∀ H' v k, Hd h c H1 H' → KdV H' v k → k.depth ≤ 0 → Q v H') :
    tCl sp_law_draw (tCons (tVar 0) (tCons (tOp (rI0 fun i j => .int (i + j)) (tC (.int 2)) (tCB (fun xs H Q => (∃ i, xs = [.int i] ∧ Q (.int i) H) ∨ ∃ k, xs = [.bl k] ∧ Q (.int (if k then 1 else 0)) H) (tCons (tOp rEq (tCl sp_law_draw (tCons (tVar 0) (tCons (tC (.int 8)) tNil))) (tC (.int 0))) tNil))) tNil)) σ H1 Q := by
  refine ⟨_, hσ, _, hσ, h, c, 8, rfl, hv, by omega, by omega, fun H2 d2 _ hh2 => ⟨rfl, .inr ⟨_, rfl, _, _, rfl, rfl, ?_⟩⟩⟩
  generalize decide (natV d2 = V.int 0) = b
  cases b with
  | true => exact ⟨h, c, 3, rfl, hh2.2, by omega, by omega, fun H3 d3 h3 hh3 => q H3 _ (.leaf d3) (hh2.trans hh3) ⟨rfl, by omega, by omega⟩ (Nat.le_refl _)⟩
  | false => exact ⟨h, c, 2, rfl, hh2.2, by omega, by omega, fun H3 d3 h3 hh3 => q H3 _ (.leaf d3) (hh2.trans hh3) ⟨rfl, by omega, by omega⟩ (Nat.le_refl _)⟩
theorem ok_law_kind0 (T : Txt mg) (c_law_draw : Cl P w K mg base "_law_draw" 1 ["_law_hand_here", "_law_many"] sp_law_draw)
    (F : Fun K "_law_kind" "_law_kind" s_law_kind f fd) : FnOk P w K mg base CX0 2 f fd ["_law_hand_here", "_law_deep"] (sp_law_kind 0) := by
  have nd := sc_law_kind.nd
  refine F.ok sc_law_kind (fun vs H Q Ex h => ?_) (fun cdv A outer s H vs Q Ex hr h => ?_)
  · obtain ⟨_, _, _, rfl, _⟩ := h
    rfl
  · obtain ⟨h, c, d, rfl, hv, hd, q⟩ := h
    have hd0 : d = 0 := by omega
    subst hd0
    refine ⟨_, pss_cons (ps_if (PW.pt (pw_or (pt_cmpR op_eq (pv 1) pe_int (nomark _)) (pw_or1 (pt_cmpR op_eq (pe_cl c_law_draw hr (by omega) (pa_cons (pv 0) (pa_cons pe_int pa_nil))) pe_int (nomark _))))) (pss_one (ps_ret (pe_cl c_law_draw hr (by omega) (pa_cons (pv 0) (pa_cons (pe_op op_add pe_int (pe_callTy call_int1 (by rfl) T.int (by decide +kernel) (pa_cons (pe_cmpR op_eq (pe_cl c_law_draw hr (by omega) (pa_cons (pv 0) (pa_cons pe_int pa_nil))) pe_int (nomark _)) pa_nil))) pa_nil))))) pss_nil)
    (pss_one ps_never), ?_⟩
    refine ⟨_, rfl, rfl, true, eT rfl, iteT ?_⟩
    exact draw_letter (K := K) rfl hv q
theorem ok_law_kindS (T : Txt mg) (D : Nat) (c_law_draw : Cl P w K mg base "_law_draw" 1 ["_law_hand_here", "_law_many"] sp_law_draw) (c_law_kind : Cl P w K mg base "_law_kind" (D + 2) ["_law_hand_here", "_law_deep"] (sp_law_kind D))
    (F : Fun K "_law_kind" "_law_kind" s_law_kind f fd) : FnOk P w K mg base CX0 (D + 3) f fd ["_law_hand_here", "_law_deep"] (sp_law_kind (D + 1)) := by
  have nd := sc_law_kind.nd
  refine F.ok sc_law_kind (fun vs H Q Ex h => ?_) (fun cdv A outer s H vs Q Ex hr h => ?_)
  · obtain ⟨_, _, _, rfl, _⟩ := h
    rfl
  · obtain ⟨h, c, d, rfl, hv, hd, q⟩ := h
    refine ⟨_, pss_cons (ps_if (PW.pt (pw_or (pt_cmpR op_eq (pv 1) pe_int (nomark _)) (pw_or1 (pt_cmpR op_eq (pe_cl c_law_draw hr (by omega) (pa_cons (pv 0) (pa_cons pe_int pa_nil))) pe_int (nomark _))))) (pss_one (ps_ret (pe_cl c_law_draw hr (by omega) (pa_cons (pv 0) (pa_cons (pe_op op_add pe_int (pe_callTy call_int1 (by rfl) T.int (by decide +kernel) (pa_cons (pe_cmpR op_eq (pe_cl c_law_draw hr (by omega) (pa_cons (pv 0) (pa_cons pe_int pa_nil))) pe_int (nomark _)) pa_nil))) pa_nil))))) pss_nil)
    (pss_one (ps_ret (pe_tup (pa_cons (pe_cl c_law_kind hr (by omega) (pa_cons (pv 0) (pa_cons (pe_op op_sub (pv 1) pe_int) pa_nil))) (pa_cons (pe_cl c_law_kind hr (by omega) (pa_cons (pv 0) (pa_cons (pe_op op_sub (pv 1) pe_int) pa_nil))) pa_nil))))), ?_⟩
    by_cases hd0 : d = 0
    · subst hd0
      refine ⟨_, rfl, rfl, true, eT rfl, iteT ?_⟩
      exact draw_letter (K := K) rfl hv fun H' v k a b e => q H' v k a b (by omega)
    · refine ⟨_, rfl, rfl, false, eF (fun z => hd0 (by have := V.int.inj z; omega)), iteF ?_⟩
      refine ⟨_, rfl, h, c, 3, rfl, hv, by omega, by omega, fun H1 d1 _ hh1 => ⟨rfl, _, rfl, ?_⟩⟩
      refine ite2 (fun c1 => ?_) (fun c1 => ?_)
      · exact draw_letter (K := K) rfl hh1.2 fun H' v k a b e => q H' v k (hh1.trans a) b (by omega)
      · have ed : ((d : Int) - 1) = ((d - 1 : Nat) : Int) := by omega
        refine ⟨_, rfl, _, rfl, _, _, rfl, rfl, h, c, d - 1, ?_, hh1.2, by omega, fun H2 v1 k1 hh2 kv1 dk1 => ?_⟩
        · show [V.ref h, V.int ((d : Int) - 1)] = _
          rw [ed]
        refine ⟨_, rfl, _, rfl, _, _, rfl, rfl, h, c, d - 1, ?_, hh2.2, by omega, fun H3 v2 k2 hh3 kv2 dk2 => ?_⟩
        · show [V.ref h, V.int ((d : Int) - 1)] = _
          rw [ed]
        refine ⟨(by show 2 ≤ sizeLine; decide), fun t nt => ?_⟩
        generalize eH4 : upd H3 t (.tup [v1, v2]) = H4
        obtain ⟨s4, e4, f4⟩ := new_f nt eH4
        have hh := ((hh1.trans hh2).trans hh3)
        refine q H4 _ (.pair k1 k2) (hh.new s4) ⟨t, v1, v2, rfl, e4, (kv1.mono (hh3.tups hh2.2)).mono s4.tups, kv2.mono s4.tups⟩ ?_
        simp only [Kd.depth]
        omega
/-! ### _law_ends -/
abbrev s_law_ends : Stmt := topS 72
abbrev Nlaw_ends : List Str := ["_law_kind_here", "_law_found"]
theorem sc_law_ends : FnScope Nlaw_ends ["_law_kind_here"] (defScope s_law_ends) := ⟨rfl, rfl, rfl, by decide +kernel, rfl, by decide +kernel, by decide +kernel⟩
/-- the lefts of a kind, and its end -/
def kLefts : Kd → List Kd
  | .leaf _ => []
  | .pair a b => a :: kLefts b
def kEnd : Kd → Int
  | .leaf n => n
  | .pair _ b => kEnd b
theorem kLefts_len : ∀ k : Kd, (kLefts k).length ≤ k.depth
  | .leaf _ => Nat.le_refl _
  | .pair a b => by
    have := kLefts_len b
    simp only [kLefts, Kd.depth, List.length_cons]
    omega
theorem kLefts_depth : ∀ (k : Kd) (l : Kd), l ∈ kLefts k → l.depth < k.depth
  | .leaf _, l, h => by cases h
  | .pair a b, l, h => by
    simp only [kLefts, Kd.depth] at h ⊢
    rcases List.mem_cons.mp h with e | h
    · rw [e]; omega
    · have := kLefts_depth b l h
      omega
theorem kEnd_ok {H : Hp} : ∀ (k : Kd) (v : V), KdV H v k → 0 ≤ kEnd k ∧ kEnd k ≤ 25
  | .leaf n, _, h => h.2
  | .pair a b, _, h => by
    obtain ⟨p, x, y, _, _, _, hb⟩ := h
    exact kEnd_ok b y hb
def sp_law_ends : Sp := fun vs H Q _ => ∃ (v : V) (k : Kd), vs = [v] ∧ KdV H v k ∧ k.depth ≤ 60 ∧ ∀ H' t lo ls, Same H H' → H t = none → H' t = some (.tup [.ref lo, .int (kEnd k)]) → H lo = none → H' lo = some (.lst ls) → Paired (KdV H') ls (kLefts k) → Q (.ref t) H'
theorem ok_law_ends (T : Txt mg) (F : Fun K "_law_ends" "_law_ends" s_law_ends f fd) : FnOk P w K mg base CX0 1 f fd ["_law_kind_here"] sp_law_ends := by
  have nd := sc_law_ends.nd
  refine F.ok sc_law_ends (fun vs H Q Ex h => ?_) (fun cdv A outer s H vs Q Ex hr h => ?_)
  · obtain ⟨_, _, rfl, _⟩ := h
    rfl
  · obtain ⟨v, k, rfl, hk, hd, q⟩ := h
    refine ⟨_, pss_cons (ps_set (i := 1) nd rfl (Or.inl rfl) (pe_lst pa_nil))
    (pss_cons (ps_while PassesOwn.never (pt_val (pe_callB call_isi (by rfl) T.isinstance (by decide +kernel) (pa_cons (pv 0) (pa_cons (pe_ty (Ty := "tuple") T.tuple (by decide +kernel)) pa_nil)))) (pss_cons (ps_expr (pe_bm PySem.F.plainAttrs_list PySem.F.slot_list_append PySem.F.type_list_append mt_append (pv 1) (pa_cons (pe_ix ix_tup (pv 0) pe_int (fun _ _ => rfl)) pa_nil)))
      (pss_one (ps_set (i := 0) nd rfl (Or.inl rfl) (pe_ix ix_tup (pv 0) pe_int (fun _ _ => rfl))))))
    (pss_one (ps_ret (pe_tup (pa_cons (pv 1) (pa_cons (pv 0) pa_nil)))))), ?_⟩
    refine ⟨Nat.zero_le _, fun lo nlo => ?_⟩
    generalize eH1 : upd H lo (.lst []) = H1
    obtain ⟨s1, e1, f1⟩ := new_f nlo eH1
    refine ⟨fun m σ H' => ∃ (v' : V) (k' : Kd) (ls : List V) (ks : List Kd), σ = [some v', some (.ref lo)] ∧ Same H H' ∧ H' lo = some (.lst ls) ∧ Paired (KdV H) ls ks ∧ ks ++ kLefts k' = kLefts k ∧ kEnd k' = kEnd k ∧ KdV H v' k' ∧ ks.length ≤ 60 ∧ m = k'.depth, ⟨_, v, k, [], [], rfl, s1, e1, .nil, rfl, rfl, hk, Nat.zero_le _, rfl⟩, ?_⟩
    rintro m σ H2 ⟨v', k', ls, ks, rfl, s2, e2, hp, hks, hke, hkv, hl60, rfl⟩
    have hl := kLefts_len k
    have hlk : ks.length + (kLefts k').length = (kLefts k).length := by rw [← List.length_append, hks]
    have hls := Paired.length hp
    have hkv2 := hkv.mono s2.tups
    cases k' with
    | leaf n =>
      obtain ⟨rfl, _, _⟩ := hkv2
      refine ⟨_, rfl, _, _, _, _, false, rfl, .ty _, .base (.int n), isi_int_tuple, false, rfl, iteF ?_⟩
      refine ⟨_, rfl, _, rfl, (by show 2 ≤ sizeLine; decide), fun t nt => ?_⟩
      generalize eH3 : upd H2 t (.tup [V.ref lo, V.int n]) = H3
      obtain ⟨s3, e3, f3⟩ := new_f nt eH3
      have hks' : ks = kLefts k := by rw [← hks]; simp [kLefts]
      refine q H3 t lo ls (s2.trans s3) (s2.free nt) (by rw [e3, ← hke]; rfl) nlo (s3 _ _ e2) ?_
      rw [← hks']
      exact pd_imp (fun _ _ r => r.mono (s2.trans s3).tups) hp
    | pair ka kb =>
      obtain ⟨p, xa, xb, rfl, ep, ha, hb⟩ := hkv
      have ep2 := s2.tups _ _ ep
      refine ⟨_, rfl, _, _, _, _, true, rfl, .ty _, .base (.tup ep2), isi_tuple_tuple, true, rfl, iteT ?_⟩
      refine ⟨fun σ' H' => ∃ m', m' < (Kd.pair ka kb).depth ∧ ∃ (v' : V) (k' : Kd) (ls : List V) (ks : List Kd), σ' = [some v', some (.ref lo)] ∧ Same H H' ∧ H' lo = some (.lst ls) ∧ Paired (KdV H) ls ks ∧ ks ++ kLefts k' = kLefts k ∧ kEnd k' = kEnd k ∧ KdV H v' k' ∧ ks.length ≤ 60 ∧ m' = k'.depth, fun σ' H' h => h, ?_⟩
      simp only [kLefts, List.length_cons] at hlk
      refine ⟨_, rfl, .inl ⟨rfl, _, SqL.h e2⟩, _, rfl, p, _, 0, xa, rfl, rfl, SqT.h ep2, rfl, lo, _, _, rfl, rfl, e2, lt60 (by omega), ?_⟩
      generalize eH3 : upd H2 lo (.lst (ls ++ [xa])) = H3
      obtain ⟨e3, f3⟩ := mut_f eH3
      have nplo : p ≠ lo := ne_of ep2 e2 (by intro z; cases z)
      refine ⟨_, rfl, p, _, 1, xb, rfl, rfl, SqT.h (by rw [f3 _ nplo]; exact ep2), rfl, ?_⟩
      refine ⟨kb.depth, ?_, xb, kb, ls ++ [xa], ks ++ [ka], rfl, s2.mut nlo f3, e3, pd_app hp (.cons ha .nil), ?_, hke, hb, ?_, rfl⟩
      · simp only [Kd.depth]; omega
      · rw [List.append_assoc]; exact hks
      · rw [List.length_append, List.length_singleton]; omega
end
end K8
namespace K8
open PySem PySem.Spec PyProof.Rows L2
theorem cut_to (xs : List V) (k : Nat) : cutV xs none (some (k : Int)) = xs.take k := by
  unfold cutV
  rw [HT.sIx_none, HT.sIx_nat, List.drop_zero, Nat.sub_zero]
  by_cases h : k ≤ xs.length
  · rw [Nat.min_eq_left h]
  · rw [Nat.min_eq_right (by omega), List.take_of_length_le (Nat.le_refl _), List.take_of_length_le (by omega)]
theorem cut_mid (xs : List V) (a b : Nat) (ha : a ≤ xs.length) : cutV xs (some (a : Int)) (some (b : Int)) = (xs.drop a).take (b - a) := by
  unfold cutV
  rw [HT.sIx_nat, HT.sIx_nat, Nat.min_eq_left ha]
  by_cases h : b ≤ xs.length
  · rw [Nat.min_eq_left h]
  · rw [Nat.min_eq_right (by omega), List.take_of_length_le (by rw [List.length_drop]; exact Nat.le_refl _), List.take_of_length_le (by rw [List.length_drop]; omega)]
theorem map_take_snoc {α : Type} (g : α → Bool) {ms : List α} {i : Nat} {m : α} (e : ms[i]? = some m) : ((ms.take i).map g).map V.bl ++ [V.bl (g m)] = ((ms.take (i + 1)).map g).map V.bl := by
  rw [List.take_add_one, e, List.map_append, List.map_append]
  rfl
/-- what a spec of a lot is -/
def specWd : Lt → Str
  | .once => "once"
  | .loan => "loan"
  | .free => "free"
  | .more _ => "more"
  | .raw _ _ => "raw"
def SpecB (H : Hp) (a : Addr) (y : V) : Lt → Prop
  | .once => y = .non ∧ H a = some (.tup [])
  | .loan => y = .non ∧ H a = some (.tup [])
  | .free => y = .non ∧ H a = some (.tup [])
  | .more ms => y = .non ∧ H a = some (.tup (ms.map natV)) ∧ ms ≠ [] ∧ (∀ m ∈ ms, 0 < m ∧ m ≤ 12) ∧ ms.length ≤ 4
  | .raw hs rs => ∃ b, y = .ref b ∧ H a = some (.tup (hs.map V.bl)) ∧ H b = some (.tup (rs.map V.bl)) ∧ hs.length ≤ 8 ∧ 1 ≤ rs.length ∧ rs.length ≤ 6 ∧ (Lt.raw hs rs).holds 1 = true
theorem SpecB.mono {H H' : Hp} (t : Tups H H') {a : Addr} {y : V} : ∀ {l : Lt}, SpecB H a y l → SpecB H' a y l
  | .once, ⟨e, h⟩ => ⟨e, t _ _ h⟩
  | .loan, ⟨e, h⟩ => ⟨e, t _ _ h⟩
  | .free, ⟨e, h⟩ => ⟨e, t _ _ h⟩
  | .more ms, ⟨e, h, r⟩ => ⟨e, t _ _ h, r⟩
  | .raw hs rs, ⟨b, e, h1, h2, r⟩ => ⟨b, e, t _ _ h1, t _ _ h2, r⟩
def SpecV (H : Hp) (v : V) (l : Lt) : Prop := ∃ t a y, v = .ref t ∧ H t = some (.tup [.str (specWd l), .ref a, y]) ∧ SpecB H a y l
theorem SpecV.mono {H H' : Hp} (t : Tups H H') {v : V} {l : Lt} (h : SpecV H v l) : SpecV H' v l := by
  obtain ⟨p, a, y, e, ep, hb⟩ := h
  exact ⟨p, a, y, e, t _ _ ep, hb.mono t⟩
section
variable {P : Program} {w : World} {K : PySem.W.Frag} {mg : Str → Option Value} {base : Heap} {f : Addr} {fd : FuncData}
/-! ### _law_sums -/
abbrev s_law_sums : Stmt := topS 67
abbrev Nlaw_sums : List Str := ["_law_makers", "_law_most", "_law_found", "_law_number", "_law_maker"]
theorem sc_law_sums : FnScope Nlaw_sums ["_law_makers", "_law_most"] (defScope s_law_sums) := ⟨rfl, rfl, rfl, by decide +kernel, rfl, by decide +kernel, by decide +kernel⟩
def sp_law_sums : Sp := fun vs H Q _ => ∃ (a : Addr) (ms : List Nat) (n : Nat), vs = [.ref a, natV n] ∧ H a = some (.tup (ms.map natV)) ∧ (∀ m ∈ ms, 0 < m ∧ m ≤ 12) ∧ ms.length ≤ 4 ∧ n ≤ 70 ∧
  ∀ (H' : Hp) (p : Addr) (fl : List Bool), Same H H' → H p = none → H' p = some (.lst (fl.map V.bl)) → fl.length = n + 1 → SumsOk ms fl → Q (.ref p) H'
theorem ok_law_sums (T : Txt mg) (F : Fun K "_law_sums" "_law_sums" s_law_sums f fd) : FnOk P w K mg base CX0 1 f fd ["_law_makers", "_law_most"] sp_law_sums := by
  have nd := sc_law_sums.nd
  refine F.ok sc_law_sums (fun vs H Q Ex h => ?_) (fun cdv A outer s H vs Q Ex hr h => ?_)
  · obtain ⟨_, _, _, rfl, _⟩ := h
    rfl
  · obtain ⟨a, ms, n, rfl, ea, hb, hl, hn, q⟩ := h
    refine ⟨_, pss_cons (ps_set (i := 2) nd rfl (Or.inr rfl) (pe_lst (pa_cons pe_bl pa_nil)))
    (pss_cons (ps_for PassesOwn.never rfl (pi_range2 rfl T.range (pa_cons pe_int (pa_cons (pe_op op_add (pv 1) pe_int) pa_nil))) (pg_name (i := 3) nd rfl (Or.inr rfl))
      (pss_one (ps_expr (pe_bm PySem.F.plainAttrs_list PySem.F.slot_list_append PySem.F.type_list_append mt_append (pv 2) (pa_cons (pe_callB (cr_any rfl) (by rfl) T.any (by decide +kernel) (pa_cons (pe_lc (own := [("_law_maker", 4)]) (g := gName 4) rfl nd (pi_tup (pv 0)) (blkOk_by (own := [("_law_maker", 4)]) (N := Nlaw_sums) (sc := defScope s_law_sums) (by decide +kernel)) (fun _ _ _ _ _ => (pg_name (i := 4) nd rfl (Or.inl rfl))) (fun _ _ _ _ _ => pts_nil) (fun _ _ _ _ _ => (pe_and (pe_cmpR op_le (pv 4) (pv 3) (nomark _)) (pe_one (pe_ix (r := rIxL K) ix_list (pv 2) (pe_op op_sub (pv 3) (pv 4)) (fun _ _ => rfl)))))) pa_nil)) pa_nil)))))
    (pss_one (ps_ret (pv 2)))), ?_⟩
    refine ⟨(by show 1 ≤ sizeLine; decide), fun fo nfo => ?_⟩
    generalize eH1 : upd H fo (.lst [V.bl true]) = H1
    obtain ⟨s1, e1, f1⟩ := new_f nfo eH1
    refine ⟨_, rfl, _, _, rfl, rfl, _, _, rfl, ⟨by omega, by omega, by omega, by omega⟩, ?_⟩
    rw [show ((n : Int) + 1 - 1).toNat = n by omega]
    refine for_range (lo := 1) (n := n) (fun i σ H' => ∃ (y3 : Option V) (fl : List Bool), σ = [some (.ref a), some (natV n), some (.ref fo), y3, none] ∧ Same H H' ∧ H' fo = some (.lst (fl.map V.bl)) ∧ fl.length = i + 1 ∧ SumsOk ms fl) ?_ ?_ ?_
    · refine ⟨none, [true], rfl, s1, e1, rfl, fun k b e => ?_⟩
      cases k with
      | zero =>
        cases e
        exact ⟨fun _ => .zero, fun _ => rfl⟩
      | succ k => simp at e
    · rintro i σ H2 hi ⟨y3, fl, rfl, s2, e2, hfl, hok⟩
      have ea2 := s2 _ _ ea
      refine ⟨_, rfl, .inl ⟨rfl, _, SqL.h e2⟩, _, rfl, a, rfl, ⟨_, SqT.h ea2⟩, fun D nD => ?_⟩
      have nDf : D ≠ fo := (ne_of_none e2 nD).symm
      refine lc_tup (K := K) (a := a) (xs := ms.map natV) (fun j H' => Same H2 H' ∧ H' D = some (.lst (((ms.take j).map fun m => decide (m ≤ fl.length) && (fl[fl.length - m]?).getD false).map V.bl))) ⟨same_new _ nD, upd_same⟩ (fun i H' _ h' => SqT.h (h'.1 _ _ ea2)) ?_ ?_
      · rintro j x H3 hx ⟨s3, eD⟩
        obtain ⟨m, em, rfl⟩ := nat_at hx
        have hm := hb m (List.mem_of_getElem? em)
        have hjl := (List.getElem?_eq_some_iff.mp em).1
        have e3 := s3 _ _ e2
        have step : ∀ b, b = (decide (m ≤ fl.length) && (fl[fl.length - m]?).getD false) → ∃ acc, H3 D = some (.lst acc) ∧ acc.length < sizeLine ∧ Same H2 (upd H3 D (.lst (acc ++ [V.bl b]))) ∧ upd H3 D (.lst (acc ++ [V.bl b])) D = some (.lst (((ms.take (j + 1)).map fun m => decide (m ≤ fl.length) && (fl[fl.length - m]?).getD false).map V.bl)) := by
          rintro b rfl
          refine ⟨_, eD, ?_, s3.mut nD (fun b hb => upd_ne hb), ?_⟩
          · rw [List.length_map, List.length_map, List.length_take]
            exact lt60 (by omega)
          · rw [upd_same, map_take_snoc _ em]
        refine ⟨rfl, _, rfl, _, rfl, _, _, rfl, rfl, ?_⟩
        by_cases c : m ≤ fl.length
        · refine ⟨true, eT (show (m : Int) ≤ 1 + (i : Int) by omega), iteT ?_⟩
          have ex : fl[fl.length - m]? = some fl[fl.length - m] := List.getElem?_eq_getElem (by omega)
          refine ⟨_, rfl, _, rfl, _, rfl, _, _, rfl, rfl, fo, fl.map V.bl, _, V.bl fl[fl.length - m], rfl, rfl, SqL.h e3, ?_, ?_⟩
          · rw [show (1 : Int) + (i : Int) - (m : Int) = ((fl.length - m : Nat) : Int) by omega]
            exact atI_nat (by rw [List.getElem?_map, ex]; rfl)
          · exact step _ (by rw [decide_eq_true c, ex]; rfl)
        · refine ⟨false, eF (show ¬ (m : Int) ≤ 1 + (i : Int) by omega), iteF ?_⟩
          exact step _ (by rw [decide_eq_false c]; rfl)
      · rintro H3 ⟨s3, eD⟩
        rw [List.take_of_length_le (by rw [List.length_map]; exact Nat.le_refl _)] at eD
        refine ⟨D, _, rfl, SqL.h eD, ?_⟩
        have e3 := s3 _ _ e2
        refine ⟨fo, _, _, rfl, rfl, e3, by rw [List.length_map]; exact lt60 (by omega), ?_⟩
        generalize hbb : (List.map (fun m => decide (m ≤ fl.length) && (fl[fl.length - m]?).getD false) ms).any id = b
        generalize eH4 : upd H3 fo _ = H4
        obtain ⟨e4, f4⟩ := mut_f eH4
        refine ⟨_, fl ++ [b], rfl, (s2.trans s3).mut nfo f4, by rw [e4, List.map_append]; rfl, by rw [List.length_append, List.length_singleton]; omega, ?_⟩
        refine sums_next (fun m hm => (hb m hm).1) hok (by omega) ?_
        rw [← hbb, List.any_map, List.any_eq_true]
        constructor
        · rintro ⟨m, hm, h⟩
          simp only [Function.comp, id, Bool.and_eq_true, decide_eq_true_eq] at h
          refine ⟨m, hm, h.1, ?_⟩
          have := h.2
          cases e : fl[fl.length - m]? with
          | none => rw [e] at this; cases this
          | some z => rw [e] at this; exact congrArg some this
        · rintro ⟨m, hm, h1, h2⟩
          exact ⟨m, hm, by simp only [Function.comp, id]; rw [decide_eq_true h1, h2]; rfl⟩
    · rintro σ H2 ⟨y3, fl, rfl, s2, e2, hfl, hok⟩
      exact ⟨_, rfl, q H2 fo fl s2 nfo e2 hfl hok⟩
end
end K8
namespace K8
open PySem PySem.Spec PyProof.Rows L2
open Classical in
theorem raw_holds (hs rs : List Bool) (n : Nat) : (Lt.raw hs rs).holds n = if n < hs.length then (hs[n]?).getD false else (rs[(n - hs.length) % rs.length]?).getD false := by
  simp only [Lt.holds]
theorem raw_next {hs rs rows : List Bool} (hrs : 1 ≤ rs.length) (h1 : hs.length ≤ rows.length) (h2 : (rows.length - hs.length) % rs.length = 0) (h : ∀ n, n < rows.length → rows[n]? = some ((Lt.raw hs rs).holds n)) :
    ∀ n, n < (rows ++ rs).length → (rows ++ rs)[n]? = some ((Lt.raw hs rs).holds n) := by
  intro n hn
  by_cases c : n < rows.length
  · rw [List.getElem?_append_left c]
    exact h n c
  · rw [List.getElem?_append_right (by omega)]
    rw [List.length_append] at hn
    rw [raw_holds, if_neg (by omega)]
    have e : n - hs.length = (rows.length - hs.length) + (n - rows.length) := by omega
    have e2 : (n - hs.length) % rs.length = n - rows.length := by
      rw [e, Nat.add_mod, h2, Nat.zero_add, Nat.mod_mod]
      exact Nat.mod_eq_of_lt (by omega)
    rw [e2]
    exact getD_at (by omega)
theorem raw_mod {a h b : Nat} (h1 : h ≤ a) (h2 : (a - h) % b = 0) : (a + b - h) % b = 0 := by
  rw [show a + b - h = (a - h) + b by omega, Nat.add_mod_right, h2]
open Classical in
theorem flags_more {ms : List Nat} {fl : List Bool} {n : Nat} (hl : fl.length = n) (h : SumsOk ms fl) : FlagsOk (.more ms) (n + 1) (false :: fl) := by
  intro k hk
  cases k with
  | zero => rw [holds_more0]; rfl
  | succ k =>
    have ex : fl[k]? = some fl[k] := List.getElem?_eq_getElem (by omega)
    rw [List.getElem?_cons_succ, ex]
    exact congrArg some (holds_moreS (h k _ ex)).symm
section
variable {P : Program} {w : World} {K : PySem.W.Frag} {mg : Str → Option Value} {base : Heap} {f : Addr} {fd : FuncData}
/-! ### _law_told_numbers -/
abbrev s_law_told_numbers : Stmt := topS 68
abbrev Nlaw_told_numbers : List Str := ["_law_spec", "_law_most", "_law_word", "_law_first", "_law_second", "_law_rows", "_law_number"]
theorem sc_law_told_numbers : FnScope Nlaw_told_numbers ["_law_spec", "_law_most"] (defScope s_law_told_numbers) := ⟨rfl, rfl, rfl, by decide +kernel, rfl, by decide +kernel, by decide +kernel⟩
def sp_law_told_numbers : Sp := fun vs H Q _ => ∃ (v : V) (l : Lt) (n : Nat), vs = [v, natV n] ∧ SpecV H v l ∧ 1 ≤ n ∧ n ≤ 70 ∧
  ∀ (H' : Hp) (p : Addr) (fl : List Bool), Same H H' → H p = none → H' p = some (.lst (fl.map V.bl)) → fl.length = n + 1 → FlagsOk l (n + 1) fl → Q (.ref p) H'
theorem n_ow : ¬ V.str "once" = V.str "raw" := by decide +kernel
theorem n_lw : ¬ V.str "loan" = V.str "raw" := by decide +kernel
theorem n_fw : ¬ V.str "free" = V.str "raw" := by decide +kernel
theorem n_mw : ¬ V.str "more" = V.str "raw" := by decide +kernel
theorem n_om : ¬ V.str "once" = V.str "more" := by decide +kernel
theorem n_lm : ¬ V.str "loan" = V.str "more" := by decide +kernel
theorem n_fm : ¬ V.str "free" = V.str "more" := by decide +kernel
theorem n_of : ¬ V.str "once" = V.str "free" := by decide +kernel
theorem n_lf : ¬ V.str "loan" = V.str "free" := by decide +kernel
/-- the three words of no makers -/
def Lt.plain : Lt → Prop
  | .once => True
  | .loan => True
  | .free => True
  | _ => False
open Classical in
theorem plain_holds {l : Lt} (h : l.plain) (n : Nat) : l.holds n = if n = 0 then decide (¬ V.str (specWd l) = V.str "once") else if n = 1 then true else decide (V.str (specWd l) = V.str "free") := by
  cases l with
  | once =>
    simp only [Lt.holds, specWd]
    by_cases h0 : n = 0
    · subst h0; simp
    · rw [if_neg h0]
      by_cases h1 : n = 1
      · subst h1; simp
      · rw [if_neg h1, decide_eq_false h1]; exact (decide_eq_false n_of).symm
  | loan =>
    simp only [Lt.holds, specWd]
    by_cases h0 : n = 0
    · subst h0; rw [if_pos rfl, decide_eq_true (show (0 : Nat) < 2 by decide)]; exact (decide_eq_true n_lo).symm
    · rw [if_neg h0]
      by_cases h1 : n = 1
      · subst h1; simp
      · rw [if_neg h1, decide_eq_false (show ¬ n < 2 by omega)]; exact (decide_eq_false n_lf).symm
  | free =>
    simp only [Lt.holds, specWd]
    by_cases h0 : n = 0
    · subst h0; rw [if_pos rfl]; exact (decide_eq_true n_fo).symm
    · rw [if_neg h0]
      by_cases h1 : n = 1
      · subst h1; simp
      · rw [if_neg h1]; simp
  | more ms => cases h
  | raw hs rs => cases h
theorem ok_law_told_numbers (T : Txt mg) (c_law_sums : Cl P w K mg base "_law_sums" 1 ["_law_makers", "_law_most"] sp_law_sums)
    (F : Fun K "_law_told_numbers" "_law_told_numbers" s_law_told_numbers f fd) : FnOk P w K mg base CX0 2 f fd ["_law_spec", "_law_most"] sp_law_told_numbers := by
  have nd := sc_law_told_numbers.nd
  refine F.ok sc_law_told_numbers (fun vs H Q Ex h => ?_) (fun cdv A outer s H vs Q Ex hr h => ?_)
  · obtain ⟨_, _, _, rfl, _⟩ := h
    rfl
  · obtain ⟨v, l, n, rfl, ⟨t, a, y, rfl, et, hsp⟩, hn1, hn, q⟩ := h
    refine ⟨_, pss_cons (ps_asg (pv 0) (pg_tup rfl (pgs_cons (pg_name (i := 2) nd rfl (Or.inr rfl)) (pgs_cons (pg_name (i := 3) nd rfl (Or.inl rfl)) (pgs_cons (pg_name (i := 4) nd rfl (Or.inl rfl)) pgs_nil)))))
    (pss_cons (ps_if (pt_cmpR op_eq (pv 2) pe_str (nomark _)) (pss_cons (ps_set (i := 5) nd rfl (Or.inl rfl) (pe_callTy call_list_of (by rfl) T.list (by decide +kernel) (pa_cons (pv 3) pa_nil)))
      (pss_cons (ps_while PassesOwn.never (pt_cmpR op_le (pe_callB call_len_seq (by rfl) T.len (by decide +kernel) (pa_cons (pv 5) pa_nil)) (pv 1) (nomark _)) (pss_one (ps_expr (pe_bm PySem.F.plainAttrs_list PySem.F.slot_list_extend PySem.F.type_list_extend mt_extendT (pv 5) (pa_cons (pv 4) pa_nil)))))
      (pss_one (ps_ret (pe_slice sl_list (pv 5) po_none (po_some (pe_op op_add (pv 1) pe_int))))))) pss_nil)
    (pss_cons (ps_if (pt_cmpR op_eq (pv 2) pe_str (nomark _)) (pss_one (ps_ret (pe_op op_cat (pe_lst (pa_cons pe_bl pa_nil)) (pe_cl c_law_sums hr (by omega) (pa_cons (pv 3) (pa_cons (pe_op op_sub (pv 1) pe_int) pa_nil)))))) pss_nil)
    (pss_one (ps_ret (pe_lc (own := [("_law_number", 6)]) (g := gName 6) rfl nd (pi_range1 rfl T.range (pa_cons (pe_op op_add (pv 1) pe_int) pa_nil)) (blkOk_by (own := [("_law_number", 6)]) (N := Nlaw_told_numbers) (sc := defScope s_law_told_numbers) (by decide +kernel)) (fun _ _ _ _ _ => (pg_name (i := 6) nd rfl (Or.inl rfl))) (fun _ _ _ _ _ => pts_nil) (fun _ _ _ _ _ => (pe_ifExp (pt_cmpR op_eq (pv 6) pe_int (nomark _)) (pe_cmpR op_ne (pv 2) pe_str (nomark _)) (pe_or (pe_cmpR op_eq (pv 6) pe_int (nomark _)) (pe_one (pe_cmpR op_eq (pv 2) pe_str (nomark _))))))))))), ?_⟩
    refine ⟨_, rfl, t, _, rfl, SqT.h et, rfl, _, _, rfl, _, _, rfl, _, _, rfl, rfl, ?_⟩
    refine ⟨_, rfl, rfl, ?_⟩
    by_cases hp : l.plain
    · have h1 : ¬ V.str (specWd l) = V.str "raw" := by
        cases l with
        | once => exact n_ow
        | loan => exact n_lw
        | free => exact n_fw
        | more ms => cases hp
        | raw hs rs => cases hp
      have h2 : ¬ V.str (specWd l) = V.str "more" := by
        cases l with
        | once => exact n_om
        | loan => exact n_lm
        | free => exact n_fm
        | more ms => cases hp
        | raw hs rs => cases hp
      refine ⟨false, eF h1, iteF ?_⟩
      refine ⟨_, rfl, rfl, false, eF h2, iteF ?_⟩
      refine ⟨_, rfl, _, _, rfl, rfl, _, rfl, by omega, by omega, fun D nD => ?_⟩
      rw [show ((n : Int) + 1).toNat = n + 1 by omega]
      refine lc_range (lo := 0) (n := n + 1) (fun j H' => Same H H' ∧ H' D = some (.lst (((List.range j).map l.holds).map V.bl))) ⟨same_new _ nD, upd_same⟩ ?_ ?_
      · rintro j H3 hj ⟨s3, eD⟩
        have step : ∀ b, b = l.holds j → ∃ acc, H3 D = some (.lst acc) ∧ acc.length < sizeLine ∧ Same H (upd H3 D (.lst (acc ++ [V.bl b]))) ∧ upd H3 D (.lst (acc ++ [V.bl b])) D = some (.lst (((List.range (j + 1)).map l.holds).map V.bl)) := by
          rintro b rfl
          refine ⟨_, eD, ?_, s3.mut nD (fun b hb => upd_ne hb), ?_⟩
          · rw [List.length_map, List.length_map, List.length_range]
            exact lt60 (by omega)
          · rw [upd_same, List.range_succ, List.map_append, List.map_append]
            rfl
        have ph := plain_holds hp j
        refine ⟨rfl, _, rfl, rfl, ?_⟩
        by_cases h0 : j = 0
        · refine ⟨true, eT (by subst h0; rfl), iteT ?_⟩
          refine ⟨_, rfl, rfl, ?_⟩
          exact step _ (by rw [ph, if_pos h0]; simp)
        · refine ⟨false, eF (fun z => h0 (by have := V.int.inj z; omega)), iteF ?_⟩
          refine ⟨_, rfl, rfl, ?_⟩
          by_cases h1 : j = 1
          · refine ⟨true, eT (by subst h1; rfl), iteT ?_⟩
            exact step _ (by rw [ph, if_neg h0, if_pos h1])
          · refine ⟨false, eF (fun z => h1 (by have := V.int.inj z; omega)), iteF ?_⟩
            refine ⟨_, rfl, rfl, ?_⟩
            exact step _ (by rw [ph, if_neg h0, if_neg h1])
      · rintro H3 ⟨s3, eD⟩
        refine q H3 D _ s3 nD eD (by rw [List.length_map, List.length_range]) fun k hk => ?_
        rw [List.getElem?_map, List.getElem?_range hk]
        rfl
    cases l with
    | once => exact absurd trivial hp
    | loan => exact absurd trivial hp
    | free => exact absurd trivial hp
    | more ms =>
      obtain ⟨rfl, ea, hne, hb, h4⟩ := hsp
      refine ⟨false, eF n_mw, iteF ?_⟩
      refine ⟨_, rfl, rfl, true, eT rfl, iteT ?_⟩
      refine ⟨(by show 1 ≤ sizeLine; decide), fun fo nfo => ?_⟩
      generalize eH1 : upd H fo (.lst [V.bl false]) = H1
      obtain ⟨s1, e1, f1⟩ := new_f nfo eH1
      refine ⟨_, rfl, _, rfl, _, _, rfl, rfl, a, ms, n - 1, ?_, s1 _ _ ea, hb, h4, by omega, fun H2 p fl s2 np ep hfl hok => ?_⟩
      · show [V.ref a, V.int ((n : Int) - 1)] = _
        rw [show ((n : Int) - 1) = ((n - 1 : Nat) : Int) by omega]
      refine ⟨fo, p, _, _, rfl, rfl, s2 _ _ e1, ep, ?_, fun z nz => ?_⟩
      · rw [List.length_map]
        exact le60 (by show 1 + fl.length ≤ 100; omega)
      generalize eH3 : upd H2 z _ = H3
      obtain ⟨s3, e3, f3⟩ := new_f nz eH3
      exact q H3 z (false :: fl) ((s1.trans s2).trans s3) ((s1.trans s2).free nz) e3 (by rw [List.length_cons]; omega) (flags_more (by omega) hok)
    | raw hs rs =>
      obtain ⟨b, rfl, ea, eb, h8, hr1, hr6, hh1⟩ := hsp
      refine ⟨true, eT rfl, iteT ?_⟩
      refine ⟨_, rfl, a, _, rfl, .inr (SqT.h ea), fun fo nfo => ?_⟩
      generalize eH1 : upd H fo (.lst (hs.map V.bl)) = H1
      obtain ⟨s1, e1, f1⟩ := new_f nfo eH1
      refine ⟨fun m σ H' => ∃ rows : List Bool, σ = [some (.ref t), some (natV n), some (.str "raw"), some (.ref a), some (.ref b), some (.ref fo), none] ∧ Same H H' ∧ H' fo = some (.lst (rows.map V.bl)) ∧ hs.length ≤ rows.length ∧ (rows.length - hs.length) % rs.length = 0 ∧ rows.length ≤ 80 ∧
        (∀ k, k < rows.length → rows[k]? = some ((Lt.raw hs rs).holds k)) ∧ m = 100 - rows.length, ⟨_, hs, rfl, s1, e1, Nat.le_refl _, by rw [Nat.sub_self, Nat.zero_mod], by omega, fun k hk => ?_, rfl⟩, ?_⟩
      · rw [raw_holds, if_pos hk]
        exact getD_at hk
      rintro m σ H2 ⟨rows, rfl, s2, e2, hle, hmod, h80, hok, rfl⟩
      refine ⟨_, rfl, fo, _, rfl, .inl (SqL.h e2), _, rfl, _, _, rfl, rfl, _, rfl, ?_⟩
      refine ite2 (fun c1 => ?_) (fun c1 => ?_)
      · have c1' : (((rows.map V.bl).length : Nat) : Int) ≤ (n : Int) := of_decide_eq_true c1
        rw [List.length_map] at c1'
        refine ⟨fun σ' H' => ∃ m', m' < 100 - rows.length ∧ ∃ rows : List Bool, σ' = [some (.ref t), some (natV n), some (.str "raw"), some (.ref a), some (.ref b), some (.ref fo), none] ∧ Same H H' ∧ H' fo = some (.lst (rows.map V.bl)) ∧ hs.length ≤ rows.length ∧ (rows.length - hs.length) % rs.length = 0 ∧ rows.length ≤ 80 ∧
          (∀ k, k < rows.length → rows[k]? = some ((Lt.raw hs rs).holds k)) ∧ m' = 100 - rows.length, fun σ' H' h => h, ?_⟩
        refine ⟨_, rfl, .inl ⟨rfl, _, SqL.h e2⟩, _, rfl, fo, b, _, _, rfl, rfl, e2, SqT.h (s2 _ _ eb), ?_, ?_⟩
        · rw [List.length_map, List.length_map]
          exact le60 (by omega)
        generalize eH3 : upd H2 fo _ = H3
        obtain ⟨e3, f3⟩ := mut_f eH3
        refine ⟨100 - (rows ++ rs).length, ?_, rows ++ rs, rfl, s2.mut nfo f3, by rw [e3, List.map_append], ?_, ?_, ?_, raw_next hr1 hle hmod hok, rfl⟩
        · rw [List.length_append]; omega
        · rw [List.length_append]; omega
        · rw [List.length_append]; exact raw_mod hle hmod
        · rw [List.length_append]; omega
      · have c1' : ¬ (((rows.map V.bl).length : Nat) : Int) ≤ (n : Int) := fun z => c1 (decide_eq_true z)
        rw [List.length_map] at c1'
        refine ⟨_, rfl, _, rfl, _, _, rfl, rfl, _, rfl, fo, _, rfl, SqL.h e2, fun p np => ?_⟩
        rw [show ((n : Int) + 1) = ((n + 1 : Nat) : Int) by omega, cut_to, ← List.map_take]
        generalize eH3 : upd H2 p _ = H3
        obtain ⟨s3, e3, f3⟩ := new_f np eH3
        refine q H3 p (rows.take (n + 1)) (s2.trans s3) (s2.free np) e3 (by rw [List.length_take]; omega) fun k hk => ?_
        rw [List.getElem?_take_of_lt hk]
        exact hok k (by omega)
end
end K8
namespace K8
open PySem PySem.Spec PyProof.Rows L2
section
variable {P : Program} {w : World} {K : PySem.W.Frag} {mg : Str → Option Value} {base : Heap} {f : Addr} {fd : FuncData}
/-- a list of drawn bools, sofar -/
def BoolSt (h c D : Addr) (H H' : Hp) (i : Nat) : Prop := Hd h c H H' ∧ ∃ bs : List Bool, bs.length = i ∧ H' D = some (.lst (bs.map V.bl))
/-! ### _law_lot_spec -/
abbrev s_law_lot_spec : Stmt := topS 69
abbrev Nlaw_lot_spec : List Str := ["_law_hand_here", "_law_word", "_law_turn"]
theorem sc_law_lot_spec : FnScope Nlaw_lot_spec ["_law_hand_here"] (defScope s_law_lot_spec) := ⟨rfl, rfl, rfl, by decide +kernel, rfl, by decide +kernel, by decide +kernel⟩
def sp_law_lot_spec : Sp := fun vs H Q _ => ∃ (h c : Addr), vs = [.ref h] ∧ HandV H h c ∧ ∀ H' v l, Hd h c H H' → SpecV H' v l → l.holds 1 = true → Q v H'
open Classical in
theorem more_one (ms : List Nat) : (Lt.more ms).holds 1 = true := by
  simp only [Lt.holds]
  exact decide_eq_true ⟨Nat.one_pos, .zero⟩
open Classical in
theorem plain_one {l : Lt} (h : l.plain) : l.holds 1 = true := by
  rw [plain_holds h]
  simp
theorem ok_law_lot_spec (T : Txt mg) (c_law_draw : Cl P w K mg base "_law_draw" 1 ["_law_hand_here", "_law_many"] sp_law_draw) (c_law_some : Cl P w K mg base "_law_some" 2 ["_law_hand_here", "_law_things"] sp_law_some)
    (F : Fun K "_law_lot_spec" "_law_lot_spec" s_law_lot_spec f fd) : FnOk P w K mg base CX0 3 f fd ["_law_hand_here"] sp_law_lot_spec := by
  have nd := sc_law_lot_spec.nd
  refine F.ok sc_law_lot_spec (fun vs H Q Ex h => ?_) (fun cdv A outer s H vs Q Ex hr h => ?_)
  · obtain ⟨_, _, rfl, _⟩ := h
    rfl
  · obtain ⟨h, c, rfl, hv, q⟩ := h
    refine ⟨_, pss_cons (ps_set (i := 1) nd rfl (Or.inl rfl) (pe_cl c_law_some hr (by omega) (pa_cons (pv 0) (pa_cons (pe_lst (pa_cons pe_str (pa_cons pe_str (pa_cons pe_str (pa_cons pe_str (pa_cons pe_str (pa_cons pe_str (pa_cons pe_str pa_nil)))))))) pa_nil))))
    (pss_cons (ps_if (pt_cmpR op_ne (pv 1) pe_str (nomark _)) (pss_one (ps_ret (pe_tup (pa_cons (pv 1) (pa_cons (pe_tup pa_nil) (pa_cons pe_non pa_nil)))))) pss_nil)
    (pss_one (ps_ret (pe_tup (pa_cons (pv 1) (pa_cons (pe_callTy call_tuple_of (by rfl) T.tuple (by decide +kernel) (pa_cons (pe_lc (own := [("_law_turn", 2)]) (g := gName 2) rfl nd (pi_range1 rfl T.range (pa_cons (pe_op op_add pe_int (pe_cl c_law_draw hr (by omega) (pa_cons (pv 0) (pa_cons pe_int pa_nil)))) pa_nil)) (blkOk_by (own := [("_law_turn", 2)]) (N := Nlaw_lot_spec) (sc := defScope s_law_lot_spec) (by decide +kernel)) (fun _ _ _ _ _ => (pg_name (i := 2) nd rfl (Or.inl rfl))) (fun _ _ _ _ _ => pts_nil) (fun _ _ _ _ _ => (pe_op op_add pe_int (pe_cl c_law_draw hr (by omega) (pa_cons (pv 0) (pa_cons pe_int pa_nil)))))) pa_nil)) (pa_cons pe_non pa_nil))))))), ?_⟩
    refine ⟨_, rfl, (by show 7 ≤ sizeLine; decide), fun t nt => ?_⟩
    generalize eH1 : upd H t (.lst _) = H1
    obtain ⟨s1, e1, f1⟩ := new_f nt eH1
    refine ⟨h, c, t, _, rfl, hv.mono s1, e1, hv.nh nt, by decide, by decide, fun H2 x hx hh2 => ?_⟩
    have hh : Hd h c H H2 := (Hd.of hv s1).trans hh2
    have go : (∃ l : Lt, l.plain ∧ x = V.str (specWd l)) ∨ x = V.str "more" := by
      simp only [List.mem_cons, List.not_mem_nil, or_false] at hx
      rcases hx with e | e | e | e | e | e | e
      · exact .inl ⟨.once, trivial, e⟩
      · exact .inl ⟨.loan, trivial, e⟩
      · exact .inl ⟨.free, trivial, e⟩
      all_goals exact .inr e
    rcases go with ⟨l, hp, rfl⟩ | rfl
    · have h2 : ¬ V.str (specWd l) = V.str "more" := by
        cases l with
        | once => exact n_om
        | loan => exact n_lm
        | free => exact n_fm
        | more ms => cases hp
        | raw hs rs => cases hp
      refine ⟨_, rfl, rfl, true, congrArg V.bl (by rw [decide_eq_false h2]; rfl), iteT ?_⟩
      refine ⟨_, rfl, Nat.zero_le _, fun e ne => ?_⟩
      generalize eH3 : upd H2 e (.tup []) = H3
      obtain ⟨s3, e3, f3⟩ := new_f ne eH3
      refine ⟨(by show 3 ≤ sizeLine; decide), fun p np => ?_⟩
      generalize eH4 : upd H3 p (.tup _) = H4
      obtain ⟨s4, e4, f4⟩ := new_f np eH4
      refine q H4 _ l ((hh.new s3).new s4) ⟨p, e, .non, rfl, e4, ?_⟩ (plain_one hp)
      have e3' := s4 _ _ e3
      cases l with
      | once => exact ⟨rfl, e3'⟩
      | loan => exact ⟨rfl, e3'⟩
      | free => exact ⟨rfl, e3'⟩
      | more ms => cases hp
      | raw hs rs => cases hp
    · refine ⟨_, rfl, rfl, false, rfl, iteF ?_⟩
      refine ⟨_, rfl, _, rfl, h, c, 4, rfl, hh.2, by omega, by omega, fun H3 d hd hh3 => ?_⟩
      refine ⟨_, _, rfl, rfl, _, rfl, by omega, by omega, fun D nD => ?_⟩
      rw [show ((1 : Int) + (d : Int)).toNat = d + 1 by omega]
      refine lc_range (lo := 0) (n := d + 1) (fun j H' => Hd h c H3 H' ∧ ∃ ms : List Nat, ms.length = j ∧ (∀ m ∈ ms, 0 < m ∧ m ≤ 12) ∧ H' D = some (.lst (ms.map natV))) ⟨Hd.of hh3.2 (same_new _ nD), [], rfl, fun m z => (by cases z), upd_same⟩ ?_ ?_
      · rintro j H4 hj ⟨hh4, ms, hml, hmb, eD⟩
        refine ⟨rfl, _, rfl, h, c, 12, rfl, hh4.2, by omega, by omega, fun H5 d5 hd5 hh5 => ?_⟩
        have hnD : D ≠ h := hh3.2.nh nD
        have eD5 := hh5.mem hnD eD
        refine ⟨_, _, rfl, rfl, _, eD5, by rw [List.length_map]; exact lt60 (by omega), (hh4.trans hh5).mut hh3.2 nD (fun b hb => upd_ne hb), ms ++ [d5 + 1], by rw [List.length_append, List.length_singleton]; omega, fun m hm => ?_, ?_⟩
        · rcases List.mem_append.mp hm with hm | hm
          · exact hmb m hm
          · rw [List.mem_singleton.mp hm]; omega
        · rw [upd_same, List.map_append]
          show some (HO.lst (ms.map natV ++ [V.int (1 + (d5 : Int))])) = some (HO.lst (ms.map natV ++ [V.int ((d5 + 1 : Nat) : Int)]))
          rw [show ((d5 + 1 : Nat) : Int) = 1 + (d5 : Int) by omega]
      · rintro H4 ⟨hh4, ms, hml, hmb, eD⟩
        refine ⟨D, _, rfl, .inl ⟨SqL.h eD, fun e ne => ?_⟩⟩
        generalize eH5 : upd H4 e (.tup _) = H5
        obtain ⟨s5, e5, f5⟩ := new_f ne eH5
        refine ⟨(by show 3 ≤ sizeLine; decide), fun p np => ?_⟩
        generalize eH6 : upd H5 p (.tup _) = H6
        obtain ⟨s6, e6, f6⟩ := new_f np eH6
        refine q H6 _ (.more ms) ((((hh.trans hh3).trans hh4).new s5).new s6) ⟨p, e, .non, rfl, e6, rfl, s6 _ _ e5, ?_, hmb, by omega⟩ (more_one ms)
        intro z
        rw [z] at hml
        simp at hml
end
end K8
namespace K8
open PySem PySem.Spec PyProof.Rows L2
section
variable {P : Program} {w : World} {K : PySem.W.Frag} {mg : Str → Option Value} {base : Heap} {f : Addr} {fd : FuncData}
/-! ### _law_raw_spec -/
abbrev s_law_raw_spec : Stmt := topS 70
abbrev Nlaw_raw_spec : List Str := ["_law_hand_here", "_law_size", "_law_flags", "_law_rounds", "_law_heads_here", "_law_maker", "_law_at", "_law_turn", "_law_number"]
theorem sc_law_raw_spec : FnScope Nlaw_raw_spec ["_law_hand_here"] (defScope s_law_raw_spec) := ⟨rfl, rfl, rfl, by decide +kernel, rfl, by decide +kernel, by decide +kernel⟩
theorem raw_one {hs rs : List Bool} (h : hs[1]? = some true) : (Lt.raw hs rs).holds 1 = true := by
  have hl := (List.getElem?_eq_some_iff.mp h).1
  rw [raw_holds, if_pos hl, h]
  rfl
theorem set_bl (fl : List Bool) (i : Nat) (b : Bool) : (fl.map V.bl).set i (V.bl b) = (fl.set i b).map V.bl := map_set' V.bl fl i b
theorem ok_law_raw_spec (T : Txt mg) (c_law_draw : Cl P w K mg base "_law_draw" 1 ["_law_hand_here", "_law_many"] sp_law_draw) (c_law_lot_spec : Cl P w K mg base "_law_lot_spec" 3 ["_law_hand_here"] sp_law_lot_spec)
    (c_law_told_numbers : Cl P w K mg base "_law_told_numbers" 2 ["_law_spec", "_law_most"] sp_law_told_numbers) (F : Fun K "_law_raw_spec" "_law_raw_spec" s_law_raw_spec f fd) : FnOk P w K mg base CX0 4 f fd ["_law_hand_here"] sp_law_lot_spec := by
  have nd := sc_law_raw_spec.nd
  refine F.ok sc_law_raw_spec (fun vs H Q Ex h => ?_) (fun cdv A outer s H vs Q Ex hr h => ?_)
  · obtain ⟨_, _, rfl, _⟩ := h
    rfl
  · obtain ⟨h, c, rfl, hv, q⟩ := h
    refine ⟨_, pss_cons (ps_if (pt_cmpR op_eq (pe_cl c_law_draw hr (by omega) (pa_cons (pv 0) (pa_cons pe_int pa_nil))) pe_int (nomark _)) (pss_cons (ps_set (i := 3) nd rfl (Or.inl rfl) (pe_callTy call_tuple_of (by rfl) T.tuple (by decide +kernel) (pa_cons (pe_lc (own := [("_law_turn", 7)]) (g := gName 7) rfl nd (pi_range1 rfl T.range (pa_cons (pe_op op_add pe_int (pe_cl c_law_draw hr (by omega) (pa_cons (pv 0) (pa_cons pe_int pa_nil)))) pa_nil)) (blkOk_by (own := [("_law_turn", 7)]) (N := Nlaw_raw_spec) (sc := defScope s_law_raw_spec) (by decide +kernel)) (fun _ _ _ _ _ => (pg_name (i := 7) nd rfl (Or.inl rfl))) (fun _ _ _ _ _ => pts_nil) (fun _ _ _ _ _ => (pe_cmpR op_eq (pe_cl c_law_draw hr (by omega) (pa_cons (pv 0) (pa_cons pe_int pa_nil))) pe_int (nomark _)))) pa_nil)))
      (pss_cons (ps_setLc (i := 4) (own := [("_law_turn", 7)]) (g := gName 7) rfl nd rfl rfl (sw_true rfl rfl rfl (by decide +kernel)) (pi_range1 rfl T.range (pa_cons (pe_op op_add pe_int (pe_cl c_law_draw hr (by omega) (pa_cons (pv 0) (pa_cons pe_int pa_nil)))) pa_nil)) (blkOk_by (own := [("_law_turn", 7)]) (N := Nlaw_raw_spec) (sc := defScope s_law_raw_spec) (by decide +kernel)) (fun _ _ _ _ _ => (pg_name (i := 7) nd rfl (Or.inl rfl))) (fun _ _ _ _ _ => pts_nil) (fun _ _ _ _ _ => (pe_cmpR op_eq (pe_cl c_law_draw hr (by omega) (pa_cons (pv 0) (pa_cons pe_int pa_nil))) pe_int (nomark _))))
      (pss_cons (ps_asg pe_bl (pg_sub (pv 4) pe_int set_list))
      (pss_one (ps_ret (pe_tup (pa_cons pe_str (pa_cons (pe_callTy call_tuple_of (by rfl) T.tuple (by decide +kernel) (pa_cons (pv 4) pa_nil)) (pa_cons (pv 3) pa_nil))))))))) pss_nil)
    (pss_cons (ps_set (i := 1) nd rfl (Or.inl rfl) (pe_op op_add pe_int (pe_cl c_law_draw hr (by omega) (pa_cons (pv 0) (pa_cons pe_int pa_nil)))))
    (pss_cons (ps_set (i := 2) nd rfl (Or.inl rfl) (pe_cl c_law_told_numbers hr (by omega) (pa_cons (pe_cl c_law_lot_spec hr (by omega) (pa_cons (pv 0) pa_nil)) (pa_cons (pe_op op_add pe_int (pv 1)) pa_nil))))
    (pss_cons (ps_if (pt_cmpR op_eq (pe_cl c_law_draw hr (by omega) (pa_cons (pv 0) (pa_cons pe_int pa_nil))) pe_int (nomark _)) (pss_cons (ps_set (i := 5) nd rfl (Or.inr rfl) (pe_op op_add pe_int (pe_cl c_law_draw hr (by omega) (pa_cons (pv 0) (pa_cons pe_int pa_nil)))))
      (pss_one (ps_setLc (i := 2) (own := [("_law_number", 8)]) (g := gName 8) rfl nd rfl rfl (sw_true rfl rfl rfl (by decide +kernel)) (pi_range1 rfl T.range (pa_cons (pe_op op_add pe_int (pv 1)) pa_nil)) (blkOk_by (own := [("_law_number", 8)]) (N := Nlaw_raw_spec) (sc := defScope s_law_raw_spec) (by decide +kernel)) (fun _ _ _ _ _ => (pg_name (i := 8) nd rfl (Or.inl rfl))) (fun _ _ _ _ _ => pts_nil) (fun _ _ _ _ _ => (pe_and (pe_cmpR op_gt (pv 8) pe_int (nomark _)) (pe_one (pe_cmpR op_eq (pe_op op_mod (pe_callTy call_int1 (by rfl) T.int (by decide +kernel) (pa_cons (pe_op op_sub (pv 8) pe_int) pa_nil)) (pv 5)) pe_int (nomark _)))))))) pss_nil)
    (pss_cons (ps_if (pt_cmpR op_eq (pe_cl c_law_draw hr (by omega) (pa_cons (pv 0) (pa_cons pe_int pa_nil))) pe_int (nomark _)) (pss_cons (ps_set (i := 6) nd rfl (Or.inl rfl) (pe_cl c_law_draw hr (by omega) (pa_cons (pv 0) (pa_cons (pe_op op_add pe_int (pv 1)) pa_nil))))
      (pss_one (ps_asg (pe_or (pe_not (pe_ix ix_list (pv 2) (pv 6) (fun _ _ => rfl))) (pe_one (pe_cmpR op_eq (pv 6) pe_int (nomark _)))) (pg_sub (pv 2) (pv 6) set_list)))) pss_nil)
    (pss_one (ps_ret (pe_tup (pa_cons pe_str (pa_cons (pe_callTy call_tuple_of (by rfl) T.tuple (by decide +kernel) (pa_cons (pe_slice sl_list (pv 2) po_none (po_some pe_int)) pa_nil)) (pa_cons (pe_callTy call_tuple_of (by rfl) T.tuple (by decide +kernel) (pa_cons (pe_slice sl_list (pv 2) (po_some pe_int) (po_some (pe_op op_add pe_int (pv 1)))) pa_nil)) pa_nil)))))))))), ?_⟩
    refine ⟨_, rfl, h, c, 2, rfl, hv, by omega, by omega, fun H1 d1 _ hh1 => ⟨rfl, _, rfl, ?_⟩⟩
    refine ite2 (fun c1 => ?_) (fun c1 => ?_)
    · refine ⟨_, rfl, h, c, 6, rfl, hh1.2, by omega, by omega, fun H2 d2 hd2 hh2 => ?_⟩
      refine ⟨_, _, rfl, rfl, _, rfl, by omega, by omega, fun D nD => ?_⟩
      rw [show ((1 : Int) + (d2 : Int)).toNat = d2 + 1 by omega]
      have nDh : D ≠ h := hh2.2.nh nD
      refine lc_range (lo := 0) (n := d2 + 1) (fun j H' => BoolSt h c D H2 H' j) ⟨Hd.of hh2.2 (same_new _ nD), [], rfl, upd_same⟩ ?_ ?_
      · rintro j H4 hj ⟨hh4, bs, hbl, eD⟩
        refine ⟨rfl, _, rfl, h, c, 2, rfl, hh4.2, by omega, by omega, fun H5 d5 hd5 hh5 => ⟨rfl, ?_⟩⟩
        refine ⟨_, hh5.mem nDh eD, by rw [List.length_map]; exact lt60 (by omega), (hh4.trans hh5).mut hh2.2 nD (fun b hb => upd_ne hb), bs ++ [decide (natV d5 = V.int 0)], by rw [List.length_append, List.length_singleton]; omega, ?_⟩
        rw [upd_same, List.map_append]
        rfl
      · rintro H4 ⟨hh4, rs, hrl, eD⟩
        refine ⟨D, _, rfl, .inl ⟨SqL.h eD, fun R nR => ?_⟩⟩
        generalize eH5 : upd H4 R (.tup _) = H5
        obtain ⟨s5, e5, f5⟩ := new_f nR eH5
        have hh5 : Hd h c H H5 := (((hh1.trans hh2).trans hh4).new s5)
        refine ⟨_, rfl, h, c, 7, rfl, hh5.2, by omega, by omega, fun H6 d6 hd6 hh6 => ?_⟩
        have hh06 := hh5.trans hh6
        have e6 := hh6.tups hh5.2 _ _ e5
        refine ⟨_, _, rfl, rfl, _, rfl, by omega, by omega, fun D2 nD2 => ?_⟩
        rw [show ((2 : Int) + (d6 : Int)).toNat = d6 + 2 by omega]
        have nDh2 : D2 ≠ h := hh06.2.nh nD2
        refine lc_range (lo := 0) (n := d6 + 2) (fun j H' => BoolSt h c D2 H6 H' j) ⟨Hd.of hh06.2 (same_new _ nD2), [], rfl, upd_same⟩ ?_ ?_
        · rintro j H7 hj ⟨hh7, bs, hbl, eD2⟩
          refine ⟨rfl, _, rfl, h, c, 2, rfl, hh7.2, by omega, by omega, fun H8 d8 hd8 hh8 => ⟨rfl, ?_⟩⟩
          refine ⟨_, hh8.mem nDh2 eD2, by rw [List.length_map]; exact lt60 (by omega), (hh7.trans hh8).mut hh06.2 nD2 (fun b hb => upd_ne hb), bs ++ [decide (natV d8 = V.int 0)], by rw [List.length_append, List.length_singleton]; omega, ?_⟩
          rw [upd_same, List.map_append]
          rfl
        · rintro H7 ⟨hh7, hs, hhl, eD2⟩
          have e7 := hh7.tups hh06.2 _ _ e6
          refine ⟨_, rfl, D2, _, 1, 1, rfl, rfl, eD2, ?_, ?_⟩
          · rw [List.length_map]
            exact ixN_lt (i := 1) (by omega)
          rw [set_bl]
          generalize eH8 : upd H7 D2 _ = H8
          obtain ⟨e8, f8⟩ := mut_f eH8
          have hh8 : Hd h c H6 H8 := hh7.mut hh06.2 nD2 f8
          have e8R : H8 R = some (.tup (rs.map V.bl)) := by rw [f8 _ (ne_of_none e6 nD2)]; exact e7
          refine ⟨_, rfl, D2, _, rfl, .inl ⟨SqL.h e8, fun ah nah => ?_⟩⟩
          generalize eH9 : upd H8 ah (.tup _) = H9
          obtain ⟨s9, e9, f9⟩ := new_f nah eH9
          refine ⟨_, rfl, (by show 3 ≤ sizeLine; decide), fun p np => ?_⟩
          generalize eH10 : upd H9 p (.tup _) = H10
          obtain ⟨s10, e10, f10⟩ := new_f np eH10
          refine q H10 _ (.raw (hs.set 1 true) rs) (((hh06.trans hh8).new s9).new s10) ⟨p, ah, .ref R, rfl, e10, R, rfl, s10 _ _ e9, s10 _ _ (s9 _ _ e8R), by rw [List.length_set]; omega, by omega, by omega, ?_⟩ ?_
          · exact raw_one (List.getElem?_set_self (by omega))
          · exact raw_one (List.getElem?_set_self (by omega))
    · refine ⟨_, rfl, h, c, 6, rfl, hh1.2, by omega, by omega, fun H2 d2 hd2 hh2 => ?_⟩
      refine ⟨_, _, rfl, rfl, ?_⟩
      have hh02 := hh1.trans hh2
      refine ⟨_, rfl, h, c, rfl, hh2.2, fun H3 v l hh3 hsp hl1 => ?_⟩
      have hh03 := hh02.trans hh3
      refine ⟨_, rfl, _, _, rfl, rfl, v, l, 9 + d2, ?_, hsp, by omega, by omega, fun H4 p fl s4 np ep hfl hok => ?_⟩
      · show [v, V.int (8 + (1 + (d2 : Int)))] = [v, V.int ((9 + d2 : Nat) : Int)]
        rw [show (8 + (1 + (d2 : Int))) = ((9 + d2 : Nat) : Int) by omega]
      have hh04 := hh03.new s4
      have np0 : H p = none := hh03.free np
      have hf1 : fl[1]? = some true := by rw [hok 1 (by omega), hl1]
      try dsimp only
      refine seq_mid (fun σ' H' => ∃ (y5 : Option V) (p : Addr) (fl : List Bool), σ' = [some (.ref h), some (.int (1 + (d2 : Int))), some (.ref p), none, none, y5, none, none, none] ∧ Hd h c H H' ∧ H p = none ∧ H' p = some (.lst (fl.map V.bl)) ∧ fl.length = 10 + d2 ∧ fl[1]? = some true) ?_ fun R hR => ?_
      rotate_left
      · refine ⟨_, rfl, h, c, 3, rfl, hh04.2, by omega, by omega, fun H5 d5 _ hh5 => ⟨rfl, _, rfl, ?_⟩⟩
        have hh05 := hh04.trans hh5
        refine ite2 (fun c2 => ?_) (fun c2 => ?_)
        · refine ⟨_, rfl, h, c, 4, rfl, hh5.2, by omega, by omega, fun H6 d6 hd6 hh6 => ?_⟩
          have hh06 := hh05.trans hh6
          refine ⟨_, _, rfl, rfl, ?_⟩
          refine ⟨_, rfl, _, _, rfl, rfl, _, rfl, by omega, by omega, fun D nD => ?_⟩
          rw [show ((9 : Int) + (1 + (d2 : Int))).toNat = d2 + 10 by omega]
          have nDh : D ≠ h := hh06.2.nh nD
          refine lc_range (lo := 0) (n := d2 + 10) (fun j H' => Hd h c H H' ∧ ∃ bs : List Bool, bs.length = j ∧ (1 < j → bs[1]? = some true) ∧ H' D = some (.lst (bs.map V.bl))) ⟨hh06.new (same_new _ nD), [], rfl, fun z => absurd z (by omega), upd_same⟩ ?_ ?_
          · rintro j H7 hj ⟨hh7, bs, hbl, hb1, eD⟩
            have step : ∀ b, (j = 1 → b = true) → ∃ acc, H7 D = some (.lst acc) ∧ acc.length < sizeLine ∧ Hd h c H (upd H7 D (.lst (acc ++ [V.bl b]))) ∧ ∃ bs : List Bool, bs.length = j + 1 ∧ (1 < j + 1 → bs[1]? = some true) ∧ upd H7 D (.lst (acc ++ [V.bl b])) D = some (.lst (bs.map V.bl)) := by
              intro b hb
              refine ⟨_, eD, by rw [List.length_map]; exact lt60 (by omega), hh7.mut hv (hh06.free nD) (fun b hb => upd_ne hb), bs ++ [b], by rw [List.length_append, List.length_singleton]; omega, fun hj1 => ?_, ?_⟩
              · by_cases e : j = 1
                · rw [List.getElem?_append_right (by omega), hb e, hbl, e]
                  rfl
                · rw [List.getElem?_append_left (by omega)]
                  exact hb1 (by omega)
              · rw [upd_same, List.map_append]
                rfl
            refine ⟨rfl, _, rfl, _, _, rfl, rfl, ?_⟩
            by_cases c0 : 0 < j
            · refine ⟨true, eT (show (0 : Int) < 0 + (j : Int) by omega), iteT ?_⟩
              refine ⟨_, rfl, _, _, rfl, rfl, .inl ⟨_, rfl, _, rfl, _, _, rfl, rfl, (show (0 : Int) < 1 + (d6 : Int) by omega), ?_⟩⟩
              refine ⟨rfl, ?_⟩
              refine step _ fun e => ?_
              subst e
              refine decide_eq_true ?_
              show V.int (((0 : Int) + ((1 : Nat) : Int) - 1) % (1 + (d6 : Int))) = V.int 0
              rw [show ((0 : Int) + ((1 : Nat) : Int) - 1) = 0 by omega, Int.zero_emod]
            · refine ⟨false, eF (show ¬ (0 : Int) < 0 + (j : Int) by omega), iteF ?_⟩
              exact step _ fun e => absurd e (by omega)
          · rintro H7 ⟨hh7, bs, hbl, hb1, eD⟩
            exact hR _ _ ⟨_, D, bs, rfl, hh7, hh06.free nD, eD, by omega, hb1 (by omega)⟩
        · exact hR _ _ ⟨_, p, fl, rfl, hh05, np0, hh5.mem (hv.nh np0) ep, by omega, hf1⟩
      rintro σ5 H5 ⟨y5, p, fl, rfl, hh5, np, ep, hfl, hf1⟩
      try dsimp only
      refine seq_mid (fun σ' H' => ∃ (y5 y6 : Option V) (fl : List Bool), σ' = [some (.ref h), some (.int (1 + (d2 : Int))), some (.ref p), none, none, y5, y6, none, none] ∧ Hd h c H H' ∧ H' p = some (.lst (fl.map V.bl)) ∧ fl.length = 10 + d2 ∧ fl[1]? = some true) ?_ fun R hR => ?_
      rotate_left
      · refine ⟨_, rfl, h, c, 3, rfl, hh5.2, by omega, by omega, fun H6 d6 _ hh6 => ⟨rfl, _, rfl, ?_⟩⟩
        have hh06 := hh5.trans hh6
        have ep6 := hh6.mem (hv.nh np) ep
        refine ite2 (fun c2 => ?_) (fun c2 => ?_)
        · refine ⟨_, rfl, _, rfl, _, _, rfl, rfl, h, c, 9 + d2, ?_, hh06.2, by omega, by omega, fun H7 d7 hd7 hh7 => ?_⟩
          · show [V.ref h, V.int (8 + (1 + (d2 : Int)))] = [V.ref h, V.int ((9 + d2 : Nat) : Int)]
            rw [show (8 + (1 + (d2 : Int))) = ((9 + d2 : Nat) : Int) by omega]
          have hh07 := hh06.trans hh7
          have ep7 := hh7.mem (hv.nh np) ep6
          have ex : fl[d7]? = some fl[d7] := List.getElem?_eq_getElem (by omega)
          generalize fl[d7] = fb at ex
          have fin : ∀ b, (d7 = 1 → b = true) → R [some (.ref h), some (.int (1 + (d2 : Int))), some (.ref p), none, none, y5, some (natV d7), none, none] (upd H7 p (.lst ((fl.map V.bl).set d7 (V.bl b)))) := by
            intro b hb
            rw [set_bl]
            refine hR _ _ ⟨_, _, fl.set d7 b, rfl, hh07.mut hv np (fun b hb => upd_ne hb), upd_same, by rw [List.length_set]; exact hfl, ?_⟩
            by_cases e : d7 = 1
            · subst e
              rw [List.getElem?_set_self (by omega), hb rfl]
            · rw [List.getElem?_set_ne e]
              exact hf1
          have hix : ixN (fl.map V.bl).length (d7 : Int) = some d7 := by rw [List.length_map]; exact ixN_lt (by omega)
          refine ⟨_, rfl, _, rfl, p, _, (d7 : Int), V.bl fb, rfl, rfl, SqL.h ep7, atI_nat (by rw [List.getElem?_map, ex]; rfl), ?_⟩
          refine ⟨fb, rfl, ?_⟩
          cases fb with
          | false =>
            refine ⟨true, rfl, iteT ?_⟩
            exact ⟨_, rfl, _, rfl, p, _, (d7 : Int), d7, rfl, rfl, ep7, hix, fin _ fun _ => rfl⟩
          | true =>
            refine ⟨false, rfl, iteF ?_⟩
            refine ⟨_, rfl, rfl, ?_⟩
            refine ⟨_, rfl, _, rfl, p, _, (d7 : Int), d7, rfl, rfl, ep7, hix, fin _ fun e => ?_⟩
            subst e
            rfl
        · exact hR _ _ ⟨_, _, fl, rfl, hh06, ep6, hfl, hf1⟩
      rintro σ6 H6 ⟨y5, y6, fl, rfl, hh6, ep, hfl, hf1⟩
      refine ⟨_, rfl, _, rfl, p, _, rfl, SqL.h ep, fun t1 nt1 => ?_⟩
      rw [show (8 : Int) = ((8 : Nat) : Int) from rfl, cut_to, ← List.map_take]
      generalize eH7 : upd H6 t1 _ = H7
      obtain ⟨s7, e7, f7⟩ := new_f nt1 eH7
      refine ⟨t1, _, rfl, .inl ⟨SqL.h e7, fun ah nah => ?_⟩⟩
      generalize eH8 : upd H7 ah _ = H8
      obtain ⟨s8, e8, f8⟩ := new_f nah eH8
      refine ⟨_, rfl, _, rfl, _, rfl, _, _, rfl, rfl, _, rfl, p, _, rfl, SqL.h (s8 _ _ (s7 _ _ ep)), fun t2 nt2 => ?_⟩
      rw [show (((8 : Nat) : Int) + (1 + (d2 : Int))) = ((9 + d2 : Nat) : Int) by omega, cut_mid _ 8 (9 + d2) (by rw [List.length_map]; omega), ← List.map_drop, ← List.map_take]
      generalize eH9 : upd H8 t2 _ = H9
      obtain ⟨s9, e9, f9⟩ := new_f nt2 eH9
      refine ⟨t2, _, rfl, .inl ⟨SqL.h e9, fun ar nar => ?_⟩⟩
      generalize eH10 : upd H9 ar _ = H10
      obtain ⟨s10, e10, f10⟩ := new_f nar eH10
      refine ⟨(by show 3 ≤ sizeLine; decide), fun z nz => ?_⟩
      generalize eH11 : upd H10 z (.tup _) = H11
      obtain ⟨s11, e11, f11⟩ := new_f nz eH11
      have s8_11 := (s9.trans s10).trans s11
      have h1 : (fl.take 8)[1]? = some true := by rw [List.getElem?_take_of_lt (by omega)]; exact hf1
      have hrl : ((fl.drop 8).take (9 + d2 - 8)).length = d2 + 1 := by rw [List.length_take, List.length_drop]; omega
      refine q H11 _ (.raw (fl.take 8) ((fl.drop 8).take (9 + d2 - 8))) (hh6.new ((s7.trans s8).trans s8_11)) ⟨z, ah, .ref ar, rfl, e11, ar, rfl, s8_11 _ _ e8, s11 _ _ e10, by rw [List.length_take]; omega, by omega, by omega, raw_one h1⟩ (raw_one h1)
end
end K8
namespace K8
open PySem PySem.Spec PyProof.Rows L2
/-! ### the law's own table of names -/
structure FdR (H : Hp) (kvs : List (Key × V)) (n : Nat) : Prop where
  ks : ∃ ks : List Str, kvs.map (·.1) = ks.map Sum.inr ∧ ∀ s ∈ ks, nameOk s = true
  len : kvs.length ≤ n
  vals : ∀ s v, valV kvs (Sum.inr s) = some v → ∃ k, KdV H v k ∧ k.depth ≤ 2
theorem FdR.mono {H H' : Hp} (t : Tups H H') {kvs : List (Key × V)} {n : Nat} (h : FdR H kvs n) : FdR H' kvs n := ⟨h.ks, h.len, fun s v e => by
  obtain ⟨k, a, b⟩ := h.vals s v e
  exact ⟨k, a.mono t, b⟩⟩
theorem FdR.le {H : Hp} {kvs : List (Key × V)} {n m : Nat} (h : FdR H kvs n) (e : n ≤ m) : FdR H kvs m := ⟨h.ks, Nat.le_trans h.len e, h.vals⟩
theorem FdR.nil {H : Hp} : FdR H [] 0 := ⟨⟨[], rfl, fun s z => (by cases z)⟩, Nat.le_refl _, fun s v e => (by cases e)⟩
theorem FdR.put {H : Hp} {kvs : List (Key × V)} {n : Nat} {s : Str} {v : V} {k : Kd} (h : FdR H kvs n) (hs : nameOk s = true) (hk : KdV H v k) (hd : k.depth ≤ 2) : FdR H (putK kvs (Sum.inr s) v) (n + 1) := by
  refine ⟨?_, Nat.le_trans (length_putK _ _ _) (Nat.succ_le_succ h.len), fun t x e => ?_⟩
  · obtain ⟨ks, e, hn⟩ := h.ks
    unfold putK
    split
    · refine ⟨ks, ?_, hn⟩
      rw [← e, List.map_map]
      refine List.map_congr_left fun kv _ => ?_
      show (if kv.1 = Sum.inr s then (kv.1, v) else kv).1 = kv.1
      split <;> rfl
    · refine ⟨ks ++ [s], by rw [List.map_append, e, List.map_append]; rfl, fun t ht => ?_⟩
      rcases List.mem_append.mp ht with ht | ht
      · exact hn t ht
      · rw [List.mem_singleton.mp ht]; exact hs
  · rw [valV_put] at e
    split at e
    · cases e
      exact ⟨k, hk, hd⟩
    · exact h.vals t x e
theorem FdR.merge {H : Hp} : ∀ {kvs : List (Key × V)} {kl : List (Str × Kd)} {acc : List (Key × V)} {n : Nat}, Paired (fun (kv : Key × V) (sk : Str × Kd) => kv.1 = Sum.inr sk.1 ∧ KdV H kv.2 sk.2 ∧ sk.2.depth ≤ 3) kvs kl → (∀ sk ∈ kl, nameOk sk.1 = true ∧ sk.2.depth ≤ 2) → FdR H acc n → FdR H (mergeK acc kvs) (n + kl.length)
  | _, _, acc, n, .nil, _, h => h
  | _, _, acc, n, .cons (a := kv) (b := sk) (l₁ := kvs) (l₂ := kl) ⟨e, hk, hd⟩ t, hn, h => by
    have h1 := hn sk (List.mem_cons_self ..)
    have h2 : FdR H (putK acc kv.1 kv.2) (n + 1) := by
      rw [e]
      exact h.put h1.1 hk h1.2
    have h3 := FdR.merge t (fun x hx => hn x (List.mem_cons_of_mem _ hx)) h2
    have e3 : n + 1 + kl.length = n + (sk :: kl).length := by rw [List.length_cons]; omega
    rw [← e3]
    exact h3
theorem FdR.at_ {H : Hp} {kvs : List (Key × V)} {n : Nat} (h : FdR H kvs n) {s : Str} (hs : (Sum.inr s : Key) ∈ kvs.map (·.1)) : ∃ v k, valV kvs (Sum.inr s) = some v ∧ KdV H v k ∧ k.depth ≤ 2 := by
  cases e : valV kvs (Sum.inr s) with
  | none => exact absurd hs (valV_not e)
  | some v =>
    obtain ⟨k, a, b⟩ := h.vals s v e
    exact ⟨v, k, rfl, a, b⟩
def FdV (H : Hp) (d : Addr) (n : Nat) : Prop := ∃ kvs, H d = some (.dK kvs) ∧ FdR H kvs n
section
variable {P : Program} {w : World} {K : PySem.W.Frag} {mg : Str → Option Value} {base : Heap} {f : Addr} {fd : FuncData}
/-! ### _law_known -/
abbrev s_law_known : Stmt := topS 73
abbrev Nlaw_known : List Str := ["_law_hand_here", "_law_many", "_law_names", "_law_name"]
theorem sc_law_known : FnScope Nlaw_known ["_law_hand_here", "_law_many"] (defScope s_law_known) := ⟨rfl, rfl, rfl, by decide +kernel, rfl, by decide +kernel, by decide +kernel⟩
def sp_law_known : Sp := fun vs H Q _ => ∃ (h c : Addr) (n : Nat), vs = [.ref h, natV n] ∧ HandV H h c ∧ n ≤ 9 ∧ ∀ (H' : Hp) (a : Addr) (kl : List (Str × Kd)), Hd h c H H' → KnT H' a kl → kl.length = n → (kl.map (·.1)).Nodup → (∀ sk ∈ kl, nameOk sk.1 = true ∧ sk.2.depth ≤ 2) → Q (.ref a) H'
abbrev lawNames : List Str := ["f", "g", "h", "m", "n", "one", "two", "three", "abcdefgh"]
theorem lawNames_nd : lawNames.Nodup := by decide +kernel
theorem lawNames_ok : ∀ s ∈ lawNames, nameOk s = true := by decide +kernel
theorem ok_law_known (T : Txt mg) (c_law_shuffled : Cl P w K mg base "_law_shuffled" 2 ["_law_hand_here", "_law_things"] sp_law_shuffled) (c_law_kind : Cl P w K mg base "_law_kind" 4 ["_law_hand_here", "_law_deep"] (sp_law_kind 2))
    (F : Fun K "_law_known" "_law_known" s_law_known f fd) : FnOk P w K mg base CX0 5 f fd ["_law_hand_here", "_law_many"] sp_law_known := by
  have nd := sc_law_known.nd
  refine F.ok sc_law_known (fun vs H Q Ex h => ?_) (fun cdv A outer s H vs Q Ex hr h => ?_)
  · obtain ⟨_, _, _, rfl, _⟩ := h
    rfl
  · obtain ⟨h, c, n, rfl, hv, hn, q⟩ := h
    refine ⟨_, pss_cons (ps_set (i := 2) nd rfl (Or.inl rfl) (pe_slice sl_list (pe_cl c_law_shuffled hr (by omega) (pa_cons (pv 0) (pa_cons (pe_lst (pa_cons pe_str (pa_cons pe_str (pa_cons pe_str (pa_cons pe_str (pa_cons pe_str (pa_cons pe_str (pa_cons pe_str (pa_cons pe_str (pa_cons pe_str pa_nil)))))))))) pa_nil))) po_none (po_some (pv 1))))
    (pss_one (ps_ret (pe_callTy call_tupleP (by rfl) T.tuple (by decide +kernel) (pa_cons (pe_lc (own := [("_law_name", 3)]) (g := gName 3) rfl nd (pi_list (pv 2)) (blkOk_by (own := [("_law_name", 3)]) (N := Nlaw_known) (sc := defScope s_law_known) (by decide +kernel)) (fun _ _ _ _ _ => (pg_name (i := 3) nd rfl (Or.inl rfl))) (fun _ _ _ _ _ => pts_nil) (fun _ _ _ _ _ => (pe_tup (pa_cons (pv 3) (pa_cons (pe_cl c_law_kind hr (by omega) (pa_cons (pv 0) (pa_cons pe_int pa_nil))) pa_nil))))) pa_nil)))), ?_⟩
    refine ⟨_, rfl, (by show 9 ≤ sizeLine; decide), fun t nt => ?_⟩
    generalize eH1 : upd H t (.lst _) = H1
    obtain ⟨s1, e1, f1⟩ := new_f nt eH1
    refine ⟨h, c, t, lawNames, rfl, hv.mono s1, e1, hv.nh nt, by decide, fun H2 p ys hperm hh2 np ep => ?_⟩
    have hh02 : Hd h c H H2 := (Hd.of hv s1).trans hh2
    refine ⟨_, rfl, _, rfl, p, _, rfl, SqL.h ep, fun sl nsl => ?_⟩
    rw [cut_to, ← List.map_take]
    generalize eH3 : upd H2 sl (.lst _) = H3
    obtain ⟨s3, e3, f3⟩ := new_f nsl eH3
    have hh3 : Hd h c H H3 := hh02.new s3
    have hyl : ys.length = 9 := hperm.length_eq
    have hnames : ∀ s ∈ ys.take n, nameOk s = true := fun s hs => lawNames_ok s (hperm.subset (List.mem_of_mem_take hs))
    have hnd : (ys.take n).Nodup := (hperm.nodup_iff.mpr lawNames_nd).sublist (List.take_sublist _ _)
    have hlen : (ys.take n).length = n := by rw [List.length_take]; omega
    generalize ys.take n = ns at e3 hnames hnd hlen
    refine ⟨_, rfl, sl, rfl, ⟨_, SqL.h e3⟩, fun D nD => ?_⟩
    have nDh : D ≠ h := hh3.2.nh nD
    refine lc_list (K := K) (a := sl) (xs := ns.map V.str) (fun i H' => Hd h c H3 H' ∧ ∃ (ps : List Addr) (kl : List (Str × Kd)), H' D = some (.lst (ps.map V.ref)) ∧ Paired (PkV H') ps kl ∧ kl.map (·.1) = ns.take i ∧ ∀ sk ∈ kl, nameOk sk.1 = true ∧ sk.2.depth ≤ 2) ⟨Hd.of hh3.2 (same_new _ nD), [], [], upd_same, .nil, rfl, fun sk z => (by cases z)⟩ (fun i H' _ h' => SqL.h (h'.1.mem (hh02.2.nh nsl) e3)) ?_ ?_
    · rintro i x H4 hx ⟨hh4, ps, kl, eD, hpd, hkl, hok⟩
      obtain ⟨m, em, rfl⟩ := str_at hx
      have hml := (List.getElem?_eq_some_iff.mp em).1
      have hmn := hnames m (List.mem_of_getElem? em)
      have hpl : ps.length = i := by
        have h1 := Paired.length hpd
        have h2 := congrArg List.length hkl
        rw [List.length_map, List.length_take] at h2
        omega
      refine ⟨rfl, _, rfl, _, rfl, h, c, 2, rfl, hh4.2, Nat.le_refl _, fun H5 v k hh5 hk hkd => ?_⟩
      refine ⟨(by show 2 ≤ sizeLine; decide), fun T1 nT1 => ?_⟩
      generalize eH6 : upd H5 T1 (.tup _) = H6
      obtain ⟨s6, e6, f6⟩ := new_f nT1 eH6
      have hh6 := hh5.new s6
      have t46 : Tups H4 H6 := hh6.tups hh4.2
      have eD6 := hh6.mem nDh eD
      have t7 : Tups H6 (upd H6 D (.lst (ps.map V.ref ++ [V.ref T1]))) := fun b xs e => by
        rw [upd_ne (ne_of e eD6 (by intro z; cases z))]
        exact e
      refine ⟨_, eD6, by rw [List.length_map]; exact lt60 (by omega), (hh4.trans hh6).mut hh3.2 nD (fun b hb => upd_ne hb), ps ++ [T1], kl ++ [(m, k)], by rw [upd_same, List.map_append]; rfl, ?_, ?_, fun sk hsk => ?_⟩
      · exact (pd_app' (pd_imp (fun _ _ r => r.mono t46) hpd) (.cons ⟨v, e6, hmn, hk.mono s6.tups, (show k.depth ≤ 3 by omega)⟩ .nil)) |> pd_imp fun _ _ r => r.mono t7
      · rw [List.map_append, hkl, List.take_add_one, em]
        rfl
      · rcases List.mem_append.mp hsk with h1 | h1
        · exact hok sk h1
        · rw [List.mem_singleton.mp h1]
          exact ⟨hmn, hkd⟩
    · rintro H4 ⟨hh4, ps, kl, eD, hpd, hkl, hok⟩
      rw [List.length_map, List.take_of_length_le (Nat.le_refl _)] at hkl
      refine ⟨D, _, rfl, SqL.h eD, fun p o np hod => ?_⟩
      have s5 := same_new (HO.frz o (.tup (ps.map V.ref))) np
      refine q _ p kl ((hh3.trans hh4).new s5) ⟨ps, plt_new hod, pd_imp (fun _ _ r => r.mono s5.tups) hpd⟩ ?_ (by rw [hkl]; exact hnd) hok
      have := congrArg List.length hkl
      rw [List.length_map] at this
      omega
/-! ### _law_heads -/
abbrev s_law_heads : Stmt := topS 82
abbrev Nlaw_heads : List Str := ["_law_inner", "_law_end", "_law_deep", "_law_found", "_law_name"]
theorem sc_law_heads : FnScope Nlaw_heads ["_law_inner", "_law_end", "_law_deep"] (defScope s_law_heads) := ⟨rfl, rfl, rfl, by decide +kernel, rfl, by decide +kernel, by decide +kernel⟩
def sp_law_heads : Sp := fun vs H Q _ => ∃ (d : Addr) (e : Int) (n : Nat) (kvs : List (Key × V)) (m : Nat), vs = [.ref d, .int e, natV n] ∧ H d = some (.dK kvs) ∧ FdR H kvs m ∧ m ≤ 60 ∧
  ∀ (H' : Hp) (p : Addr) (xs : List Str), Same H H' → H p = none → H' p = some (.lst (xs.map V.str)) → xs.length ≤ 60 → (∀ s ∈ xs, nameOk s = true ∧ ∃ v k, valV kvs (Sum.inr s) = some v ∧ KdV H v k ∧ k.depth ≤ 2 ∧ (n = 0 → kLefts k = [])) → Q (.ref p) H'
theorem ok_law_heads (T : Txt mg) (c_law_ends : Cl P w K mg base "_law_ends" 1 ["_law_kind_here"] sp_law_ends)
    (F : Fun K "_law_heads" "_law_heads" s_law_heads f fd) : FnOk P w K mg base CX0 2 f fd ["_law_inner", "_law_end", "_law_deep"] sp_law_heads := by
  have nd := sc_law_heads.nd
  refine F.ok sc_law_heads (fun vs H Q Ex h => ?_) (fun cdv A outer s H vs Q Ex hr h => ?_)
  · obtain ⟨_, _, _, _, _, rfl, _⟩ := h
    rfl
  · obtain ⟨d, e, n, kvs, m, rfl, ed, hfd, hm, q⟩ := h
    have hu := hu_of hr
    refine ⟨_, pss_cons (ps_set (i := 3) nd rfl (Or.inl rfl) (pe_lst pa_nil))
    (pss_cons (ps_for PassesOwn.never rfl (pi_list (pe_callB (call_sortedD rfl) (by rfl) T.sorted (by decide +kernel) (pa_cons (pv 0) pa_nil))) (pg_name (i := 4) nd rfl (Or.inl rfl))
      (pss_one (ps_if (PW.pt (pw_and (pt_cmpR op_eq (pe_ix ix_tup (pe_cl c_law_ends hr (by omega) (pa_cons (pe_dget hu (pv 0) (pv 4) (fun _ _ => rfl)) pa_nil)) pe_int (fun _ _ => rfl)) (pv 1) (nomark _)) (pw_and1 (PW.pt (pw_or (pt_cmpR op_gt (pv 2) pe_int (nomark _)) (pw_or1 (pt_not (pt_val (pe_callB call_isi (by rfl) T.isinstance (by decide +kernel) (pa_cons (pe_dget hu (pv 0) (pv 4) (fun _ _ => rfl)) (pa_cons (pe_ty (Ty := "tuple") T.tuple (by decide +kernel)) pa_nil))))))))))) (pss_one (ps_expr (pe_bm PySem.F.plainAttrs_list PySem.F.slot_list_append PySem.F.type_list_append mt_append (pv 3) (pa_cons (pv 4) pa_nil)))) pss_nil)))
    (pss_one (ps_ret (pv 3)))), ?_⟩
    obtain ⟨ks, eks, hks⟩ := hfd.ks
    have hkl : ks.length = kvs.length := by
      have := congrArg List.length eks
      rw [List.length_map, List.length_map] at this
      exact this.symm
    have hlen := hfd.len
    refine ⟨Nat.zero_le _, fun fo nfo => ?_⟩
    generalize eH1 : upd H fo (.lst []) = H1
    obtain ⟨s1, e1, f1⟩ := new_f nfo eH1
    refine ⟨_, rfl, d, kvs, ks, rfl, .inl (s1 _ _ ed), eks, by omega, fun ys p hperm _ np => ?_⟩
    generalize eH2 : upd H1 p (.lst _) = H2
    obtain ⟨s2, e2, f2⟩ := new_f np eH2
    have s02 := s1.trans s2
    have nfp : fo ≠ p := ne_of_none e1 np
    have hyl : ys.length = ks.length := hperm.length_eq
    refine ⟨p, rfl, ⟨_, SqL.h e2⟩, ?_⟩
    refine for_list (K := K) (a := p) (xs := ys.map V.str) (fun i σ H' => ∃ (y4 : Option V) (xs : List Str), σ = [some (.ref d), some (.int e), some (natV n), some (.ref fo), y4] ∧ Same H H' ∧ H' p = some (.lst (ys.map V.str)) ∧ H' fo = some (.lst (xs.map V.str)) ∧ xs.length ≤ i ∧
      ∀ s ∈ xs, nameOk s = true ∧ ∃ v k, valV kvs (Sum.inr s) = some v ∧ KdV H v k ∧ k.depth ≤ 2 ∧ (n = 0 → kLefts k = [])) ⟨none, [], rfl, s02, e2, s2 _ _ e1, Nat.le_refl _, fun s z => (by cases z)⟩ (fun i σ H' _ h' => by obtain ⟨_, _, _, _, e, _⟩ := h'; exact SqL.h e) ?_ ?_
    · rintro i x σ H3 hx ⟨y4, xs, rfl, s3, ep3, ef3, hxl, hxs⟩
      obtain ⟨nm, em, rfl⟩ := str_at hx
      have hil := (List.getElem?_eq_some_iff.mp em).1
      have hnm : nm ∈ ks := hperm.subset (List.mem_of_getElem? em)
      obtain ⟨v, k, ev, hk, hkd⟩ := hfd.at_ (s := nm) (by rw [eks]; exact List.mem_map_of_mem hnm)
      have ed3 := s3 _ _ ed
      have hg3 : ∀ {H' : Hp}, H' d = some (.dK kvs) → DGet H' d (.str nm) (some v) := fun {H'} e' => by
        have := DGet.k (k := Sum.inr nm) e'
        rw [ev] at this
        exact this
      refine ⟨_, rfl, _, rfl, d, v, rfl, hg3 ed3, ?_⟩
      refine ⟨v, k, rfl, hk.mono s3.tups, by omega, fun H4 t lo ls s4 nt et nlo elo hls => ?_⟩
      have s04 := s3.trans s4
      refine ⟨t, _, 1, V.int (kEnd k), rfl, rfl, SqT.h et, rfl, _, rfl, rfl, _, rfl, ?_⟩
      have ef4 := s4 _ _ ef3
      have ep4 := s4 _ _ ep3
      have app : ∀ R : L2.St → Hp → Prop, (n = 0 → kLefts k = []) → (∀ σ' H', (∃ (y4 : Option V) (xs : List Str), σ' = [some (.ref d), some (.int e), some (natV n), some (.ref fo), y4] ∧ Same H H' ∧ H' p = some (.lst (ys.map V.str)) ∧ H' fo = some (.lst (xs.map V.str)) ∧ xs.length ≤ i + 1 ∧
          ∀ s ∈ xs, nameOk s = true ∧ ∃ v k, valV kvs (Sum.inr s) = some v ∧ KdV H v k ∧ k.depth ≤ 2 ∧ (n = 0 → kLefts k = [])) → R σ' H') → tDrop (tBM K "list" rAppend (tVar 3) (tCons (tVar 4) tNil)) { nx := R, ct := R, bk := fun _ _ => False, rt := Q } [some (.ref d), some (.int e), some (natV n), some (.ref fo), some (.str nm)] H4 := by
        intro R h0 hR
        refine ⟨_, rfl, .inl ⟨rfl, _, SqL.h ef4⟩, _, rfl, fo, _, _, rfl, rfl, ef4, by rw [List.length_map]; exact lt60 (by omega), ?_⟩
        generalize eH5 : upd H4 fo _ = H5
        obtain ⟨e5, f5⟩ := mut_f eH5
        refine hR _ _ ⟨_, xs ++ [nm], rfl, s04.mut nfo f5, by rw [f5 _ nfp.symm]; exact ep4, by rw [e5, List.map_append]; rfl, by rw [List.length_append, List.length_singleton]; omega, fun z hz => ?_⟩
        rcases List.mem_append.mp hz with hz | hz
        · exact hxs z hz
        · rw [List.mem_singleton.mp hz]
          exact ⟨hks _ hnm, v, k, ev, hk, hkd, h0⟩
      refine ite2 (fun c1 => ?_) (fun c1 => ?_)
      · refine ⟨_, rfl, _, _, rfl, rfl, _, rfl, ?_⟩
        refine ite2 (fun c2 => ?_) (fun c2 => ?_)
        · have c2' : (0 : Int) < (n : Int) := of_decide_eq_true c2
          exact app _ (fun z => absurd z (by omega)) fun σ' H' h => h
        · refine ⟨_, rfl, _, rfl, d, v, rfl, hg3 (s4 _ _ ed3), ?_⟩
          cases k with
          | leaf z =>
            obtain ⟨rfl, _, _⟩ := hk
            refine ⟨_, _, _, _, false, rfl, .ty _, .base (.int z), isi_int_tuple, false, rfl, iteT ?_⟩
            exact app _ (fun _ => rfl) fun σ' H' h => h
          | pair ka kb =>
            obtain ⟨pp, xa, xb, rfl, epp, ha, hb⟩ := hk
            refine ⟨_, _, _, _, true, rfl, .ty _, .base (.tup (s04 _ _ epp)), isi_tuple_tuple, true, rfl, iteF ?_⟩
            exact ⟨_, xs, rfl, s04, ep4, ef4, by omega, hxs⟩
      · exact ⟨_, xs, rfl, s04, ep4, ef4, by omega, hxs⟩
    · rintro σ H3 ⟨y4, xs, rfl, s3, ep3, ef3, hxl, hxs⟩
      rw [List.length_map] at hxl
      exact ⟨_, rfl, q H3 fo xs s3 nfo ef3 (by omega) hxs⟩
end
end K8
namespace K8
open PySem PySem.Spec PyProof.Rows L2
/-- a drawn program as it lies at a -/
def FtV (H : Hp) (a : Addr) (ws : List W) : Prop := ∃ us, H a = some (.tup us) ∧ WsV H us ws ∧ Wf ws 1
theorem FtV.mono {H H' : Hp} (t : Tups H H') {a : Addr} {ws : List W} (h : FtV H a ws) : FtV H' a ws := by
  obtain ⟨us, e, r, q⟩ := h
  exact ⟨us, t _ _ e, r.mono t, q⟩
theorem pd_ne {α β : Type} {R : α → β → Prop} {xs : List α} {ys : List β} (h : Paired R xs ys) (n : ys ≠ []) : xs ≠ [] := by
  rintro rfl
  cases h
  exact n rfl
theorem cat_at {K : PySem.W.Frag} {H : Hp} {a b : Addr} {xs ys : List V} {Q : VK} (ha : H a = some (.tup xs)) (hb : H b = some (.tup ys)) (hy : ys ≠ []) (hz : xs.length + ys.length ≤ 400)
    (q : ∀ p H', Same H H' → H' p = some (.tup (xs ++ ys)) → Q (.ref p) H') : rCatA K (.ref a) (.ref b) H Q := by
  refine ⟨a, b, xs, ys, rfl, rfl, SqT.h ha, SqT.h hb, Nat.le_of_lt (small1000 (by omega)), fun e => ?_, fun _ e => absurd e hy, fun _ _ p np => ?_⟩
  · refine q b H (fun _ _ e => e) ?_
    rw [e]
    exact hb
  · exact q p _ (same_new _ np) upd_same
section
variable {P : Program} {w : World} {K : PySem.W.Frag} {mg : Str → Option Value} {base : Heap} {f : Addr} {fd : FuncData}
/-- a def that is never asked -/
theorem FnOk.never {k : Nat} {ps : List Str} {sp : Sp} (h : ∀ vs H Q E, ¬ sp vs H Q E) : FnOk P w K mg base CX0 k f fd ps sp :=
  ⟨fun vs H Q E q => absurd q (h vs H Q E), fun A outer s H args us vs Q E _ _ _ _ q => absurd q (h vs H Q E)⟩
/-! ### _law_loose -/
abbrev s_law_loose : Stmt := topS 84
abbrev Nlaw_loose : List Str := ["_law_hand_here", "_law_names", "_law_deep", "_law_kind_here"]
theorem sc_law_loose : FnScope Nlaw_loose ["_law_hand_here", "_law_names", "_law_deep"] (defScope s_law_loose) := ⟨rfl, rfl, rfl, by decide +kernel, rfl, by decide +kernel, by decide +kernel⟩
def sp_law_loose (D : Nat) : Sp := fun vs H Q _ => ∃ (h c t : Addr) (xs : List Str) (d : Nat), vs = [.ref h, .ref t, natV d] ∧ HandV H h c ∧ H t = some (.lst (xs.map V.str)) ∧ t ≠ h ∧ 0 < xs.length ∧ xs.length ≤ 100 ∧ (∀ s ∈ xs, nameOk s = true) ∧ d < D ∧ d ≤ 3 ∧
  ∀ (H' : Hp) (a : Addr) (ws : List W), Hd h c H H' → FtV H' a ws → ws.length + 1 ≤ 2 ^ (d + 1) → Q (.ref a) H'
theorem pw3 {d : Nat} (h : d ≤ 3) : 1 ≤ 2 ^ d ∧ 2 ^ d ≤ 8 := ⟨Nat.one_le_two_pow, Nat.le_trans (Nat.pow_le_pow_right (by decide) h) (by decide)⟩
theorem pwS {d : Nat} (h : d ≠ 0) : 2 ^ d = 2 * 2 ^ (d - 1) := by
  cases d with
  | zero => exact absurd rfl h
  | succ d => rw [Nat.add_sub_cancel, Nat.pow_succ]; omega
theorem str_in {xs : List Str} {x : V} (h : x ∈ xs.map V.str) : ∃ s, s ∈ xs ∧ x = .str s := by
  obtain ⟨s, hs, e⟩ := List.mem_map.mp h
  exact ⟨s, hs, e.symm⟩
theorem ok_law_loose (T : Txt mg) (D : Nat) (c_law_draw : Cl P w K mg base "_law_draw" 1 ["_law_hand_here", "_law_many"] sp_law_draw) (c_law_some : Cl P w K mg base "_law_some" 2 ["_law_hand_here", "_law_things"] sp_law_some)
    (c_law_kind : Cl P w K mg base "_law_kind" 4 ["_law_hand_here", "_law_deep"] (sp_law_kind 2)) (c_law_loose : Cl P w K mg base "_law_loose" (D + 4) ["_law_hand_here", "_law_names", "_law_deep"] (sp_law_loose D))
    (F : Fun K "_law_loose" "_law_loose" s_law_loose f fd) : FnOk P w K mg base CX0 (D + 5) f fd ["_law_hand_here", "_law_names", "_law_deep"] (sp_law_loose (D + 1)) := by
  have nd := sc_law_loose.nd
  refine F.ok sc_law_loose (fun vs H Q Ex h => ?_) (fun cdv A outer s H vs Q Ex hr h => ?_)
  · obtain ⟨_, _, _, _, _, rfl, _⟩ := h
    rfl
  · obtain ⟨h, c, t, xs, d, rfl, hv, et, nth, hl0, hl, hok, hD, hd3, q⟩ := h
    refine ⟨_, pss_cons (ps_set (i := 3) nd rfl (Or.inl rfl) (pe_ifExp (pt_cmpR op_gt (pv 2) pe_int (nomark _)) (pe_cl c_law_draw hr (by omega) (pa_cons (pv 0) (pa_cons pe_int pa_nil))) pe_int))
    (pss_cons (ps_if (pt_cmpR op_eq (pv 3) pe_int (nomark _)) (pss_one (ps_ret (pe_tup (pa_cons (pe_cl c_law_some hr (by omega) (pa_cons (pv 0) (pa_cons (pv 1) pa_nil))) pa_nil)))) pss_nil)
    (pss_cons (ps_if (pt_cmpR op_lt (pv 3) pe_int (nomark _)) (pss_one (ps_ret (pe_op op_catA (pe_op op_catA (pe_tup (pa_cons pe_str pa_nil)) (pe_cl c_law_loose hr (by omega) (pa_cons (pv 0) (pa_cons (pv 1) (pa_cons (pe_op op_sub (pv 2) pe_int) pa_nil))))) (pe_cl c_law_loose hr (by omega) (pa_cons (pv 0) (pa_cons (pv 1) (pa_cons (pe_op op_sub (pv 2) pe_int) pa_nil))))))) pss_nil)
    (pss_one (ps_ret (pe_op op_catA (pe_tup (pa_cons (pe_tup (pa_cons (pe_cl c_law_some hr (by omega) (pa_cons (pv 0) (pa_cons (pv 1) pa_nil))) (pa_cons (pe_cl c_law_kind hr (by omega) (pa_cons (pv 0) (pa_cons pe_int pa_nil))) pa_nil))) pa_nil)) (pe_cl c_law_loose hr (by omega) (pa_cons (pv 0) (pa_cons (pv 1) (pa_cons (pe_op op_sub (pv 2) pe_int) pa_nil))))))))), ?_⟩
    have hp2 : 2 ≤ 2 ^ (d + 1) := by rw [Nat.pow_succ]; have := (pw3 hd3).1; omega
    have some_of : ∀ {H1 : Hp} {σ : L2.St} {R : VK}, Hd h c H H1 → σ[0]? = some (some (.ref h)) → σ[1]? = some (some (.ref t)) → (∀ H2 s, s ∈ xs → Hd h c H H2 → R (.str s) H2) → tCl sp_law_some (tCons (tVar 0) (tCons (tVar 1) tNil)) σ H1 R := by
      intro H1 σ R hh1 e0 e1 hR
      refine ⟨_, e0, _, e1, h, c, t, _, rfl, hh1.2, hh1.mem nth et, nth, by rw [List.length_map]; exact hl0, by rw [List.length_map]; omega, fun H2 x hx hh2 => ?_⟩
      obtain ⟨s, hs, rfl⟩ := str_in hx
      exact hR H2 s hs (hh1.trans hh2)
    have loose_of : ∀ {H1 : Hp} {σ : L2.St} {R : VK}, d ≠ 0 → Hd h c H H1 → σ[0]? = some (some (.ref h)) → σ[1]? = some (some (.ref t)) → σ[2]? = some (some (natV d)) → (∀ H2 a ws, Hd h c H H2 → Hd h c H1 H2 → FtV H2 a ws → ws.length + 1 ≤ 2 ^ d → R (.ref a) H2) → tCl (sp_law_loose D) (tCons (tVar 0) (tCons (tVar 1) (tCons (tOp (rI0 fun i j => .int (i - j)) (tVar 2) (tC (.int 1))) tNil))) σ H1 R := by
      intro H1 σ R hd0 hh1 e0 e1 e2 hR
      refine ⟨_, e0, _, e1, _, e2, _, _, rfl, rfl, h, c, t, xs, d - 1, ?_, hh1.2, hh1.mem nth et, nth, hl0, hl, hok, by omega, by omega, fun H2 a ws hh2 hw hb => hR H2 a ws (hh1.trans hh2) hh2 hw ?_⟩
      · show [V.ref h, V.ref t, V.int ((d : Int) - 1)] = [V.ref h, V.ref t, V.int ((d - 1 : Nat) : Int)]
        rw [show ((d : Int) - 1) = ((d - 1 : Nat) : Int) by omega]
      · rw [show d - 1 + 1 = d by omega] at hb
        exact hb
    have h8 := pw3 hd3
    refine seq_mid (fun σ' H' => ∃ k : Nat, σ' = [some (.ref h), some (.ref t), some (natV d), some (natV k)] ∧ Hd h c H H' ∧ (d = 0 → k = 0)) ?_ fun R hR => ?_
    rotate_left
    · refine ⟨_, rfl, _, _, rfl, rfl, _, rfl, ?_⟩
      refine ite2 (fun c1 => ?_) (fun c1 => ?_)
      · have c1' : (0 : Int) < (d : Int) := of_decide_eq_true c1
        exact ⟨_, rfl, h, c, 4, rfl, hv, by omega, by omega, fun H1 k _ hh1 => hR _ _ ⟨k, rfl, hh1, fun z => absurd z (by omega)⟩⟩
      · exact hR _ _ ⟨0, rfl, Hd.refl hv, fun _ => rfl⟩
    rintro σ1 H1 ⟨k, rfl, hh1, hk0⟩
    refine ⟨_, rfl, rfl, _, rfl, ?_⟩
    refine ite2 (fun c1 => ?_) (fun c1 => ?_)
    · refine some_of hh1 rfl rfl fun H2 s hs hh2 => ⟨(by show 1 ≤ sizeLine; decide), fun p np => ?_⟩
      generalize eH3 : upd H2 p (.tup _) = H3
      obtain ⟨s3, e3, f3⟩ := new_f np eH3
      exact q H3 p [.name s] (hh2.new s3) ⟨_, e3, .cons ⟨rfl, hok s hs⟩ .nil, Wf.one_name s⟩ hp2
    · have hk : k ≠ 0 := fun z => c1 (decide_eq_true (by rw [z]; rfl))
      have hd0 : d ≠ 0 := fun z => hk (hk0 z)
      have e2 := pwS hd0
      refine ⟨_, rfl, _, _, rfl, rfl, _, rfl, ?_⟩
      refine ite2 (fun c2 => ?_) (fun c2 => ?_)
      · refine ⟨(by show 1 ≤ sizeLine; decide), fun p np => ?_⟩
        generalize eH2 : upd H1 p (.tup _) = H2
        obtain ⟨s2, ep2, f2⟩ := new_f np eH2
        refine loose_of hd0 (hh1.new s2) rfl rfl rfl fun H3 a1 w1 hh3 hh23 hw1 hb1 => ?_
        obtain ⟨u1, eu1, hu1, hf1⟩ := id hw1
        have hul := Paired.length hu1
        have ep3 : H3 p = some (.tup [V.str "@"]) := hh23.mem (hh1.2.nh np) ep2
        refine cat_at ep3 eu1 (pd_ne hu1 hf1.ne) (by rw [List.length_singleton]; omega) fun p2 H4 s4 ep4 => ?_
        have hu4 := hu1.mono s4.tups
        refine loose_of hd0 (hh3.new s4) rfl rfl rfl fun H5 a2 w2 hh5 hh45 hw2 hb2 => ?_
        obtain ⟨u2, eu2, hu2, hf2⟩ := id hw2
        have hul2 := Paired.length hu2
        have t45 : Tups H4 H5 := hh45.tups (hh3.2.mono s4)
        refine cat_at (t45 _ _ ep4) eu2 (pd_ne hu2 hf2.ne) (by rw [List.length_append, List.length_singleton]; omega) fun p3 H6 s6 ep6 => ?_
        refine q H6 p3 (.use :: (w1 ++ w2)) (hh5.new s6) ⟨_, ep6, ?_, Wf.one_use hf1 hf2⟩ ?_
        · exact .cons rfl (pd_app' (hu4.mono (t45.trans s6.tups)) (hu2.mono s6.tups))
        · rw [List.length_cons, List.length_append, Nat.pow_succ]
          omega
      · refine some_of hh1 rfl rfl fun H2 s hs hh2 => ⟨_, rfl, h, c, 1, rfl, hh2.2, by omega, fun H3 v kk hh3 hkv hkd => ?_⟩
        refine ⟨(by show 2 ≤ sizeLine; decide), fun p np => ?_⟩
        generalize eH4 : upd H3 p (.tup _) = H4
        obtain ⟨s4, e4, f4⟩ := new_f np eH4
        refine ⟨(by show 1 ≤ sizeLine; decide), fun p2 np2 => ?_⟩
        generalize eH5 : upd H4 p2 (.tup _) = H5
        obtain ⟨s5, e5, f5⟩ := new_f np2 eH5
        have hh5 : Hd h c H H5 := ((hh2.trans hh3).new s4).new s5
        refine loose_of hd0 hh5 rfl rfl rfl fun H6 a1 w1 hh6 hh56 hw1 hb1 => ?_
        obtain ⟨u1, eu1, hu1, hf1⟩ := id hw1
        have hul := Paired.length hu1
        have t56 : Tups H5 H6 := hh56.tups hh5.2
        refine cat_at (t56 _ _ e5) eu1 (pd_ne hu1 hf1.ne) (by rw [List.length_singleton]; omega) fun p3 H7 s7 ep7 => ?_
        refine q H7 p3 (.take s kk :: w1) (hh6.new s7) ⟨_, ep7, ?_, Wf.one_take s kk hf1⟩ ?_
        · have t47 : Tups H4 H7 := (s5.tups.trans t56).trans s7.tups
          exact .cons ⟨p, v, rfl, t47 _ _ e4, hok s hs, hkv.mono (s4.tups.trans t47), by omega⟩ (hu1.mono s7.tups)
        · rw [List.length_cons, Nat.pow_succ]
          omega
end
end K8
namespace K8
open PySem PySem.Spec PyProof.Rows L2
section
variable {P : Program} {w : World} {K : PySem.W.Frag} {mg : Str → Option Value} {base : Heap} {f : Addr} {fd : FuncData}
/-! ### _law_fit -/
abbrev s_law_fit : Stmt := topS 83
abbrev Nlaw_fit : List Str := ["_law_hand_here", "_law_known_here", "_law_kind_here", "_law_deep", "_law_inner", "_law_taken", "_law_left", "_law_some_here", "_law_name", "_law_found", "_law_lefts", "_law_end", "_law_wider", "_law_body"]
theorem sc_law_fit : FnScope Nlaw_fit ["_law_hand_here", "_law_known_here", "_law_kind_here", "_law_deep"] (defScope s_law_fit) := ⟨rfl, rfl, rfl, by decide +kernel, rfl, by decide +kernel, by decide +kernel⟩
def sp_law_fit (D : Nat) : Sp := fun vs H Q _ => ∃ (h c d : Addr) (v : V) (k : Kd) (n m : Nat), vs = [.ref h, .ref d, v, natV n] ∧ HandV H h c ∧ FdV H d m ∧ m + 4 * n ≤ 40 ∧ KdV H v k ∧ k.depth ≤ 2 ∧ n < D ∧ n ≤ 3 ∧
  ∀ (H' : Hp) (a : Addr) (ws : List W), Hd h c H H' → FtV H' a ws → ws.length + 5 ≤ 8 * 2 ^ n → Q (.ref a) H'
theorem ok6 : ∀ s ∈ (["x", "y", "z", "x", "u", "v"] : List Str), nameOk s = true := by decide +kernel
theorem ok3 : ∀ s ∈ (["x", "y", "q"] : List Str), nameOk s = true := by decide +kernel
theorem okw : nameOk "w" = true := by decide +kernel
theorem tups_putK {H H1 : Hp} {q : Addr} {xs : List (Key × V)} (hq : H q = some (.dK xs)) (f : ∀ b, b ≠ q → H1 b = H b) : Tups H H1 := tups_butK hq (but_of f)
theorem ok_law_fit (T : Txt mg) (D : Nat) (c_law_draw : Cl P w K mg base "_law_draw" 1 ["_law_hand_here", "_law_many"] sp_law_draw) (c_law_some : Cl P w K mg base "_law_some" 2 ["_law_hand_here", "_law_things"] sp_law_some)
    (c_law_kind : Cl P w K mg base "_law_kind" 4 ["_law_hand_here", "_law_deep"] (sp_law_kind 2)) (c_law_ends : Cl P w K mg base "_law_ends" 1 ["_law_kind_here"] sp_law_ends) (c_law_heads : Cl P w K mg base "_law_heads" 2 ["_law_inner", "_law_end", "_law_deep"] sp_law_heads)
    (c_law_fit : Cl P w K mg base "_law_fit" (D + 4) ["_law_hand_here", "_law_known_here", "_law_kind_here", "_law_deep"] (sp_law_fit D))
    (F : Fun K "_law_fit" "_law_fit" s_law_fit f fd) : FnOk P w K mg base CX0 (D + 5) f fd ["_law_hand_here", "_law_known_here", "_law_kind_here", "_law_deep"] (sp_law_fit (D + 1)) := by
  have nd := sc_law_fit.nd
  refine F.ok sc_law_fit (fun vs H Q Ex h => ?_) (fun cdv A outer s H vs Q Ex hr h => ?_)
  · obtain ⟨_, _, _, _, _, _, _, rfl, _⟩ := h
    rfl
  · obtain ⟨h, c, d, v, k, n, m, rfl, hv, ⟨kvs, ed, hfd⟩, hm, hk, hk2, hD, hn3, q⟩ := h
    have hu := hu_of hr
    refine ⟨_, pss_cons (ps_asg (pe_cl c_law_ends hr (by omega) (pa_cons (pv 2) pa_nil)) (pg_tup rfl (pgs_cons (pg_name (i := 10) nd rfl (Or.inl rfl)) (pgs_cons (pg_name (i := 11) nd rfl (Or.inl rfl)) pgs_nil))))
    (pss_cons (ps_set (i := 4) nd rfl (Or.inl rfl) (pe_callTy call_dictD (by rfl) T.dict (by decide +kernel) (pa_cons (pv 1) pa_nil)))
    (pss_cons (ps_set (i := 5) nd rfl (Or.inl rfl) (pe_tup pa_nil))
    (pss_cons (ps_for PassesOwn.never rfl (pi_list (pv 10)) (pg_name (i := 6) nd rfl (Or.inl rfl))
      (pss_cons (ps_set (i := 8) nd rfl (Or.inl rfl) (pe_cl c_law_some hr (by omega) (pa_cons (pv 0) (pa_cons (pe_lst (pa_cons pe_str (pa_cons pe_str (pa_cons pe_str (pa_cons pe_str (pa_cons pe_str (pa_cons pe_str pa_nil))))))) pa_nil))))
      (pss_cons (ps_set (i := 5) nd rfl (Or.inl rfl) (pe_op op_catA (pv 5) (pe_tup (pa_cons (pe_tup (pa_cons (pv 8) (pa_cons (pv 6) pa_nil))) pa_nil))))
      (pss_one (ps_dput hu (pv 4) (pv 8) (pv 6) rfl)))))
    (pss_cons (ps_set (i := 7) nd rfl (Or.inl rfl) (pe_cl c_law_heads hr (by omega) (pa_cons (pv 4) (pa_cons (pv 11) (pa_cons (pv 3) pa_nil)))))
    (pss_cons (ps_if (pt_cmpR op_eq (pe_callB call_len_seq (by rfl) T.len (by decide +kernel) (pa_cons (pv 7) pa_nil)) pe_int (nomark _)) (pss_one (ps_ret (pe_op op_catA (pv 5) (pe_tup (pa_cons (pe_cl c_law_some hr (by omega) (pa_cons (pv 0) (pa_cons (pe_op op_cat (pe_callB (call_sortedD rfl) (by rfl) T.sorted (by decide +kernel) (pa_cons (pv 4) pa_nil)) (pe_lst (pa_cons pe_str pa_nil))) pa_nil))) pa_nil))))) pss_nil)
    (pss_cons (ps_set (i := 8) nd rfl (Or.inl rfl) (pe_cl c_law_some hr (by omega) (pa_cons (pv 0) (pa_cons (pv 7) pa_nil))))
    (pss_cons (ps_set (i := 9) nd rfl (Or.inl rfl) (pe_tup (pa_cons (pv 8) pa_nil)))
    (pss_cons (ps_for PassesOwn.never rfl (pi_list (pe_ix ix_tup (pe_cl c_law_ends hr (by omega) (pa_cons (pe_dget hu (pv 4) (pv 8) (fun _ _ => rfl)) pa_nil)) pe_int (fun _ _ => rfl))) (pg_name (i := 6) nd rfl (Or.inl rfl))
      (pss_one (ps_set (i := 9) nd rfl (Or.inl rfl) (pe_op op_catA (pe_op op_catA (pe_tup (pa_cons pe_str pa_nil)) (pv 9)) (pe_cl c_law_fit hr (by omega) (pa_cons (pv 0) (pa_cons (pv 4) (pa_cons (pv 6) (pa_cons (pe_op op_sub (pv 3) pe_int) pa_nil)))))))))
    (pss_cons (ps_if (PW.pt (pw_and (pt_cmpR op_gt (pv 3) pe_int (nomark _)) (pw_and1 (pt_cmpR op_eq (pe_cl c_law_draw hr (by omega) (pa_cons (pv 0) (pa_cons pe_int pa_nil))) pe_int (nomark _))))) (pss_cons (ps_par (i := 8) (j := 6) (by rfl) nd rfl rfl (by decide) rfl rfl (pa_cons (pe_cl c_law_some hr (by omega) (pa_cons (pv 0) (pa_cons (pe_lst (pa_cons pe_str (pa_cons pe_str (pa_cons pe_str pa_nil)))) pa_nil))) (pa_cons (pe_cl c_law_kind hr (by omega) (pa_cons (pv 0) (pa_cons pe_int pa_nil))) pa_nil)) (by rfl))
      (pss_cons (ps_set (i := 12) nd rfl (Or.inl rfl) (pe_callTy call_dictD (by rfl) T.dict (by decide +kernel) (pa_cons (pv 4) pa_nil)))
      (pss_cons (ps_dput hu (pv 12) (pv 8) (pv 6) rfl)
      (pss_cons (ps_set (i := 13) nd rfl (Or.inl rfl) (pe_cl c_law_fit hr (by omega) (pa_cons (pv 0) (pa_cons (pv 12) (pa_cons (pv 11) (pa_cons (pe_op op_sub (pv 3) pe_int) pa_nil))))))
      (pss_one (ps_set (i := 9) nd rfl (Or.inl rfl) (pe_op op_catA (pe_op op_catA (pe_tup (pa_cons pe_str (pa_cons (pe_tup (pa_cons (pv 8) (pa_cons (pv 6) pa_nil))) pa_nil))) (pv 13)) (pe_cl c_law_fit hr (by omega) (pa_cons (pv 0) (pa_cons (pv 4) (pa_cons (pv 6) (pa_cons (pe_op op_sub (pv 3) pe_int) pa_nil)))))))))))) pss_nil)
    (pss_one (ps_ret (pe_op op_catA (pv 5) (pv 9))))))))))))), ?_⟩
    have hB := pw3 (d := n - 1) (by omega)
    have hn8 := pw3 hn3
    generalize eB : 8 * 2 ^ (n - 1) = B at *
    have hB8 : 8 ≤ B ∧ B ≤ 64 := by omega
    have eN : n ≠ 0 → 8 * 2 ^ n = 2 * B := fun z => by rw [pwS z]; omega
    refine ⟨_, rfl, v, k, rfl, hk, by omega, fun H1 t lo ls s1 nt et nlo elo hls => ?_⟩
    refine ⟨t, _, rfl, SqT.h et, rfl, _, _, rfl, _, _, rfl, rfl, ?_⟩
    refine ⟨_, rfl, d, kvs, rfl, .inl (s1 _ _ ed), fun inn ninn => ?_⟩
    generalize eH2 : upd H1 inn (.dK kvs) = H2
    obtain ⟨s2, e2, f2⟩ := new_f ninn eH2
    refine ⟨Nat.zero_le _, fun tk0 ntk0 => ?_⟩
    generalize eH3 : upd H2 tk0 (.tup []) = H3
    obtain ⟨s3, e3, f3⟩ := new_f ntk0 eH3
    have s03 := (s1.trans s2).trans s3
    have ninn0 : H inn = none := s1.free ninn
    have nih : inn ≠ h := hv.nh ninn0
    have hll : ls.length = (kLefts k).length := Paired.length hls
    have hl2 : ls.length ≤ 2 := by have := kLefts_len k; omega
    have nlh : lo ≠ h := hv.nh nlo
    -- the lefts
    refine ⟨_, rfl, lo, rfl, ⟨_, SqL.h (s3 _ _ (s2 _ _ elo))⟩, ?_⟩
    refine for_list (K := K) (a := lo) (xs := ls) (fun i σ H' => ∃ (tk : Addr) (us : List V) (tws : List W) (kv : List (Key × V)) (y6 y8 : Option V), σ = [some (.ref h), some (.ref d), some v, some (natV n), some (.ref inn), some (.ref tk), y6, none, y8, none, some (.ref lo), some (.int (kEnd k)), none, none] ∧
      Hd h c H H' ∧ H' lo = some (.lst ls) ∧ Paired (KdV H') ls (kLefts k) ∧ H' tk = some (.tup us) ∧ WsV H' us tws ∧ (∀ r, Wf r 1 → Wf (tws ++ r) 1) ∧ tws.length = i ∧ H' inn = some (.dK kv) ∧ FdR H' kv (m + i))
      ⟨tk0, [], [], kvs, none, none, rfl, Hd.of hv s03, s3 _ _ (s2 _ _ elo), pd_imp (fun _ _ r => r.mono (s2.trans s3).tups) hls, e3, .nil, fun r hr => hr, rfl, s3 _ _ e2, hfd.mono s03.tups⟩ (fun i σ H' _ h' => by obtain ⟨_, _, _, _, _, _, _, _, e, _⟩ := h'; exact SqL.h e) ?_ ?_
    · rintro i x σ H4 hx ⟨tk, us, tws, kv, y6, y8, rfl, hh4, el4, hls4, etk, hus, hwf, htl, ein, hfd4⟩
      obtain ⟨kk, ekk, hxk⟩ := pd_at_left hls4 hx
      have hkkd := kLefts_depth k kk (List.mem_of_getElem? ekk)
      have hil := (List.getElem?_eq_some_iff.mp hx).1
      refine ⟨_, rfl, (by show 6 ≤ sizeLine; decide), fun t5 nt5 => ?_⟩
      generalize eH5 : upd H4 t5 (.lst _) = H5
      obtain ⟨s5, e5, f5⟩ := new_f nt5 eH5
      refine ⟨h, c, t5, _, rfl, hh4.2.mono s5, e5, hh4.2.nh nt5, (by show 0 < 6; decide), (by show 6 ≤ 1000; decide), fun H6 y hy hh6 => ?_⟩
      obtain ⟨nm, hnm, rfl⟩ := str_in (xs := ["x", "y", "z", "x", "u", "v"]) hy
      have hok := ok6 nm hnm
      have hh46 : Hd h c H4 H6 := (Hd.of hh4.2 s5).trans hh6
      have t46 := hh46.tups hh4.2
      have hh06 := hh4.trans hh46
      refine ⟨_, rfl, _, rfl, _, rfl, (by show 2 ≤ sizeLine; decide), fun t7 nt7 => ?_⟩
      generalize eH7 : upd H6 t7 (.tup _) = H7
      obtain ⟨s7, e7, f7⟩ := new_f nt7 eH7
      refine ⟨(by show 1 ≤ sizeLine; decide), fun t8 nt8 => ?_⟩
      generalize eH8 : upd H7 t8 (.tup _) = H8
      obtain ⟨s8, e8, f8⟩ := new_f nt8 eH8
      have t48 : Tups H4 H8 := (t46.trans s7.tups).trans s8.tups
      have hul := Paired.length hus
      refine cat_at (t48 _ _ etk) e8 (by simp) (by rw [List.length_singleton]; omega) fun tk9 H9 s9 e9 => ?_
      have hh49 : Hd h c H4 H9 := ((hh46.new s7).new s8).new s9
      have t49 := t48.trans s9.tups
      have hh09 := hh4.trans hh49
      have ein9 := hh49.mem nih ein
      refine ⟨_, rfl, _, rfl, _, rfl, inn, _, rfl, DPut.k (k := Sum.inr nm) ein9 (by have := hfd4.len; exact lt60 (by omega)), ?_⟩
      generalize eH10 : upd H9 inn (.dK _) = H10
      obtain ⟨e10, f10⟩ := mut_f eH10
      have t910 : Tups H9 H10 := tups_putK ein9 f10
      have t410 := t49.trans t910
      have nil_ : lo ≠ inn := ne_of el4 ein (by intro z; cases z)
      refine ⟨tk9, _, tws ++ [.take nm kk], _, _, _, rfl, hh09.mut hv ninn0 f10, ?_, pd_imp (fun _ _ r => r.mono t410) hls4, t910 _ _ e9, ?_, fun r hr => ?_, by rw [List.length_append, List.length_singleton]; omega, e10, ?_⟩
      · rw [f10 _ nil_]
        exact hh49.mem nlh el4
      · refine pd_app' (hus.mono t410) (.cons (show WdV H10 (.ref t7) (.take nm kk) from ⟨t7, x, rfl, ?_, hok, hxk.mono t410, by omega⟩) .nil)
        exact t910 _ _ (s9.tups _ _ (s8.tups _ _ e7))
      · rw [List.append_assoc]
        exact hwf _ (Wf.one_take nm kk hr)
      · exact (hfd4.mono t410).put hok (hxk.mono t410) (by omega)
    · rintro σ H4 ⟨tk, us, tws, kv, y6, y8, rfl, hh4, el4, hls4, etk, hus, hwf, htl, ein, hfd4⟩
      have hke := kEnd_ok k v hk
      have nlen : kv.length ≤ m + 2 := by have := hfd4.len; omega
      have hfd4' : FdR H4 kv (m + 2) := hfd4.le (by omega)
      have hul := Paired.length hus
      have htk2 : tws.length ≤ 2 := by omega
      have hpre : ∀ {H' : Hp} {fa : Addr} {fws : List W} {σ' : L2.St}, Hd h c H H' → H' tk = some (.tup us) → WsV H' us tws → σ'[5]? = some (some (.ref tk)) → σ'[9]? = some (some (.ref fa)) → FtV H' fa fws → tws.length + fws.length + 5 ≤ 8 * 2 ^ n →
          tOp (rCatA K) (tVar 5) (tVar 9) σ' H' Q := by
        intro H' fa fws σ' hh' etk' hus' e5 e9 hf hb
        obtain ⟨u1, eu1, hu1, hf1⟩ := hf
        have hul1 := Paired.length hu1
        refine ⟨_, e5, _, e9, cat_at etk' eu1 (pd_ne hu1 hf1.ne) (by omega) fun p H'' s'' ep => ?_⟩
        refine q H'' p (tws ++ fws) (hh'.new s'') ⟨_, ep, pd_app' (hus'.mono s''.tups) (hu1.mono s''.tups), hwf _ hf1⟩ ?_
        rw [List.length_append]
        omega
      -- the heads
      refine ⟨_, rfl, _, rfl, _, rfl, inn, kEnd k, n, kv, m + 2, rfl, ein, hfd4', by omega, fun H5 hd5 xs s5 nhd5 ehd5 hxl hxs => ?_⟩
      have hh5 := hh4.new s5
      refine ⟨_, rfl, hd5, _, rfl, .inl (SqL.h ehd5), rfl, ?_⟩
      by_cases hx0 : xs = []
      · subst hx0
        refine ⟨true, rfl, iteT ?_⟩
        obtain ⟨ks, eks, hks⟩ := hfd4.ks
        have hkl : ks.length = kv.length := by
          have := congrArg List.length eks
          rw [List.length_map, List.length_map] at this
          exact this.symm
        refine ⟨_, rfl, _, rfl, _, rfl, inn, kv, ks, rfl, .inl (s5 _ _ ein), eks, by omega, fun ys p hperm _ np => ?_⟩
        generalize eH6 : upd H5 p (.lst _) = H6
        obtain ⟨s6, e6, f6⟩ := new_f np eH6
        have hyl : ys.length = ks.length := hperm.length_eq
        refine ⟨(by show 1 ≤ sizeLine; decide), fun p2 np2 => ?_⟩
        generalize eH7 : upd H6 p2 (.lst _) = H7
        obtain ⟨s7, e7, f7⟩ := new_f np2 eH7
        refine ⟨p, p2, _, _, rfl, rfl, s7 _ _ e6, e7, by rw [List.length_map, List.length_singleton]; exact le60 (by omega), fun p3 np3 => ?_⟩
        generalize eH8 : upd H7 p3 (.lst _) = H8
        obtain ⟨s8, e8, f8⟩ := new_f np3 eH8
        have s58 := (s6.trans s7).trans s8
        have hh8 := hh5.new s58
        refine ⟨h, c, p3, _, rfl, hh8.2, e8, (hh5.new (s6.trans s7)).2.nh np3, by rw [List.length_append, List.length_singleton]; omega, by rw [List.length_append, List.length_singleton, List.length_map]; omega, fun H9 y hy hh9 => ?_⟩
        have hy' : ∃ s, nameOk s = true ∧ y = V.str s := by
          rcases List.mem_append.mp hy with hy | hy
          · obtain ⟨s, hs, e⟩ := str_in hy
            exact ⟨s, hks s (hperm.subset hs), e⟩
          · exact ⟨"w", okw, List.mem_singleton.mp hy⟩
        obtain ⟨s, hs, rfl⟩ := hy'
        refine ⟨(by show 1 ≤ sizeLine; decide), fun p4 np4 => ?_⟩
        generalize eH10 : upd H9 p4 (.tup _) = H10
        obtain ⟨s10, e10, f10⟩ := new_f np4 eH10
        have t410 : Tups H4 H10 := ((s5.trans s58).tups.trans (hh9.tups hh8.2)).trans s10.tups
        refine cat_at (t410 _ _ etk) e10 (by simp) (by rw [List.length_singleton]; omega) fun p5 H11 s11 e11 => ?_
        refine q H11 p5 (tws ++ [.name s]) (((hh8.trans hh9).new s10).new s11) ⟨_, e11, pd_app' (hus.mono (t410.trans s11.tups)) (.cons (show WdV H11 (.str s) (.name s) from ⟨rfl, hs⟩) .nil), hwf _ (Wf.one_name s)⟩ ?_
        rw [List.length_append, List.length_singleton]
        by_cases h0 : n = 0
        · subst h0; omega
        · rw [eN h0]; omega
      have hxpos : 0 < xs.length := List.length_pos_iff.mpr hx0
      refine ⟨false, eF (fun z => by have := V.int.inj z; rw [List.length_map] at this; omega), iteF ?_⟩
      -- the head
      refine ⟨_, rfl, _, rfl, h, c, hd5, _, rfl, hh5.2, ehd5, hh4.2.nh nhd5, by rw [List.length_map]; exact hxpos, by rw [List.length_map]; omega, fun H6 y hy hh56 => ?_⟩
      obtain ⟨nm, hnm, rfl⟩ := str_in hy
      obtain ⟨hnok, v2, k2, ev2, hk2v, hk2d, hk20⟩ := hxs nm hnm
      have hh6 := hh5.trans hh56
      refine ⟨_, rfl, (by show 1 ≤ sizeLine; decide), fun f0 nf0 => ?_⟩
      generalize eH7 : upd H6 f0 (.tup _) = H7
      obtain ⟨s7, e7, f7⟩ := new_f nf0 eH7
      have hh7 := hh6.new s7
      have t47 : Tups H4 H7 := (s5.tups.trans (hh56.tups hh5.2)).trans s7.tups
      have ein7 : H7 inn = some (.dK kv) := s7 _ _ (hh56.mem nih (s5 _ _ ein))
      refine ⟨_, rfl, _, rfl, inn, v2, rfl, (by have := DGet.k (k := Sum.inr nm) ein7; rw [ev2] at this; exact this), ?_⟩
      refine ⟨v2, k2, rfl, hk2v.mono t47, by omega, fun H8 t8 lo2 ls2 s8 nt8 et8 nlo2 elo2 hls2 => ?_⟩
      have hh8 := hh7.new s8
      have nlo2h : lo2 ≠ h := hh7.2.nh nlo2
      refine ⟨t8, _, 0, V.ref lo2, rfl, rfl, SqT.h et8, rfl, lo2, rfl, ⟨_, SqL.h elo2⟩, ?_⟩
      have hll2 : ls2.length = (kLefts k2).length := Paired.length hls2
      have hl22 : ls2.length ≤ 2 := by have := kLefts_len k2; omega
      have hl20 : n = 0 → ls2 = [] := fun z => List.eq_nil_of_length_eq_zero (by rw [hll2, hk20 z]; rfl)
      have t48 := t47.trans s8.tups
      have en1 : n ≠ 0 → (n : Int) - 1 = ((n - 1 : Nat) : Int) := fun z => by omega
      refine for_list (K := K) (a := lo2) (xs := ls2) (fun i σ H' => ∃ (fa : Addr) (fws : List W) (y6 : Option V), σ = [some (.ref h), some (.ref d), some v, some (natV n), some (.ref inn), some (.ref tk), y6, some (.ref hd5), some (.str nm), some (.ref fa), some (.ref lo), some (.int (kEnd k)), none, none] ∧
        Hd h c H H' ∧ H' lo2 = some (.lst ls2) ∧ Paired (KdV H') ls2 (kLefts k2) ∧ Tups H4 H' ∧ H' inn = some (.dK kv) ∧ FtV H' fa fws ∧ fws.length + 4 * i ≤ 1 + B * i)
        ⟨f0, [.name nm], _, rfl, hh8, elo2, hls2, t48, s8 _ _ ein7, ⟨_, s8 _ _ e7, .cons ⟨rfl, hnok⟩ .nil, Wf.one_name nm⟩, by simp⟩ (fun i σ H' _ h' => by obtain ⟨_, _, _, _, _, e, _⟩ := h'; exact SqL.h e) ?_ ?_
      · rintro i x σ H9 hx ⟨fa, fws, y6, rfl, hh9, el9, hls9, t49, ein9, hft, hbd⟩
        obtain ⟨kk, ekk, hxk⟩ := pd_at_left hls9 hx
        have hkkd := kLefts_depth k2 kk (List.mem_of_getElem? ekk)
        have hil := (List.getElem?_eq_some_iff.mp hx).1
        have hn0 : n ≠ 0 := fun z => by rw [hl20 z] at hil; exact absurd hil (Nat.not_lt_zero _)
        obtain ⟨u1, eu1, hu1, hf1⟩ := id hft
        have hul1 := Paired.length hu1
        have hi2 : i = 0 ∨ i = 1 := by omega
        have hfl : fws.length ≤ 1 + B := by rcases hi2 with rfl | rfl <;> omega
        refine ⟨(by show 1 ≤ sizeLine; decide), fun p np => ?_⟩
        generalize eH10 : upd H9 p (.tup _) = H10
        obtain ⟨s10, e10, f10⟩ := new_f np eH10
        refine ⟨_, rfl, ?_⟩
        refine cat_at e10 (s10 _ _ eu1) (pd_ne hu1 hf1.ne) (by rw [List.length_singleton]; omega) fun p2 H11 s11 e11 => ?_
        have s911 := s10.trans s11
        have hh11 := hh9.new s911
        refine ⟨_, rfl, _, rfl, _, rfl, _, rfl, _, _, rfl, rfl, h, c, inn, x, kk, n - 1, m + 2, ?_, hh11.2, ⟨kv, s911 _ _ ein9, hfd4'.mono (t49.trans s911.tups)⟩, by omega, hxk.mono s911.tups, by omega, by omega, by omega, fun H12 a2 w2 hh12 hw2 hb2 => ?_⟩
        · show [V.ref h, V.ref inn, x, V.int ((n : Int) - 1)] = _
          rw [en1 hn0]
        rw [eB] at hb2
        obtain ⟨u2, eu2, hu2, hf2⟩ := id hw2
        have hul2 := Paired.length hu2
        have t1112 := hh12.tups hh11.2
        refine cat_at (t1112 _ _ e11) eu2 (pd_ne hu2 hf2.ne) (by rw [List.length_append, List.length_singleton]; omega) fun p3 H13 s13 e13 => ?_
        have t913 := (s911.tups.trans t1112).trans s13.tups
        refine ⟨p3, .use :: (fws ++ w2), _, rfl, (hh11.trans hh12).new s13, s13 _ _ (hh12.mem nlo2h (s911 _ _ el9)), pd_imp (fun _ _ r => r.mono t913) hls9, t49.trans t913, s13 _ _ (hh12.mem nih (s911 _ _ ein9)), ⟨_, e13, ?_, Wf.one_use hf1 hf2⟩, ?_⟩
        · exact .cons rfl (pd_app' (hu1.mono t913) (hu2.mono s13.tups))
        · rw [List.length_cons, List.length_append]
          rcases hi2 with rfl | rfl <;> omega
      · rintro σ H9 ⟨fa, fws, y6, rfl, hh9, el9, hls9, t49, ein9, hft, hbd⟩
        have hfl : tws.length + fws.length + 5 ≤ 8 * 2 ^ n := by
          by_cases h0 : n = 0
          · rw [hl20 h0] at hbd
            subst h0
            simp at hbd
            omega
          · rw [eN h0]
            have hi2 : ls2.length = 0 ∨ ls2.length = 1 ∨ ls2.length = 2 := by omega
            rcases hi2 with e | e | e <;> rw [e] at hbd <;> omega
        try dsimp only
        refine seq_mid (fun σ' H' => ∃ (fa : Addr) (fws : List W), σ'[5]? = some (some (.ref tk)) ∧ σ'[9]? = some (some (.ref fa)) ∧ Hd h c H H' ∧ Tups H4 H' ∧ FtV H' fa fws ∧ tws.length + fws.length + 5 ≤ 8 * 2 ^ n) ?_ fun R hR => ?_
        · rintro σ' H' ⟨fa, fws, e5, e9, hh', t', hf', hb'⟩
          exact hpre hh' (t' _ _ etk) (hus.mono t') e5 e9 hf' hb'
        refine ⟨_, rfl, _, _, rfl, rfl, _, rfl, ?_⟩
        refine ite2 (fun c1 => ?_) (fun c1 => ?_)
        rotate_left
        · exact hR _ _ ⟨fa, fws, rfl, rfl, hh9, t49, hft, hfl⟩
        have c1' : (0 : Int) < (n : Int) := of_decide_eq_true c1
        have hn0 : n ≠ 0 := by omega
        refine ⟨_, rfl, h, c, 6, rfl, hh9.2, by omega, by omega, fun H10 dr _ hh10 => ⟨rfl, _, rfl, ?_⟩⟩
        have hh010 := hh9.trans hh10
        have t910 := hh10.tups hh9.2
        refine ite2 (fun c2 => ?_) (fun c2 => ?_)
        rotate_left
        · exact hR _ _ ⟨fa, fws, rfl, rfl, hh010, t49.trans t910, hft.mono t910, hfl⟩
        have ein10 := hh10.mem nih ein9
        refine ⟨_, rfl, (by show 3 ≤ sizeLine; decide), fun t11 nt11 => ?_⟩
        generalize eH11 : upd H10 t11 (.lst _) = H11
        obtain ⟨s11, e11, f11⟩ := new_f nt11 eH11
        refine ⟨h, c, t11, _, rfl, hh010.2.mono s11, e11, hh010.2.nh nt11, (by show 0 < 3; decide), (by show 3 ≤ 1000; decide), fun H12 y hy hh12 => ?_⟩
        obtain ⟨nm2, hnm2, rfl⟩ := str_in (xs := ["x", "y", "q"]) hy
        have hok2 := ok3 nm2 hnm2
        have hh012 := (hh010.new s11).trans hh12
        refine ⟨_, rfl, h, c, 1, rfl, hh012.2, by omega, fun H13 v3 k3 hh13 hk3 hk3d => ?_⟩
        have hh013 := hh012.trans hh13
        have hh1013 : Hd h c H10 H13 := ((Hd.of hh010.2 s11).trans hh12).trans hh13
        have ein13 := hh1013.mem nih ein10
        have t1013 := hh1013.tups hh010.2
        have t413 := (t49.trans t910).trans t1013
        refine ⟨_, _, rfl, ?_⟩
        refine ⟨_, rfl, inn, kv, rfl, .inl ein13, fun wi nwi => ?_⟩
        generalize eH14 : upd H13 wi (.dK kv) = H14
        obtain ⟨s14, e14, f14⟩ := new_f nwi eH14
        refine ⟨_, rfl, _, rfl, _, rfl, wi, _, rfl, DPut.k (k := Sum.inr nm2) e14 (lt60 (by omega)), ?_⟩
        generalize eH15 : upd H14 wi (.dK _) = H15
        obtain ⟨e15, f15⟩ := mut_f eH15
        have t1415 : Tups H14 H15 := tups_putK e14 f15
        have t1315 := s14.tups.trans t1415
        have hh1315 : Hd h c H13 H15 := (Hd.of hh013.2 s14).mut hh013.2 nwi f15
        have hh015 := hh013.trans hh1315
        have nwh : wi ≠ h := hh013.2.nh nwi
        have ein15 := hh1315.mem nih ein13
        have t415 := t413.trans t1315
        refine ⟨_, rfl, _, rfl, _, rfl, _, rfl, _, _, rfl, rfl, h, c, wi, .int (kEnd k), .leaf (kEnd k), n - 1, m + 3, ?_, hh015.2, ⟨_, e15, (hfd4'.mono t415).put hok2 (hk3.mono t1315) (by omega)⟩, by omega, ⟨rfl, hke⟩, Nat.zero_le _, by omega, by omega, fun H16 ba bw hh16 hbw hbb => ?_⟩
        · show [V.ref h, V.ref wi, V.int (kEnd k), V.int ((n : Int) - 1)] = _
          rw [en1 hn0]
        rw [eB] at hbb
        have hh016 := hh015.trans hh16
        refine ⟨_, rfl, _, rfl, (by show 2 ≤ sizeLine; decide), fun p17 np17 => ?_⟩
        generalize eH17 : upd H16 p17 (.tup _) = H17
        obtain ⟨s17, e17, f17⟩ := new_f np17 eH17
        refine ⟨(by show 2 ≤ sizeLine; decide), fun p18 np18 => ?_⟩
        generalize eH18 : upd H17 p18 (.tup _) = H18
        obtain ⟨s18, e18, f18⟩ := new_f np18 eH18
        have s1618 := s17.trans s18
        obtain ⟨u1, eu1, hu1, hf1⟩ := id hbw
        have hul1 := Paired.length hu1
        refine ⟨_, rfl, cat_at e18 (s1618 _ _ eu1) (pd_ne hu1 hf1.ne) (by show 2 + u1.length ≤ 400; omega) fun p19 H19 s19 e19 => ?_⟩
        have s1619 := s1618.trans s19
        have hh019 := hh016.new s1619
        have ein19 : H19 inn = some (.dK kv) := s1619 _ _ (hh16.mem nih ein15)
        have t1516 := hh16.tups hh015.2
        have t1319 := (t1315.trans t1516).trans s1619.tups
        refine ⟨_, rfl, _, rfl, _, rfl, _, rfl, _, _, rfl, rfl, h, c, inn, v3, k3, n - 1, m + 2, ?_, hh019.2, ⟨kv, ein19, hfd4'.mono (t413.trans t1319)⟩, by omega, hk3.mono t1319, by omega, by omega, by omega, fun H20 a2 w2 hh20 hw2 hb2 => ?_⟩
        · show [V.ref h, V.ref inn, v3, V.int ((n : Int) - 1)] = _
          rw [en1 hn0]
        rw [eB] at hb2
        obtain ⟨u2, eu2, hu2, hf2⟩ := id hw2
        have hul2 := Paired.length hu2
        have t1920 := hh20.tups hh019.2
        refine cat_at (t1920 _ _ e19) eu2 (pd_ne hu2 hf2.ne) (by rw [List.length_append]; show 2 + u1.length + u2.length ≤ 400; omega) fun p21 H21 s21 e21 => ?_
        have t1721 := ((s18.trans s19).tups.trans t1920).trans s21.tups
        refine hR _ _ ⟨p21, .use :: ((.take nm2 k3 :: bw) ++ w2), rfl, rfl, (hh019.trans hh20).new s21, (t413.trans t1319).trans (t1920.trans s21.tups), ⟨_, e21, ?_, Wf.one_use (Wf.one_take nm2 k3 hf1) hf2⟩, ?_⟩
        · refine .cons rfl (.cons ⟨p17, v3, rfl, t1721 _ _ e17, hok2, hk3.mono (t1319.trans (t1920.trans s21.tups)), by omega⟩ (pd_app' (hu1.mono (s17.tups.trans t1721)) (hu2.mono s21.tups)))
        · rw [List.length_cons, List.length_append, List.length_cons, eN hn0]
          omega
end
end K8
namespace K8
open PySem PySem.Spec PyProof.Rows L2
theorem PlT.hd {H H' : Hp} {h c p : Addr} {xs : List V} (a : PlT H p xs) (hh : Hd h c H H') (hv : HandV H h c) : PlT H' p xs := by
  obtain ⟨o, e, d⟩ := a
  exact ⟨o, hh.frz hv e, d⟩
theorem KnT.hd {H H' : Hp} {h c p : Addr} {kl : List (Str × Kd)} (a : KnT H p kl) (hh : Hd h c H H') (hv : HandV H h c) : KnT H' p kl := by
  obtain ⟨ps, e, r⟩ := a
  exact ⟨ps, e.hd hh hv, pd_imp (fun _ _ q => q.mono (hh.tups hv)) r⟩
section
variable {P : Program} {w : World} {K : PySem.W.Frag} {mg : Str → Option Value} {base : Heap} {f : Addr} {fd : FuncData}
/-! ### _law_some_program -/
abbrev s_law_some_program : Stmt := topS 74
abbrev Nlaw_some_program : List Str := ["_law_hand_here", "_law_known_here", "_law_deep", "_law_turn", "_law_found", "_law_name", "_law_kind_here"]
theorem sc_law_some_program : FnScope Nlaw_some_program ["_law_hand_here", "_law_known_here", "_law_deep"] (defScope s_law_some_program) := ⟨rfl, rfl, rfl, by decide +kernel, rfl, by decide +kernel, by decide +kernel⟩
def sp_law_some_program : Sp := fun vs H Q _ => ∃ (h c a : Addr) (kl : List (Str × Kd)) (d : Nat), vs = [.ref h, .ref a, natV d] ∧ HandV H h c ∧ KnT H a kl ∧ kl.length ≤ 9 ∧ (∀ sk ∈ kl, nameOk sk.1 = true ∧ sk.2.depth ≤ 2) ∧ d ≤ 3 ∧
  ∀ (H' : Hp) (b : Addr) (ws : List W), Hd h c H H' → PgV H' b ws → Q (.ref b) H'
theorem okxyz : ∀ s ∈ (["x", "y", "z"] : List Str), nameOk s = true := by decide +kernel
theorem okx : nameOk "x" = true := by decide +kernel
theorem ok_law_some_program (T : Txt mg) (c_law_draw : Cl P w K mg base "_law_draw" 1 ["_law_hand_here", "_law_many"] sp_law_draw) (c_law_kind : Cl P w K mg base "_law_kind" 4 ["_law_hand_here", "_law_deep"] (sp_law_kind 2))
    (c_law_fit : Cl P w K mg base "_law_fit" 8 ["_law_hand_here", "_law_known_here", "_law_kind_here", "_law_deep"] (sp_law_fit 4)) (c_law_loose : Cl P w K mg base "_law_loose" 8 ["_law_hand_here", "_law_names", "_law_deep"] (sp_law_loose 4))
    (F : Fun K "_law_some_program" "_law_some_program" s_law_some_program f fd) : FnOk P w K mg base CX0 9 f fd ["_law_hand_here", "_law_known_here", "_law_deep"] sp_law_some_program := by
  have nd := sc_law_some_program.nd
  refine F.ok sc_law_some_program (fun vs H Q Ex h => ?_) (fun cdv A outer s H vs Q Ex hr h => ?_)
  · obtain ⟨_, _, _, _, _, rfl, _⟩ := h
    rfl
  · obtain ⟨h, c, a, kl, d, rfl, hv, hkn, hk9, hok, hd3, q⟩ := h
    refine ⟨_, pss_cons (ps_for PassesOwn.never rfl (pi_range1 rfl T.range (pa_cons pe_int pa_nil)) (pg_name (i := 3) nd rfl (Or.inl rfl))
      (pss_cons (ps_if (pt_cmpR op_eq (pe_cl c_law_draw hr (by omega) (pa_cons (pv 0) (pa_cons pe_int pa_nil))) pe_int (nomark _)) (pss_one (ps_set (i := 4) nd rfl (Or.inl rfl) (pe_cl c_law_loose hr (by omega) (pa_cons (pv 0) (pa_cons (pe_op op_cat (pe_lc (own := [("_law_name", 5), ("_law_kind_here", 6)]) (g := gTup K 2 (gCons (gName 5) (gCons (gName 6) gNil))) rfl nd (pi_tup (pv 1)) (blkOk_by (own := [("_law_name", 5), ("_law_kind_here", 6)]) (N := Nlaw_some_program) (sc := defScope s_law_some_program) (by decide +kernel)) (fun _ _ _ _ _ => (pg_tup rfl (pgs_cons (pg_name (i := 5) nd rfl (Or.inl rfl)) (pgs_cons (pg_name (i := 6) nd rfl (Or.inl rfl)) pgs_nil)))) (fun _ _ _ _ _ => pts_nil) (fun _ _ _ _ _ => (pv 5))) (pe_lst (pa_cons pe_str (pa_cons pe_str (pa_cons pe_str pa_nil))))) (pa_cons (pv 2) pa_nil)))))) (pss_one (ps_set (i := 4) nd rfl (Or.inl rfl) (pe_cl c_law_fit hr (by omega) (pa_cons (pv 0) (pa_cons (pe_callTy (call_dictPT rfl) (by rfl) T.dict (by decide +kernel) (pa_cons (pv 1) pa_nil)) (pa_cons (pe_cl c_law_kind hr (by omega) (pa_cons (pv 0) (pa_cons pe_int pa_nil))) (pa_cons (pv 2) pa_nil))))))))
      (pss_one (ps_if (pt_cmpR op_le (pe_callB call_len_seq (by rfl) T.len (by decide +kernel) (pa_cons (pv 4) pa_nil)) pe_int (nomark _)) (pss_one (ps_ret (pv 4))) pss_nil))))
    (pss_one (ps_ret (pe_tup (pa_cons (pe_tup (pa_cons pe_str (pa_cons pe_int pa_nil))) (pa_cons pe_str pa_nil))))), ?_⟩
    refine ⟨6, rfl, by decide, by decide, ?_⟩
    refine for_range (lo := 0) (n := 6) (fun i σ H' => ∃ (y3 y4 : Option V), σ = [some (.ref h), some (.ref a), some (natV d), y3, y4, none, none] ∧ Hd h c H H') ⟨none, none, rfl, Hd.refl hv⟩ ?_ ?_
    · rintro i σ H1 hi ⟨y3, y4, rfl, hh1⟩
      have fin : ∀ (R : L2.St → Hp → Prop) (H2 : Hp) (b : Addr) (ws : List W), Hd h c H H2 → FtV H2 b ws → (∀ σ' H', (∃ (b : Addr) (ws : List W), σ' = [some (.ref h), some (.ref a), some (natV d), some (.int (0 + (i : Int))), some (.ref b), none, none] ∧ Hd h c H H' ∧ FtV H' b ws ∧ ws.length ≤ 100) → R σ' H') → ws.length ≤ 100 → R [some (.ref h), some (.ref a), some (natV d), some (.int (0 + (i : Int))), some (.ref b), none, none] H2 :=
        fun R H2 b ws hh2 hf hR hl => hR _ _ ⟨b, ws, rfl, hh2, hf, hl⟩
      refine seq_mid (fun σ' H' => ∃ (b : Addr) (ws : List W), σ' = [some (.ref h), some (.ref a), some (natV d), some (.int (0 + (i : Int))), some (.ref b), none, none] ∧ Hd h c H H' ∧ FtV H' b ws ∧ ws.length ≤ 100) ?_ fun R hR => ?_
      · rintro σ2 H2 ⟨b, ws, rfl, hh2, ⟨us, eu, hu, hf⟩, hl⟩
        have hul := Paired.length hu
        refine ⟨_, rfl, b, _, rfl, .inr (SqT.h eu), _, _, rfl, rfl, _, rfl, ?_⟩
        refine ite2 (fun c1 => ?_) (fun c1 => ?_)
        · have c1' : ((us.length : Nat) : Int) ≤ 60 := of_decide_eq_true c1
          exact ⟨_, rfl, q H2 b ws hh2 ⟨⟨us, eu, hu⟩, hf, by omega⟩⟩
        · exact ⟨_, _, rfl, hh2⟩
      refine ⟨_, rfl, h, c, 4, rfl, hh1.2, by omega, by omega, fun H2 d2 _ hh2 => ⟨rfl, _, rfl, ?_⟩⟩
      have hh02 := hh1.trans hh2
      have hkn2 := hkn.hd hh02 hv
      refine ite2 (fun c1 => ?_) (fun c1 => ?_)
      · obtain ⟨ps, hpl, hpd⟩ := hkn2
        have hlen : ps.length = kl.length := Paired.length hpd
        refine ⟨_, rfl, _, rfl, a, rfl, ⟨_, hpl.sq⟩, fun D nD => ?_⟩
        refine lc_tup (K := K) (a := a) (xs := ps.map V.ref) (fun i H' => Same H2 H' ∧ H' D = some (.lst (((kl.map (·.1)).take i).map V.str))) ⟨same_new _ nD, upd_same⟩ (fun i H' _ h' => (hpl.mono h'.1).sq) ?_ ?_
        · rintro i x H3 hx ⟨s3, eN⟩
          obtain ⟨pp, sk, y, rfl, esk, epp⟩ := names_lc hpd hx s3.tups
          have hil := (List.getElem?_eq_some_iff.mp esk).1
          refine ⟨pp, _, rfl, SqT.h epp, rfl, _, _, rfl, _, _, rfl, rfl, rfl, _, rfl, _, eN, ?_, s3.mut nD (fun b hb => upd_ne hb), ?_⟩
          · rw [List.length_map, List.length_take]
            exact lt60 (by omega)
          · rw [upd_same, List.take_add_one, List.getElem?_map, esk, List.map_append]
            rfl
        rintro H3 ⟨s3, eN⟩
        rw [List.take_of_length_le (by rw [List.length_map, List.length_map]; omega)] at eN
        refine ⟨(by show 3 ≤ sizeLine; decide), fun t nt => ?_⟩
        generalize eH4 : upd H3 t (.lst _) = H4
        obtain ⟨s4, e4, f4⟩ := new_f nt eH4
        refine ⟨D, t, _, _, rfl, rfl, s4 _ _ eN, e4, by rw [List.length_map, List.length_map]; show kl.length + 3 ≤ sizeLine; exact le60 (by omega), fun t2 nt2 => ?_⟩
        generalize eH5 : upd H4 t2 (.lst _) = H5
        obtain ⟨s5, e5, f5⟩ := new_f nt2 eH5
        have s25 := (s3.trans s4).trans s5
        have hh5 := hh02.new s25
        have e5' : H5 t2 = some (.lst ((kl.map (fun sk : Str × Kd => sk.1) ++ (["x", "y", "z"] : List Str)).map V.str)) := by rw [e5, List.map_append]; rfl
        refine ⟨_, rfl, h, c, t2, _, d, rfl, hh5.2, e5', (hh02.new (s3.trans s4)).2.nh nt2, by rw [List.length_append]; show 0 < _ + 3; omega, by rw [List.length_append, List.length_map]; show kl.length + 3 ≤ 100; omega, fun s hs => ?_, by omega, hd3, fun H6 b ws hh6 hf hb => ?_⟩
        · rcases List.mem_append.mp hs with hs | hs
          · obtain ⟨sk, hsk, rfl⟩ := List.mem_map.mp hs
            exact (hok sk hsk).1
          · exact okxyz s hs
        · have := pw3 hd3
          rw [Nat.pow_succ] at hb
          exact fin R H6 b ws (hh5.trans hh6) hf hR (by omega)
      · obtain ⟨ps, hpl, hpd⟩ := hkn2
        obtain ⟨kvs, r1, r2⟩ := pk_kvs (K := K) hpd
        have hfr := FdR.merge r2 hok FdR.nil
        rw [Nat.zero_add] at hfr
        refine ⟨_, rfl, _, rfl, a, ps, kvs, rfl, hpl, r1, fun dd ndd => ?_⟩
        generalize eH3 : upd H2 dd (.dK (mergeK [] kvs)) = H3
        obtain ⟨s3, e3, f3⟩ := new_f ndd eH3
        have hh3 := hh02.new s3
        refine ⟨_, rfl, h, c, 2, rfl, hh3.2, Nat.le_refl _, fun H4 v k hh4 hkv hkd => ?_⟩
        have hh04 := hh3.trans hh4
        refine ⟨_, rfl, h, c, dd, v, k, d, kl.length, rfl, hh04.2, ⟨_, hh4.mem (hh02.2.nh ndd) e3, hfr.mono (s3.tups.trans (hh4.tups hh3.2))⟩, by omega, hkv, hkd, by omega, hd3, fun H5 b ws hh5 hf hb => ?_⟩
        have := pw3 hd3
        exact fin R H5 b ws (hh04.trans hh5) hf hR (by omega)
    · rintro σ H1 ⟨y3, y4, rfl, hh1⟩
      refine ⟨(by show 2 ≤ sizeLine; decide), fun p np => ?_⟩
      generalize eH2 : upd H1 p (.tup _) = H2
      obtain ⟨s2, e2, f2⟩ := new_f np eH2
      refine ⟨(by show 2 ≤ sizeLine; decide), fun p3 np3 => ?_⟩
      generalize eH3 : upd H2 p3 (.tup _) = H3
      obtain ⟨s3, e3, f3⟩ := new_f np3 eH3
      refine q H3 p3 [.take "x" (.leaf 0), .name "x"] ((hh1.new s2).new s3) ⟨⟨_, e3, .cons ?_ (.cons ⟨rfl, okx⟩ .nil)⟩, Wf.one_take _ _ (Wf.one_name _), by show 2 ≤ 60; omega⟩
      exact ⟨p, .int 0, rfl, s3 _ _ e2, okx, ⟨rfl, by decide, by decide⟩, Nat.zero_le _⟩
end
end K8
namespace K8
open PySem PySem.Spec PyProof.Rows L2
section
variable {P : Program} {w : World} {K : PySem.W.Frag} {mg : Str → Option Value} {base : Heap} {f : Addr} {fd : FuncData}
/-! ### _law_spans -/
abbrev s_law_spans : Stmt := topS 75
abbrev Nlaw_spans : List Str := ["_law_words", "_law_found", "_law_waiting", "_law_place", "_law_last"]
theorem sc_law_spans : FnScope Nlaw_spans ["_law_words"] (defScope s_law_spans) := ⟨rfl, rfl, rfl, by decide +kernel, rfl, by decide +kernel, by decide +kernel⟩
theorem ok_law_spans (T : Txt mg) (F : Fun K "_law_spans" "_law_spans" s_law_spans f fd) : FnOk P w K mg base CX0 1 f fd ["_law_words"] sp_ends_of := by
  have nd := sc_law_spans.nd
  refine F.ok sc_law_spans (fun vs H Q Ex h => ?_) (fun cdv A outer s H vs Q Ex hr h => ?_)
  · obtain ⟨v, u, rfl, _⟩ := h
    rfl
  · obtain ⟨a, ws, rfl, hp, q⟩ := h
    have hu64 := hu64_of hr
    refine ⟨_, pss_cons (ps_set (i := 1) nd rfl (Or.inl rfl) (pe_op op_rep (pe_lst (pa_cons pe_int pa_nil)) (pe_callB call_len_seq (by rfl) T.len (by decide +kernel) (pa_cons (pv 0) pa_nil))))
    (pss_cons (ps_set (i := 2) nd rfl (Or.inl rfl) (pe_lst pa_nil))
    (pss_cons (ps_for PassesOwn.never rfl (pi_range3 rfl T.range (pa_cons (pe_op op_sub (pe_callB call_len_seq (by rfl) T.len (by decide +kernel) (pa_cons (pv 0) pa_nil)) pe_int) (pa_cons (pe_un un_neg pe_int) (pa_cons (pe_un un_neg pe_int) pa_nil)))) (pg_name (i := 3) nd rfl (Or.inl rfl))
      (pss_cons (ps_set (i := 4) nd rfl (Or.inl rfl) (pe_op op_add (pv 3) pe_int))
      (pss_cons (ps_if (pt_cmpR (op_eqD hu64) (pe_ix ix_tup (pv 0) (pv 3) (fun _ _ => rfl)) pe_str (nomark _)) (pss_cons (ps_expr (pe_bm0 PySem.F.plainAttrs_list PySem.F.slot_list_pop PySem.F.type_list_pop mt_pop (pv 2)))
        (pss_one (ps_set (i := 4) nd rfl (Or.inl rfl) (pe_bm0 PySem.F.plainAttrs_list PySem.F.slot_list_pop PySem.F.type_list_pop mt_pop (pv 2))))) (pss_one (ps_if (pt_val (pe_callB call_isi (by rfl) T.isinstance (by decide +kernel) (pa_cons (pe_ix ix_tup (pv 0) (pv 3) (fun _ _ => rfl)) (pa_cons (pe_ty (Ty := "tuple") T.tuple (by decide +kernel)) pa_nil)))) (pss_one (ps_set (i := 4) nd rfl (Or.inl rfl) (pe_bm0 PySem.F.plainAttrs_list PySem.F.slot_list_pop PySem.F.type_list_pop mt_pop (pv 2)))) pss_nil)))
      (pss_cons (ps_asg (pv 4) (pg_sub (pv 1) (pv 3) set_list))
      (pss_one (ps_expr (pe_bm PySem.F.plainAttrs_list PySem.F.slot_list_append PySem.F.type_list_append mt_append (pv 2) (pa_cons (pv 4) pa_nil))))))))
    (pss_one (ps_ret (pv 1))))), ?_⟩
    obtain ⟨us, ea, hw⟩ := hp.at_
    have hlen : us.length = ws.length := Paired.length hw
    have h60 := hp.len
    -- found = [0] * len(words)
    refine ⟨(by show 1 ≤ sizeLine; decide), fun z nz => ?_⟩
    generalize eH : upd H z (.lst [V.int 0]) = H1
    obtain ⟨s1, e1, f1⟩ := new_f nz eH
    refine ⟨_, rfl, a, us, rfl, .inr (SqT.h (s1 _ _ ea)), z, _, _, rfl, rfl, e1, by omega, by omega, ?_, fun fo nfo => ?_⟩
    · show 1 * ((us.length : Nat) : Int).toNat ≤ sizeLine
      exact le60 (by omega)
    rw [show ((us.length : Nat) : Int).toNat = ws.length by omega, flat_rep]
    generalize eH2 : upd H1 fo (.lst (List.replicate ws.length (V.int 0))) = H2
    obtain ⟨s2, e2, f2⟩ := new_f nfo eH2
    -- waiting = []
    refine ⟨Nat.zero_le _, fun wa nwa => ?_⟩
    generalize eH3 : upd H2 wa (.lst []) = H3
    obtain ⟨s3, e3, f3⟩ := new_f nwa eH3
    have s03 : Same H H3 := (s1.trans s2).trans s3
    have nf0 : H fo = none := s1.free nfo
    have nw0 : H wa = none := (s1.trans s2).free nwa
    have nfw : fo ≠ wa := ne_of_none e2 nwa
    -- the loop
    refine ⟨_, rfl, a, us, rfl, .inr (SqT.h (s03 _ _ ea)), _, _, rfl, rfl, 1, rfl, 1, rfl, _, _, _, _, rfl, RgC.neg (by omega) (by omega) (by omega) (by omega), ?_⟩
    have en : (((us.length : Nat) : Int) - 1 - -1).toNat = ws.length := by omega
    rw [en]
    refine for_rangeC (fun i σ H' => ∃ (y3 y4 : Option V), σ = [some (.ref a), some (.ref fo), some (.ref wa), y3, y4] ∧ Same H H' ∧ H' fo = some (.lst (List.replicate (ws.length - i) (V.int 0) ++ (endsFrom (ws.length - i) (ws.drop (ws.length - i))).map natV)) ∧
      H' wa = some (.lst ((S ws (ws.length - i)).reverse.map natV))) ?_ ?_ ?_
    · refine ⟨none, none, rfl, s03, ?_, ?_⟩
      · rw [Nat.sub_zero, List.drop_length]
        show H3 fo = some (.lst (List.replicate ws.length (V.int 0) ++ []))
        rw [List.append_nil]
        exact s3 _ _ e2
      · rw [Nat.sub_zero, S_end]
        exact e3
    · rintro i σ H4 hi ⟨y3, y4, rfl, s4, ef, ew⟩
      obtain ⟨p, ep⟩ : ∃ p, ws.length - i = p + 1 := ⟨ws.length - i - 1, by omega⟩
      have epl : ws.length - (i + 1) = p := by omega
      have hpl : p < ws.length := by omega
      have eplace : (((us.length : Nat) : Int) - 1 + (i : Int) * -1) = (p : Int) := by omega
      rw [ep] at ef ew
      rw [epl]
      have eu : ws[p]? = some ws[p] := List.getElem?_eq_getElem hpl
      generalize ws[p] = u at eu
      obtain ⟨x, hx, wu⟩ := pd_at_right hw eu
      have t4 := s4.tups
      have wu4 : WdV H4 x u := wu.mono t4
      have ea4 := s4 _ _ ea
      have hT := ends_turn hp.wf hpl
      have hlenE : ((endsFrom (p + 1) (ws.drop (p + 1))).map natV).length = ws.length - (p + 1) := by rw [List.length_map, endsFrom_len, List.length_drop]
      -- the turn's end: found[place] = end; waiting.append(end)
      have fin : ∀ (H5 : Hp) (e : Nat) (r : List Nat) (D : Ends) (y3 : Option V), Same H H5 → H5 fo = some (.lst (List.replicate (p + 1) (V.int 0) ++ (endsFrom (p + 1) (ws.drop (p + 1))).map natV)) → H5 wa = some (.lst (r.reverse.map natV)) → S ws p = e :: r → r.length ≤ 60 →
          (∀ H6, Same H H6 → H6 fo = some (.lst (List.replicate p (V.int 0) ++ (endsFrom p (ws.drop p)).map natV)) → H6 wa = some (.lst ((S ws p).reverse.map natV)) → D.nx [some (.ref a), some (.ref fo), some (.ref wa), some (.int (p : Int)), some (.int (e : Int))] H6) →
          tSeq (tAsg (tVar 4) (gSub (tVar 1) (tVar 3) rSetL)) (tDrop (tBM K "list" rAppend (tVar 2) (tCons (tVar 4) tNil))) D [some (.ref a), some (.ref fo), some (.ref wa), some (.int (p : Int)), some (.int (e : Int))] H5 := by
        intro H5 e r D y3 s5 ef5 ew5 hS hr60 hD
        refine ⟨_, rfl, _, rfl, _, rfl, fo, _, (p : Int), p, rfl, rfl, ef5, ?_, ?_⟩
        · rw [List.length_append, List.length_replicate, hlenE]
          unfold ixN
          rw [if_pos (by omega), if_pos (by omega), Int.toNat_natCast]
        rw [rep_set]
        generalize eH6 : upd H5 fo (.lst (List.replicate p (V.int 0) ++ V.int (e : Int) :: (endsFrom (p + 1) (ws.drop (p + 1))).map natV)) = H6
        obtain ⟨e6, f6⟩ := mut_f eH6
        have ew6 : H6 wa = some (.lst (r.reverse.map natV)) := by rw [f6 wa nfw.symm]; exact ew5
        refine ⟨_, rfl, .inl ⟨rfl, _, SqL.h ew6⟩, _, rfl, wa, _, _, rfl, rfl, ew6, ?_, ?_⟩
        · rw [List.length_map, List.length_reverse]
          exact lt60 (by omega)
        generalize eH7 : upd H6 wa (.lst (r.reverse.map natV ++ [V.int (e : Int)])) = H7
        obtain ⟨e7, f7⟩ := mut_f eH7
        refine hD H7 ((s5.mut nf0 f6).mut nw0 f7) ?_ ?_
        · rw [f7 fo nfw, e6, hT]
          have : E ws p = e := by unfold E; rw [hS]; rfl
          rw [this]
          rfl
        · rw [e7, hS, List.reverse_cons, List.map_append]
          rfl
      have hSlen : ∀ j, (S ws j).length ≤ 60 := fun j => by
        obtain ⟨m, hm⟩ := hp.wf.drop j
        have q1 := stk_len j hm
        unfold S
        rw [q1]
        have : ∀ {ws : List W} {n : Nat}, Wf ws n → n ≤ ws.length := by
          intro ws n h
          induction h with
          | nil => exact Nat.le_refl _
          | name _ _ ih => simp only [List.length_cons]; omega
          | take _ _ _ ih => simp only [List.length_cons]; omega
          | use _ ih => simp only [List.length_cons]; omega
        have := this hm
        rw [List.length_drop] at this
        omega
      refine ⟨_, rfl, _, _, rfl, rfl, ?_⟩
      refine ⟨_, rfl, _, rfl, a, us, _, x, rfl, rfl, SqT.h ea4, (by rw [eplace]; exact atI_nat hx), _, _, wu4.dp, .str _, wu4.shaped, str_shaped use_strOk, ?_⟩
      rw [wu4.eqv_use, eplace]
      cases u with
      | use =>
        obtain ⟨c, e, r, h1, h2⟩ := use_two hp.wf eu
        rw [h1] at ew
        have hl1 := hSlen (p + 1)
        rw [h1] at hl1
        simp only [List.length_cons] at hl1
        refine ⟨true, rfl, iteT ?_⟩
        -- waiting.pop(); end = waiting.pop()
        have e1 : ((c :: e :: r).reverse.map natV) = (r.reverse.map natV ++ [natV e]) ++ [natV c] := by simp
        rw [e1] at ew
        refine ⟨_, rfl, .inl ⟨rfl, _, SqL.h ew⟩, wa, _, _, rfl, rfl, ew, pop_last _ _, ?_⟩
        rw [List.dropLast_concat]
        generalize eH5 : upd H4 wa (.lst (r.reverse.map natV ++ [natV e])) = H5
        obtain ⟨e5, f5⟩ := mut_f eH5
        refine ⟨_, rfl, .inl ⟨rfl, _, SqL.h e5⟩, wa, _, _, rfl, rfl, e5, pop_last _ _, ?_⟩
        rw [List.dropLast_concat]
        generalize eH6 : upd H5 wa (.lst (r.reverse.map natV)) = H6
        obtain ⟨e6, f6⟩ := mut_f eH6
        refine fin H6 e r _ none ((s4.mut nw0 f5).mut nw0 f6) (by rw [f6 fo nfw, f5 fo nfw]; exact ef) e6 h2 (by omega) fun H7 s7 ef7 ew7 => ?_
        exact ⟨_, _, rfl, s7, ef7, ew7⟩
      | take s k =>
        have h1 := S_take eu
        have h2 := S_cons hp.wf hpl
        have hl1 := hSlen p
        rw [h2] at hl1
        simp only [List.length_cons] at hl1
        rw [← h1, h2] at ew
        have e1 : ((E ws p :: (S ws p).tail).reverse.map natV) = (S ws p).tail.reverse.map natV ++ [natV (E ws p)] := by simp
        rw [e1] at ew
        refine ⟨false, rfl, iteF ?_⟩
        obtain ⟨pq, y, rfl, epq, _⟩ := wu4
        refine ⟨_, rfl, _, rfl, a, us, (p : Int), _, rfl, rfl, SqT.h ea4, atI_nat hx, _, _, _, _, true, rfl, .ty _, .base (.tup epq), isi_tuple_tuple, true, rfl, iteT ?_⟩
        refine ⟨_, rfl, .inl ⟨rfl, _, SqL.h ew⟩, wa, _, _, rfl, rfl, ew, pop_last _ _, ?_⟩
        rw [List.dropLast_concat]
        generalize eH5 : upd H4 wa (.lst ((S ws p).tail.reverse.map natV)) = H5
        obtain ⟨e5, f5⟩ := mut_f eH5
        refine fin H5 (E ws p) _ _ none (s4.mut nw0 f5) (by rw [f5 fo nfw]; exact ef) e5 h2 (by omega) fun H7 s7 ef7 ew7 => ?_
        exact ⟨_, _, rfl, s7, ef7, ew7⟩
      | name s =>
        have h1 := S_name eu
        have hl1 := hSlen (p + 1)
        refine ⟨false, rfl, iteF ?_⟩
        obtain ⟨rfl, _⟩ := wu4
        refine ⟨_, rfl, _, rfl, a, us, (p : Int), _, rfl, rfl, SqT.h ea4, atI_nat hx, _, _, _, _, false, rfl, .ty _, .base (.str s), isi_str_tuple, false, rfl, iteF ?_⟩
        refine fin H4 (p + 1) _ _ none s4 ef ew h1 (by omega) fun H7 s7 ef7 ew7 => ?_
        exact ⟨_, _, rfl, s7, ef7, ew7⟩
    · rintro σ H4 ⟨y3, y4, rfl, s4, ef, ew⟩
      rw [Nat.sub_self] at ef
      exact ⟨_, rfl, q _ fo s4 nf0 ef⟩
end
end K8
namespace K8
open PySem PySem.Spec PyProof.Rows L2
theorem isT_at {K : PySem.W.Frag} {H : Hp} : ∀ {x : V} {u : W}, WdV H x u → ∃ t, TyX K H x t ∧ PySem.W.kitOne K t (.type "tuple") = some u.isTake
  | x, .use, h => by
    rw [show x = .str "@" from h]
    exact ⟨_, .base (.str "@"), isi_str_tuple⟩
  | x, .name s, h => by
    rw [h.1]
    exact ⟨_, .base (.str s), isi_str_tuple⟩
  | x, .take s k, h => by
    obtain ⟨p, y, rfl, ep, _⟩ := h
    exact ⟨_, .base (.tup ep), isi_tuple_tuple⟩
theorem isS_at {K : PySem.W.Frag} {H : Hp} : ∀ {x : V} {u : W}, WdV H x u → ∃ t, TyX K H x t ∧ PySem.W.kitOne K t (.type "str") = some (!u.isTake)
  | x, .use, h => by
    rw [show x = .str "@" from h]
    exact ⟨_, .base (.str "@"), isi_str_str⟩
  | x, .name s, h => by
    rw [h.1]
    exact ⟨_, .base (.str s), isi_str_str⟩
  | x, .take s k, h => by
    obtain ⟨p, y, rfl, ep, _⟩ := h
    exact ⟨_, .base (.tup ep), isi_tuple_str⟩
def isTk (ws : List W) (a : Nat) : Bool := ((ws[a]?.map Wd.isTake).getD false)
def tkAll (ws : List W) (n : Nat) : List Nat := (List.range n).filter (isTk ws)
theorem tkAll_succ (ws : List W) (n : Nat) : tkAll ws (n + 1) = tkAll ws n ++ if isTk ws n = true then [n] else [] := by
  unfold tkAll
  rw [List.range_succ, List.filter_append]
  congr 1
  by_cases h : isTk ws n = true
  · rw [if_pos h, List.filter_cons_of_pos h]; rfl
  · rw [if_neg h, List.filter_cons_of_neg h]; rfl
theorem mem_tkAll {ws : List W} {a : Nat} : a ∈ tkAll ws ws.length ↔ ∃ s k, ws[a]? = some (.take s k) := by
  unfold tkAll
  rw [List.mem_filter, List.mem_range]
  constructor
  · rintro ⟨h1, h2⟩
    unfold isTk at h2
    rw [List.getElem?_eq_getElem h1] at h2
    rw [List.getElem?_eq_getElem h1]
    obtain ⟨s, k, e⟩ := isTake_iff.mp (show (ws[a]).isTake = true from h2)
    exact ⟨s, k, by rw [e]⟩
  · rintro ⟨s, k, e⟩
    exact ⟨(List.getElem?_eq_some_iff.mp e).1, by unfold isTk; rw [e]; rfl⟩
theorem tkAll_len (ws : List W) (n : Nat) : (tkAll ws n).length ≤ n := by
  have := List.length_filter_le (isTk ws) (List.range n)
  rw [List.length_range] at this
  exact this
def nmAt (ws : List W) (a : Nat) : Str := match ws[a]? with
  | some (.take s _) => s
  | _ => ""
section
variable {P : Program} {w : World} {K : PySem.W.Frag} {mg : Str → Option Value} {base : Heap} {f : Addr} {fd : FuncData}
/-! ### _law_is_open -/
abbrev s_law_is_open : Stmt := topS 77
abbrev Nlaw_is_open : List Str := ["_law_words", "_law_owners_here", "_law_place"]
theorem sc_law_is_open : FnScope Nlaw_is_open ["_law_words", "_law_owners_here", "_law_place"] (defScope s_law_is_open) := ⟨rfl, rfl, rfl, by decide +kernel, rfl, by decide +kernel, by decide +kernel⟩
theorem ok_law_is_open (T : Txt mg) (F : Fun K "_law_is_open" "_law_is_open" s_law_is_open f fd) : FnOk P w K mg base CX0 1 f fd ["_law_words", "_law_owners_here", "_law_place"] sp_is_open_at := by
  have nd := sc_law_is_open.nd
  refine F.ok sc_law_is_open (fun vs H Q Ex h => ?_) (fun cdv A outer s H vs Q Ex hr h => ?_)
  · obtain ⟨_, _, _, _, _, _, _, _, rfl, _⟩ := h
    rfl
  · obtain ⟨a, t, us, ws, os, p, u, o, rfl, ea, hw, et, hu, ho, q⟩ := h
    have hu64 := hu64_of hr
    refine ⟨_, pss_one (ps_ret (pe_and (pe_callB call_isi (by rfl) T.isinstance (by decide +kernel) (pa_cons (pe_ix ix_tup (pv 0) (pv 2) (fun _ _ => rfl)) (pa_cons (pe_ty (Ty := "str") T.str (by decide +kernel)) pa_nil))) (pe_and (pe_cmpR (op_neD hu64) (pe_ix ix_tup (pv 0) (pv 2) (fun _ _ => rfl)) pe_str (nomark _)) (pe_one (pe_cmpR op_isN (pe_ix ix_list (pv 1) (pv 2) (fun _ _ => rfl)) pe_non (nomark _)))))), ?_⟩
    obtain ⟨x, hx, wu⟩ := pd_at_right hw hu
    have hox : (os.map optV)[p]? = some (optV o) := by rw [List.getElem?_map, ho]; rfl
    have hsh := wu.shaped
    have heq := wu.eqv_use
    obtain ⟨ty, hty, hk⟩ := isS_at (K := K) wu
    refine ⟨_, rfl, _, rfl, a, _, (p : Int), x, rfl, rfl, SqT.h ea, atI_nat hx, _, _, ty, _, _, rfl, .ty _, hty, hk, _, rfl, ?_⟩
    cases u with
    | take s k => exact iteF q
    | use =>
      refine iteT ?_
      refine ⟨_, rfl, _, rfl, a, _, (p : Int), x, rfl, rfl, SqT.h ea, atI_nat hx, _, _, wu.dp, .str _, hsh, str_shaped use_strOk, ?_⟩
      rw [heq]
      exact ⟨false, rfl, iteF q⟩
    | name s =>
      refine iteT ?_
      refine ⟨_, rfl, _, rfl, a, _, (p : Int), x, rfl, rfl, SqT.h ea, atI_nat hx, _, _, wu.dp, .str _, hsh, str_shaped use_strOk, ?_⟩
      rw [heq]
      refine ⟨true, rfl, iteT ?_⟩
      refine ⟨_, rfl, _, rfl, t, _, (p : Int), _, rfl, rfl, SqL.h et, atI_nat hox, rfl, ?_⟩
      cases o with
      | none => exact blT (Q := Q) (decide_eq_true rfl) q
      | some n => exact blF (Q := Q) (decide_eq_false (fun z => by cases z)) q
/-! ### _law_takes -/
abbrev s_law_takes : Stmt := topS 86
abbrev Nlaw_takes : List Str := ["_law_words", "_law_place"]
theorem sc_law_takes : FnScope Nlaw_takes ["_law_words"] (defScope s_law_takes) := ⟨rfl, rfl, rfl, by decide +kernel, rfl, by decide +kernel, by decide +kernel⟩
def sp_law_takes : Sp := fun vs H Q _ => ∃ a ws, vs = [.ref a] ∧ PgV H a ws ∧ ∀ H' p, Same H H' → H p = none → H' p = some (.lst ((tkAll ws ws.length).map natV)) → Q (.ref p) H'
theorem tk_step {ws : List W} {us : List V} {H0 H : Hp} {D : Addr} {j : Nat} {u : W} (hu : ws[j]? = some u) (h60 : ws.length ≤ 60) (s : Same H0 H) (nD : H0 D = none) (eD : H D = some (.lst ((tkAll ws j).map natV))) {M : Prop} {R : Prop}
    (h1 : u.isTake = true → ((∃ acc, H D = some (.lst acc) ∧ acc.length < sizeLine ∧ Same H0 (upd H D (.lst (acc ++ [natV j]))) ∧ upd H D (.lst (acc ++ [natV j])) D = some (.lst ((tkAll ws (j + 1)).map natV))) → R)) (h2 : u.isTake = false → (Same H0 H ∧ H D = some (.lst ((tkAll ws (j + 1)).map natV)) → R)) : R := by
  have hj := (List.getElem?_eq_some_iff.mp hu).1
  have ht : isTk ws j = u.isTake := by unfold isTk; rw [hu]; rfl
  have es := tkAll_succ ws j
  rw [ht] at es
  cases e : u.isTake with
  | true =>
    rw [e, if_pos rfl] at es
    refine h1 e ⟨_, eD, ?_, s.mut nD (fun b hb => upd_ne hb), ?_⟩
    · rw [List.length_map]
      have := tkAll_len ws j
      exact lt60 (by omega)
    · rw [upd_same, es, List.map_append]
      rfl
  | false =>
    rw [e, if_neg (by simp), List.append_nil] at es
    exact h2 e ⟨s, by rw [es]; exact eD⟩
theorem ok_law_takes (T : Txt mg) (F : Fun K "_law_takes" "_law_takes" s_law_takes f fd) : FnOk P w K mg base CX0 1 f fd ["_law_words"] sp_law_takes := by
  have nd := sc_law_takes.nd
  refine F.ok sc_law_takes (fun vs H Q Ex h => ?_) (fun cdv A outer s H vs Q Ex hr h => ?_)
  · obtain ⟨_, _, rfl, _⟩ := h
    rfl
  · obtain ⟨a, ws, rfl, hp, q⟩ := h
    refine ⟨_, pss_one (ps_ret (pe_lc (own := [("_law_place", 1)]) (g := gName 1) rfl nd (pi_range1 rfl T.range (pa_cons (pe_callB call_len_seq (by rfl) T.len (by decide +kernel) (pa_cons (pv 0) pa_nil)) pa_nil)) (blkOk_by (own := [("_law_place", 1)]) (N := Nlaw_takes) (sc := defScope s_law_takes) (by decide +kernel)) (fun _ _ _ _ _ => (pg_name (i := 1) nd rfl (Or.inl rfl))) (fun _ _ _ _ _ => (pts_one (pt_val (pe_callB (r := rIsi K) call_isi (by rfl) T.isinstance (by decide +kernel) (pa_cons (pe_ix (r := rIxT K) ix_tup (pv 0) (pv 1) (fun _ _ => rfl)) (pa_cons (pe_ty (Ty := "tuple") T.tuple (by decide +kernel)) pa_nil)))))) (fun _ _ _ _ _ => (pv 1)))), ?_⟩
    obtain ⟨us, ea, hw⟩ := hp.at_
    have hlen : us.length = ws.length := Paired.length hw
    have h60 := hp.len
    refine ⟨_, rfl, a, us, rfl, .inr (SqT.h ea), _, rfl, by omega, by omega, fun D nD => ?_⟩
    rw [show ((us.length : Nat) : Int).toNat = ws.length by omega]
    refine lc_range (lo := 0) (n := ws.length) (fun j H' => Same H H' ∧ H' D = some (.lst ((tkAll ws j).map natV))) ⟨same_new _ nD, upd_same⟩ ?_ ?_
    · rintro j H1 hj ⟨s1, eD⟩
      have eu : ws[j]? = some ws[j] := List.getElem?_eq_getElem hj
      generalize ws[j] = u at eu
      obtain ⟨x, hx, wu⟩ := pd_at_right hw eu
      have e0 : (0 : Int) + (j : Int) = (j : Int) := by omega
      rw [e0]
      obtain ⟨ty, hty, hk⟩ := isT_at (K := K) (wu.mono s1.tups)
      refine ⟨rfl, _, rfl, _, rfl, a, us, (j : Int), x, rfl, rfl, SqT.h (s1 _ _ ea), atI_nat hx, _, _, ty, _, _, rfl, .ty _, hty, hk, u.isTake, rfl, ?_⟩
      refine tk_step (us := us) (M := True) eu h60 s1 nD eD (fun e z => ?_) (fun e z => ?_)
      · rw [e]
        exact iteT ⟨_, rfl, z⟩
      · rw [e]
        exact iteF z
    · rintro H1 ⟨s1, eD⟩
      exact q H1 D s1 nD eD
/-! ### _law_owners -/
abbrev s_law_owners : Stmt := topS 76
abbrev Nlaw_owners : List Str := ["_law_words", "_law_spans_here", "_law_takes_here", "_law_found", "_law_place", "_law_word", "_law_some_here", "_law_at"]
theorem sc_law_owners : FnScope Nlaw_owners ["_law_words"] (defScope s_law_owners) := ⟨rfl, rfl, rfl, by decide +kernel, rfl, by decide +kernel, by decide +kernel⟩
/-- what the inner list asks of a take -/
def oCond (ws : List W) (p : Nat) (u : W) (a : Nat) : Bool := decide (a < p) && decide (p < E ws a) && PyData.eqv (.str (nmAt ws a)) (wdD u)
theorem oCond_cand {ws : List W} {p a : Nat} {s : Str} (hu : ws[p]? = some (.name s)) (ha : a ∈ tkAll ws ws.length) : oCond ws p (.name s) a = Cand ws p a := by
  obtain ⟨t, k, e⟩ := mem_tkAll.mp ha
  unfold oCond Cand
  congr 1
  unfold nmAt
  rw [e, hu]
  simp only [takesName, wdD, PyData.eqv]
  exact Bool.beq_eq_decide_eq _ _
theorem oCond_use {ws : List W} {p a : Nat} (hn : nmAt ws a ≠ "@") : oCond ws p .use a = false := by
  unfold oCond
  simp [wdD, PyData.eqv, hn]
theorem filter_snoc {α : Type} (c : α → Bool) (l : List α) {i : Nat} {x : α} (h : l[i]? = some x) : (l.take (i + 1)).filter c = (l.take i).filter c ++ if c x = true then [x] else [] := by
  rw [List.take_add_one, h, List.filter_append]
  congr 1
  by_cases e : c x = true
  · rw [if_pos e]; exact List.filter_cons_of_pos e
  · rw [if_neg e]; exact List.filter_cons_of_neg e
theorem oCond_take {ws : List W} {p a : Nat} {s : Str} {k : Kd} : oCond ws p (.take s k) a = false := by
  unfold oCond
  simp [wdD, PyData.eqv]
theorem tk_name {H : Hp} {ws : List W} {us : List V} (hw : WsV H us ws) {a : Nat} (ha : a ∈ tkAll ws ws.length) : ∃ p x, us[a]? = some (.ref p) ∧ H p = some (.tup [.str (nmAt ws a), x]) ∧ nameOk (nmAt ws a) = true := by
  obtain ⟨s, k, e⟩ := mem_tkAll.mp ha
  obtain ⟨x, hx, q, y, rfl, eq, hn, _⟩ := pd_at_right hw e
  have en : nmAt ws a = s := by unfold nmAt; rw [e]
  rw [en]
  exact ⟨q, y, hx, eq, hn⟩
/-- the list of the inner takes tells the owner -/
theorem owner_none_of {ws : List W} {p : Nat} {s : Str} (hu : ws[p]? = some (.name s)) (h : (tkAll ws ws.length).filter (oCond ws p (.name s)) = []) : owner ws p = none := by
  rw [owner_none]
  intro b
  cases e : Cand ws p b with
  | false => rfl
  | true =>
    obtain ⟨_, _, t, k, hb, _⟩ := Cand_iff.mp e
    have hm : b ∈ tkAll ws ws.length := mem_tkAll.mpr ⟨t, k, hb⟩
    have : b ∈ (tkAll ws ws.length).filter (oCond ws p (.name s)) := List.mem_filter.mpr ⟨hm, by rw [oCond_cand hu hm]; exact e⟩
    rw [h] at this
    cases this
theorem owner_max_of {ws : List W} {p : Nat} {s : Str} (hu : ws[p]? = some (.name s)) {m : Nat} (hm : m ∈ (tkAll ws ws.length).filter (oCond ws p (.name s))) (hx : ∀ b, b ∈ (tkAll ws ws.length).filter (oCond ws p (.name s)) → b ≤ m) : owner ws p = some m := by
  rw [owner_some]
  obtain ⟨h1, h2⟩ := List.mem_filter.mp hm
  refine ⟨by rw [← oCond_cand hu h1]; exact h2, fun b e => hx b ?_⟩
  obtain ⟨_, _, t, k, hb, _⟩ := Cand_iff.mp e
  have hm : b ∈ tkAll ws ws.length := mem_tkAll.mpr ⟨t, k, hb⟩
  exact List.mem_filter.mpr ⟨hm, by rw [oCond_cand hu hm]; exact e⟩
theorem ok_law_owners (T : Txt mg) (c_law_spans : Cl P w K mg base "_law_spans" 1 ["_law_words"] sp_ends_of) (F : Fun K "_law_owners" "_law_owners" s_law_owners f fd) : FnOk P w K mg base CX0 2 f fd ["_law_words"] sp_takers_of := by
  have nd := sc_law_owners.nd
  refine F.ok sc_law_owners (fun vs H Q Ex h => ?_) (fun cdv A outer s H vs Q Ex hr h => ?_)
  · obtain ⟨_, _, rfl, _⟩ := h
    rfl
  · obtain ⟨a, ws, rfl, hp, q⟩ := h
    have hu64 := hu64_of hr
    refine ⟨_, pss_cons (ps_set (i := 1) nd rfl (Or.inr rfl) (pe_cl c_law_spans hr (by omega) (pa_cons (pv 0) pa_nil)))
    (pss_cons (ps_setLc (i := 2) (own := [("_law_at", 7)]) (g := gName 7) rfl nd rfl rfl (sw_true rfl rfl rfl (by decide +kernel)) (pi_range1 rfl T.range (pa_cons (pe_callB call_len_seq (by rfl) T.len (by decide +kernel) (pa_cons (pv 0) pa_nil)) pa_nil)) (blkOk_by (own := [("_law_at", 7)]) (N := Nlaw_owners) (sc := defScope s_law_owners) (by decide +kernel)) (fun _ _ _ _ _ => (pg_name (i := 7) nd rfl (Or.inl rfl))) (fun _ _ _ _ _ => (pts_one (pt_val (pe_callB (r := rIsi K) call_isi (by rfl) T.isinstance (by decide +kernel) (pa_cons (pe_ix (r := rIxT K) ix_tup (pv 0) (pv 7) (fun _ _ => rfl)) (pa_cons (pe_ty (Ty := "tuple") T.tuple (by decide +kernel)) pa_nil)))))) (fun _ _ _ _ _ => (pv 7)))
    (pss_cons (ps_set (i := 3) nd rfl (Or.inl rfl) (pe_lst pa_nil))
    (pss_cons (ps_for PassesOwn.never rfl (pi_enumT (by rfl) T.enumerate (pa_cons (pv 0) pa_nil)) (pg_tup rfl (pgs_cons (pg_name (i := 4) nd rfl (Or.inr rfl)) (pgs_cons (pg_name (i := 5) nd rfl (Or.inr rfl)) pgs_nil)))
      (pss_cons (ps_setLc (i := 6) (own := [("_law_at", 7)]) (g := gName 7) rfl nd rfl rfl (sw_true rfl rfl rfl (by decide +kernel)) (pi_list (pv 2)) (blkOk_by (own := [("_law_at", 7)]) (N := Nlaw_owners) (sc := defScope s_law_owners) (by decide +kernel)) (fun _ _ _ _ _ => (pg_name (i := 7) nd rfl (Or.inl rfl))) (fun _ _ _ _ _ => (pts_one (PW.pt (pw_and (pt_chain op_lt op_lt (pv 7) (pv 4) (pe_ix (r := rIxL K) ix_list (pv 1) (pv 7) (fun _ _ => rfl))) (pw_and1 (pt_cmpR (r := rEqD K) (op_eqD hu64) (pe_ix (r := rIxT K) ix_tup (pe_ix (r := rIxT K) ix_tup (pv 0) (pv 7) (fun _ _ => rfl)) pe_int (fun _ _ => rfl)) (pv 5) (nomark _))))))) (fun _ _ _ _ _ => (pv 7)))
      (pss_one (ps_expr (pe_bm PySem.F.plainAttrs_list PySem.F.slot_list_append PySem.F.type_list_append mt_append (pv 3) (pa_cons (pe_ifExp (PW.pt (pw_and (pt_val (pe_callB call_isi (by rfl) T.isinstance (by decide +kernel) (pa_cons (pv 5) (pa_cons (pe_ty (Ty := "str") T.str (by decide +kernel)) pa_nil)))) (pw_and1 (pt_cmpR op_gt (pe_callB call_len_seq (by rfl) T.len (by decide +kernel) (pa_cons (pv 6) pa_nil)) pe_int (nomark _))))) (pe_callB (cr_max rfl) (by rfl) T.max (by decide +kernel) (pa_cons (pv 6) pa_nil)) pe_non) pa_nil))))))
    (pss_one (ps_ret (pv 3)))))), ?_⟩
    obtain ⟨us, ea, hw⟩ := hp.at_
    have hlen : us.length = ws.length := Paired.length hw
    have h60 := hp.len
    refine ⟨_, rfl, a, ws, rfl, hp, fun H1 sp s1 nsp esp => ?_⟩
    refine ⟨_, rfl, a, us, rfl, .inr (SqT.h (s1 _ _ ea)), _, rfl, by omega, by omega, fun D nD => ?_⟩
    rw [show ((us.length : Nat) : Int).toNat = ws.length by omega]
    refine lc_range (lo := 0) (n := ws.length) (fun j H' => Same H1 H' ∧ H' D = some (.lst ((tkAll ws j).map natV))) ⟨same_new _ nD, upd_same⟩ ?_ ?_
    · rintro j H2 hj ⟨s2, eD⟩
      have eu : ws[j]? = some ws[j] := List.getElem?_eq_getElem hj
      generalize ws[j] = u at eu
      obtain ⟨x, hx, wu⟩ := pd_at_right hw eu
      have e0 : (0 : Int) + (j : Int) = (j : Int) := by omega
      rw [e0]
      obtain ⟨ty, hty, hk⟩ := isT_at (K := K) (wu.mono (s1.trans s2).tups)
      refine ⟨rfl, _, rfl, _, rfl, a, us, (j : Int), x, rfl, rfl, SqT.h (s2 _ _ (s1 _ _ ea)), atI_nat hx, _, _, ty, _, _, rfl, .ty _, hty, hk, u.isTake, rfl, ?_⟩
      refine tk_step (us := us) (M := True) eu h60 s2 nD eD (fun e z => ?_) (fun e z => ?_)
      · rw [e]
        exact iteT ⟨_, rfl, z⟩
      · rw [e]
        exact iteF z
    rintro H2 ⟨s2, eD⟩
    have s02 := s1.trans s2
    refine ⟨Nat.zero_le _, fun fo nfo => ?_⟩
    generalize eH3 : upd H2 fo (.lst []) = H3
    obtain ⟨s3, e3, f3⟩ := new_f nfo eH3
    have s03 := s02.trans s3
    have nf0 : H fo = none := s02.free nfo
    refine ⟨_, rfl, a, us, rfl, SqT.h (s03 _ _ ea), ?_⟩
    have htl := tkAll_len ws ws.length
    refine for_it (walk_enumT (K := K) (a := a) (xs := us)) (fun i σ H' => ∃ (y4 y5 y6 : Option V), σ = [some (.ref a), some (.ref sp), some (.ref D), some (.ref fo), y4, y5, y6, none] ∧ Same H H' ∧ H' sp = some (.lst ((ends ws).map natV)) ∧ H' D = some (.lst ((tkAll ws ws.length).map natV)) ∧ H' fo = some (.lst (((owners ws).take i).map optV))) ?_ ?_ ?_ ?_
    · exact ⟨none, none, none, rfl, s03, s3 _ _ (s2 _ _ esp), s3 _ _ eD, e3⟩
    · rintro i σ H' hi ⟨_, _, _, _, s4, _⟩
      exact SqT.h (s4 _ _ ea)
    · rintro i x0 σ H4 H5 hi ⟨y4, y5, y6, rfl, s4, es4, ed4, ef4⟩ ⟨Tp, x1, x, rfl, nT, eH5, ex1, hx⟩
      have ex1' := Option.some.inj ex1
      subst ex1'
      have hil : i < ws.length := by omega
      obtain ⟨u, eu, wu⟩ := pd_at_left hw hx
      obtain ⟨s5, e5, f5⟩ := new_f nT eH5.symm
      have s45 := s4.trans s5
      have wu5 : WdV H5 x u := wu.mono s45.tups
      refine ⟨Tp, _, rfl, SqT.h e5, rfl, _, _, rfl, _, _, rfl, rfl, ?_⟩
      refine ⟨_, rfl, D, rfl, ⟨_, SqL.h (s5 _ _ ed4)⟩, fun E1 nE1 => ?_⟩
      refine lc_list (K := K) (a := D) (xs := (tkAll ws ws.length).map natV) (fun j H' => Same H5 H' ∧ H' E1 = some (.lst ((((tkAll ws ws.length).take j).filter (oCond ws i u)).map natV))) ⟨same_new _ nE1, upd_same⟩ (fun j H' _ h' => SqL.h (h'.1 _ _ (s5 _ _ ed4))) ?_ ?_
      · rintro j z H6 hz ⟨s6, eE⟩
        obtain ⟨b, eb, rfl⟩ := nat_at hz
        have hbm : b ∈ tkAll ws ws.length := List.mem_of_getElem? eb
        have hjl := (List.getElem?_eq_some_iff.mp eb).1
        obtain ⟨pb, xb, hxb, epb, hnb⟩ := tk_name hw hbm
        obtain ⟨sb, kb, ewb⟩ := mem_tkAll.mp hbm
        have hbl := (List.getElem?_eq_some_iff.mp ewb).1
        have s06 := s45.trans s6
        have es := filter_snoc (oCond ws i u) _ eb
        have stepT : oCond ws i u b = true → ∃ acc, H6 E1 = some (.lst acc) ∧ acc.length < sizeLine ∧ Same H5 (upd H6 E1 (.lst (acc ++ [natV b]))) ∧ upd H6 E1 (.lst (acc ++ [natV b])) E1 = some (.lst ((((tkAll ws ws.length).take (j + 1)).filter (oCond ws i u)).map natV)) := by
          intro e
          rw [e, if_pos rfl] at es
          refine ⟨_, eE, ?_, s6.mut nE1 (fun b hb => upd_ne hb), ?_⟩
          · rw [List.length_map]
            have := List.length_filter_le (oCond ws i u) ((tkAll ws ws.length).take j)
            rw [List.length_take] at this
            exact lt60 (by omega)
          · rw [upd_same, es, List.map_append]
            rfl
        have stepF : oCond ws i u b = false → Same H5 H6 ∧ H6 E1 = some (.lst ((((tkAll ws ws.length).take (j + 1)).filter (oCond ws i u)).map natV)) := by
          intro e
          rw [e, if_neg (by simp), List.append_nil] at es
          exact ⟨s6, by rw [es]; exact eE⟩
        have es6 : H6 sp = some (.lst ((ends ws).map natV)) := s6 _ _ (s5 _ _ es4)
        have eEb : ((ends ws).map natV)[b]? = some (natV (E ws b)) := by rw [List.getElem?_map, ends_E hbl]; rfl
        refine ⟨rfl, _, rfl, _, rfl, _, _, rfl, rfl, ?_⟩
        by_cases c1 : b < i
        · refine ⟨true, eT (show (b : Int) < (i : Int) by omega), iteT ?_⟩
          refine ⟨_, rfl, _, rfl, sp, _, (b : Int), _, rfl, rfl, SqL.h es6, atI_nat eEb, _, _, rfl, rfl, ?_⟩
          by_cases c2 : i < E ws b
          · refine ⟨true, eT (show (i : Int) < ((E ws b : Nat) : Int) by omega), iteT ?_⟩
            refine ⟨_, rfl, _, rfl, a, us, (b : Int), _, rfl, rfl, SqT.h (s06 _ _ ea), atI_nat hxb, ?_⟩
            refine ⟨pb, _, 0, V.str (nmAt ws b), rfl, rfl, SqT.h (s06 _ _ epb), rfl, ?_⟩
            refine ⟨_, rfl, _, _, .str _, (wu5.mono s6.tups).dp, str_shaped (nameOk_strOk hnb), wu5.shaped, ?_⟩
            have hc : oCond ws i u b = PyData.eqv (.str (nmAt ws b)) (wdD u) := by
              unfold oCond
              rw [decide_eq_true c1, decide_eq_true c2]
              rfl
            rw [← hc]
            cases e : oCond ws i u b with
            | true => exact ⟨true, rfl, iteT ⟨_, rfl, stepT e⟩⟩
            | false => exact ⟨false, rfl, iteF (stepF e)⟩
          · refine ⟨false, eF (show ¬ (i : Int) < ((E ws b : Nat) : Int) by omega), iteF ?_⟩
            exact stepF (by unfold oCond; rw [decide_eq_false c2]; simp)
        · refine ⟨false, eF (show ¬ (b : Int) < (i : Int) by omega), iteF ?_⟩
          refine ⟨false, rfl, iteF ?_⟩
          exact stepF (by unfold oCond; rw [decide_eq_false c1]; simp)
      rintro H6 ⟨s6, eE⟩
      rw [List.length_map, List.take_of_length_le (Nat.le_refl _)] at eE
      have s06 := s45.trans s6
      have ef6 : H6 fo = some (.lst (((owners ws).take i).map optV)) := s6 _ _ (s5 _ _ ef4)
      have fin : ∀ (R : L2.St → Hp → Prop), (∀ σ' H', (∃ (y4 y5 y6 : Option V), σ' = [some (.ref a), some (.ref sp), some (.ref D), some (.ref fo), y4, y5, y6, none] ∧ Same H H' ∧ H' sp = some (.lst ((ends ws).map natV)) ∧ H' D = some (.lst ((tkAll ws ws.length).map natV)) ∧ H' fo = some (.lst (((owners ws).take (i + 1)).map optV))) → R σ' H') → ∀ (o : Option Nat), owner ws i = o →
          ∃ l ys y, V.ref fo = .ref l ∧ [optV o] = [y] ∧ H6 l = some (.lst ys) ∧ ys.length < sizeLine ∧ R [some (.ref a), some (.ref sp), some (.ref D), some (.ref fo), some (.int (i : Int)), some x, some (.ref E1), none] (upd H6 l (.lst (ys ++ [y]))) := by
        rintro R hR o rfl
        refine ⟨fo, _, _, rfl, rfl, ef6, ?_, ?_⟩
        · rw [List.length_map, List.length_take, owners_len]
          exact lt60 (by omega)
        refine hR _ _ ⟨_, _, _, rfl, s06.mut nf0 (fun b hb => upd_ne hb), ?_, ?_, ?_⟩
        · rw [upd_ne (ne_of_none esp (by rw [s2.free nfo]))]
          exact s6 _ _ (s5 _ _ es4)
        · rw [upd_ne (ne_of_none eD nfo)]
          exact s6 _ _ (s5 _ _ ed4)
        · rw [upd_same, owners_take hil, List.map_append]
          rfl
      obtain ⟨ty, hty, hk⟩ := isS_at (K := K) (wu5.mono s6.tups)
      refine ⟨_, rfl, .inl ⟨rfl, _, SqL.h ef6⟩, _, rfl, _, _, ty, _, _, rfl, .ty _, hty, hk, _, rfl, ?_⟩
      cases u with
      | take s1 k1 =>
        refine iteF ?_
        exact fin _ (fun _ _ z => z) none (owner_notname fun s e => by rw [eu] at e; cases e)
      | use =>
        refine iteT ?_
        have hnil : (tkAll ws ws.length).filter (oCond ws i .use) = [] := by
          rw [List.filter_eq_nil_iff]
          intro b hb
          obtain ⟨_, _, _, _, hnb⟩ := tk_name hw hb
          rw [oCond_use (name_ne_use hnb)]
          simp
        rw [hnil] at eE
        refine ⟨_, rfl, E1, _, rfl, .inl (SqL.h eE), _, _, rfl, rfl, false, rfl, iteF ?_⟩
        exact fin _ (fun _ _ z => z) none (owner_notname fun s e => by rw [eu] at e; cases e)
      | name s1 =>
        refine iteT ?_
        by_cases hnil : (tkAll ws ws.length).filter (oCond ws i (.name s1)) = []
        · rw [hnil] at eE
          refine ⟨_, rfl, E1, _, rfl, .inl (SqL.h eE), _, _, rfl, rfl, false, rfl, iteF ?_⟩
          exact fin _ (fun _ _ z => z) none (owner_none_of eu hnil)
        · have hpos := List.length_pos_iff.mpr hnil
          refine ⟨_, rfl, E1, _, rfl, .inl (SqL.h eE), _, _, rfl, rfl, true, eT (show (0 : Int) < _ by rw [List.length_map]; omega), iteT ?_⟩
          refine ⟨_, rfl, E1, ((tkAll ws ws.length).filter (oCond ws i (.name s1))).map (fun n : Nat => (n : Int)), rfl, ?_, by rw [List.length_map]; exact hpos, fun m hm hmx => ?_⟩
          · refine SqL.h ?_
            rw [eE, List.map_map]
            rfl
          · obtain ⟨m', hm', rfl⟩ := List.mem_map.mp hm
            refine fin _ (fun _ _ z => z) (some m') (owner_max_of eu hm' fun b hb => ?_)
            have := hmx (b : Int) (List.mem_map.mpr ⟨b, hb, rfl⟩)
            omega
    · rintro σ H4 ⟨y4, y5, y6, rfl, s4, es4, ed4, ef4⟩
      rw [List.take_of_length_le (by rw [owners_len]; omega)] at ef4
      exact ⟨_, rfl, q H4 fo s4 nf0 ef4⟩
end
end K8
namespace K8
open PySem PySem.Spec PyProof.Rows L2
section
variable {P : Program} {w : World} {K : PySem.W.Frag} {mg : Str → Option Value} {base : Heap} {f : Addr} {fd : FuncData}
variable {ws : List W} {kn : Str → Option Kd} {H0 H H1 H2 : Hp} {fo : Addr} {p : Nat} {vs : List V} {wr : Option Nat}
/-! ### _law_kinds -/
abbrev s_law_kinds : Stmt := topS 79
abbrev Nlaw_kinds : List Str := ["_law_words", "_law_known_here", "_law_spans_here", "_law_owners_here", "_law_found", "_law_wrong", "_law_place", "_law_word", "_law_one", "_law_other"]
theorem sc_law_kinds : FnScope Nlaw_kinds ["_law_words", "_law_known_here"] (defScope s_law_kinds) := ⟨rfl, rfl, rfl, by decide +kernel, rfl, by decide +kernel, by decide +kernel⟩
theorem ok_law_kinds (T : Txt mg) (c_law_spans : Cl P w K mg base "_law_spans" 1 ["_law_words"] sp_ends_of) (c_law_owners : Cl P w K mg base "_law_owners" 2 ["_law_words"] sp_takers_of)
    (F : Fun K "_law_kinds" "_law_kinds" s_law_kinds f fd) : FnOk P w K mg base CX0 3 f fd ["_law_words", "_law_known_here"] sp_kinds_of_parts := by
  have nd := sc_law_kinds.nd
  refine F.ok sc_law_kinds (fun vs H Q Ex h => ?_) (fun cdv A outer s H vs Q Ex hr h => ?_)
  · obtain ⟨_, _, _, _, rfl, _⟩ := h
    rfl
  · obtain ⟨a, d, ws, kn, rfl, hp, hkn, hop, q⟩ := h
    have hu := hu_of hr
    have hu64 := hu64_of hr
    refine ⟨_, pss_cons (ps_set (i := 2) nd rfl (Or.inl rfl) (pe_cl c_law_spans hr (by omega) (pa_cons (pv 0) pa_nil)))
    (pss_cons (ps_set (i := 3) nd rfl (Or.inl rfl) (pe_cl c_law_owners hr (by omega) (pa_cons (pv 0) pa_nil)))
    (pss_cons (ps_set (i := 4) nd rfl (Or.inl rfl) (pe_op op_rep (pe_lst (pa_cons pe_non pa_nil)) (pe_callB call_len_seq (by rfl) T.len (by decide +kernel) (pa_cons (pv 0) pa_nil))))
    (pss_cons (ps_set (i := 5) nd rfl (Or.inl rfl) pe_non)
    (pss_cons (ps_for PassesOwn.never rfl (pi_range3 rfl T.range (pa_cons (pe_op op_sub (pe_callB call_len_seq (by rfl) T.len (by decide +kernel) (pa_cons (pv 0) pa_nil)) pe_int) (pa_cons (pe_un un_neg pe_int) (pa_cons (pe_un un_neg pe_int) pa_nil)))) (pg_name (i := 6) nd rfl (Or.inl rfl))
      (pss_cons (ps_set (i := 7) nd rfl (Or.inl rfl) (pe_ix ix_tup (pv 0) (pv 6) (fun _ _ => rfl)))
      (pss_one (ps_if (pt_val (pe_callB call_isi (by rfl) T.isinstance (by decide +kernel) (pa_cons (pv 7) (pa_cons (pe_ty (Ty := "tuple") T.tuple (by decide +kernel)) pa_nil)))) (pss_one (ps_asg (pe_ifExp (pt_cmpR op_isN (pe_ix ix_list (pv 4) (pe_op op_add (pv 6) pe_int) (fun _ _ => rfl)) pe_non (nomark _)) pe_non (pe_tup (pa_cons (pe_ix ix_tup (pv 7) pe_int (fun _ _ => rfl)) (pa_cons (pe_ix ix_list (pv 4) (pe_op op_add (pv 6) pe_int) (fun _ _ => rfl)) pa_nil)))) (pg_sub (pv 4) (pv 6) set_list))) (pss_one (ps_if (pt_cmpR (op_neD hu64) (pv 7) pe_str (nomark _)) (pss_one (ps_asg (pe_ifExp (pt_cmpR op_isN (pe_ix ix_list (pv 3) (pv 6) (fun _ _ => rfl)) pe_non (nomark _)) (pe_dget1 hu (pv 1) (pv 7) ⟨rfl, rfl, rfl, rfl⟩) (pe_ix ix_tup (pe_ix ix_tup (pv 0) (pe_ix ix_list (pv 3) (pv 6) (fun _ _ => rfl)) (fun _ _ => rfl)) pe_int (fun _ _ => rfl))) (pg_sub (pv 4) (pv 6) set_list))) (pss_cons (ps_par (i := 8) (j := 9) (by rfl) nd rfl rfl (by decide) rfl rfl (pa_cons (pe_ix ix_list (pv 4) (pe_op op_add (pv 6) pe_int) (fun _ _ => rfl)) (pa_cons (pe_ix ix_list (pv 4) (pe_ix ix_list (pv 2) (pe_op op_add (pv 6) pe_int) (fun _ _ => rfl)) (fun _ _ => rfl)) pa_nil)) (by rfl))
          (pss_one (ps_if (PW.pt (pw_and (pt_cmpR op_notN (pv 8) pe_non (nomark _)) (pw_and1 (pt_cmpR op_notN (pv 9) pe_non (nomark _))))) (pss_one (ps_if (PW.pt (pw_and (pt_val (pe_callB call_isi (by rfl) T.isinstance (by decide +kernel) (pa_cons (pv 8) (pa_cons (pe_ty (Ty := "tuple") T.tuple (by decide +kernel)) pa_nil)))) (pw_and1 (pt_cmpR (op_eqD hu64) (pe_ix ix_tup (pv 8) pe_int (fun _ _ => rfl)) (pv 9) (nomark _))))) (pss_one (ps_asg (pe_ix ix_tup (pv 8) pe_int (fun _ _ => rfl)) (pg_sub (pv 4) (pv 6) set_list))) (pss_one (ps_set (i := 5) nd rfl (Or.inl rfl) (pv 6))))) pss_nil)))))))))
    (pss_one (ps_ret (pe_tup (pa_cons (pv 4) (pa_cons (pv 5) pa_nil))))))))), ?_⟩
    obtain ⟨us, ea, hw⟩ := hp.at_
    have hlen : us.length = ws.length := Paired.length hw
    have h60 := hp.len
    -- takers, ends, found
    refine ⟨_, rfl, a, ws, rfl, hp, fun H1 eo s1 neo e1 => ?_⟩
    refine ⟨_, rfl, a, ws, rfl, hp.mono s1.tups, fun H2 to s2 nto e2 => ?_⟩
    have s12 := s1.trans s2
    refine ⟨(by show 1 ≤ sizeLine; decide), fun z nz => ?_⟩
    generalize eH : upd H2 z (.lst [V.non]) = H3
    obtain ⟨s3, e3, f3⟩ := new_f nz eH
    refine ⟨_, rfl, a, us, rfl, .inr (SqT.h (s3 _ _ (s12 _ _ ea))), z, _, _, rfl, rfl, e3, by omega, by omega, ?_, fun fo nfo => ?_⟩
    · show 1 * ((us.length : Nat) : Int).toNat ≤ sizeLine
      exact le60 (by omega)
    rw [show ((us.length : Nat) : Int).toNat = ws.length by omega, flat_rep]
    generalize eH4 : upd H3 fo (.lst (List.replicate ws.length V.non)) = H4
    obtain ⟨s4, e4, f4⟩ := new_f nfo eH4
    have s24 : Same H2 H4 := s3.trans s4
    have nf2 : H2 fo = none := s3.free nfo
    have eeo2 := s2 _ _ e1
    have ea2 := s12 _ _ ea
    -- the loop
    refine ⟨_, rfl, a, us, rfl, .inr (SqT.h (s24 _ _ ea2)), _, _, rfl, rfl, 1, rfl, 1, rfl, _, _, _, _, rfl, RgC.neg (by omega) (by omega) (by omega) (by omega), ?_⟩
    have en : (((us.length : Nat) : Int) - 1 - -1).toNat = ws.length := by omega
    rw [en]
    refine for_rangeC (fun i σ H' => ∃ (vs : List V) (wr : Option Nat) (y6 y7 y9 y10 : Option V), σ = [some (.ref a), some (.ref d), some (.ref eo), some (.ref to), some (.ref fo), some (optV wr), y6, y7, y9, y10] ∧ KsSt ws kn H2 H' fo (ws.length - i) vs wr) ?_ ?_ ?_
    · refine ⟨[], none, none, none, none, none, rfl, s24, nf2, ?_, ?_, ?_⟩
      · rw [Nat.sub_zero, List.append_nil]; exact e4
      · rw [Nat.sub_zero, List.drop_length]; exact .nil
      · rw [Nat.sub_zero, List.drop_length]; rfl
    · rintro i σ H5 hi ⟨vs, wr, y6, y7, y9, y10, rfl, st⟩
      obtain ⟨p, ep⟩ : ∃ p, ws.length - i = p + 1 := ⟨ws.length - i - 1, by omega⟩
      have epl : ws.length - (i + 1) = p := by omega
      have hpl : p < ws.length := by omega
      have eplace : (((us.length : Nat) : Int) - 1 + (i : Int) * -1) = (p : Int) := by omega
      rw [ep] at st
      rw [epl]
      have eu : ws[p]? = some ws[p] := List.getElem?_eq_getElem hpl
      generalize ws[p] = u at eu
      obtain ⟨x, hx, wu⟩ := pd_at_right hw eu
      have t5 := (s12.trans st.same).tups
      have wu5 : WdV H5 x u := wu.mono t5
      have ea5 := st.same _ _ ea2
      have eto5 := st.same _ _ e2
      have eeo5 := st.same _ _ eeo2
      have hdep : ∀ {q : Nat} {k : Kd}, (kst ws kn (p + 1) (ws.drop (p + 1))).1[q]? = some (some k) → k.depth ≤ 62 := fun h => depth_ok (fun s k e => hkn.depth e) (fun s k hm => hw.takes hm) h60 h
      have hvl := st.len
      have hfl : p < (List.replicate (p + 1) V.non ++ vs).length := by rw [List.length_append, List.length_replicate]; omega
      rw [show ((((us.length : Nat) : Int) - 1) + (i : Int) * -1) = (p : Int) from eplace]
      refine ⟨_, rfl, _, rfl, a, us, (p : Int), x, rfl, rfl, SqT.h ea5, atI_nat hx, ?_⟩
      obtain ⟨ty, hty, hkt⟩ := isT_at (K := K) wu5
      refine ⟨_, rfl, _, _, ty, _, _, rfl, .ty _, hty, hkt, u.isTake, rfl, ?_⟩
      cases u with
      | take s k =>
        refine iteT ?_
        have hq := succ_lt_take hp.wf eu
        obtain ⟨v, hv, ov, ol⟩ := st.at_ (q := p + 1) (Nat.le_refl _) hq
        rw [Nat.sub_self] at ov ol
        obtain ⟨pt, xk, rfl, ept, hn, hkk, hdk⟩ := wu5
        -- body = found[place + 1]
        refine ⟨_, rfl, _, rfl, _, _, rfl, rfl, fo, _, ((p + 1 : Nat) : Int), v, rfl, rfl, SqL.h st.o, atI_nat hv, ?_⟩
        have hkst := kst_take (kn := kn) eu
        rw [headD_zero] at hkst
        cases eo2 : ((kst ws kn (p + 1) (ws.drop (p + 1))).1[0]?).getD none with
        | none =>
          rw [eo2] at ov hkst
          have ev : v = .non := ov
          subst ev
          refine ⟨rfl, true, eT rfl, iteT ?_⟩
          refine ⟨_, rfl, _, rfl, fo, _, (p : Int), p, rfl, rfl, st.o, ixN_lt hfl, ?_⟩
          generalize eH6 : upd H5 fo (.lst ((List.replicate (p + 1) V.non ++ vs).set p V.non)) = H6
          obtain ⟨e6, f6⟩ := mut_f eH6
          exact ⟨_, wr, _, _, _, _, rfl, st.set (o := none) rfl e6 f6 (by rw [hkst, st.wr]; rfl)⟩
        | some kb =>
          rw [eo2] at ov hkst
          have ov' : KdV H5 v kb := ov
          refine ⟨rfl, false, eF ov'.ne_non, iteF ?_⟩
          refine ⟨_, rfl, pt, _, 1, xk, rfl, rfl, SqT.h ept, rfl, _, rfl, _, rfl, _, _, rfl, rfl, fo, _, ((p + 1 : Nat) : Int), v, rfl, rfl, SqL.h st.o, atI_nat hv, (by show 2 ≤ sizeLine; decide), fun TT nTT => ?_⟩
          generalize eH6 : upd H5 TT (.tup [xk, v]) = H6
          obtain ⟨s6, e6, f6⟩ := new_f nTT eH6
          have st6 := st.more s6
          refine ⟨_, rfl, _, rfl, fo, _, (p : Int), p, rfl, rfl, st6.o, ixN_lt hfl, ?_⟩
          generalize eH7 : upd H6 fo (.lst ((List.replicate (p + 1) V.non ++ vs).set p (V.ref TT))) = H7
          obtain ⟨e7, f7⟩ := mut_f eH7
          refine ⟨_, wr, _, _, _, _, rfl, st6.set (o := some (Kd.pair k kb)) ⟨TT, xk, v, rfl, e6, hkk.mono s6.tups, ov'.mono s6.tups⟩ e7 f7 (by rw [hkst, st.wr]; rfl)⟩
      | name s =>
        obtain ⟨rfl, hn⟩ := wu5
        have hne := name_ne_use hn
        have hkst := kst_name (kn := kn) eu
        refine iteF ?_
        refine ⟨_, rfl, .str s, .str "@", .str _, .str _, str_shaped (nameOk_strOk hn), str_shaped use_strOk, true, by simp [PyData.eqv, hne], iteT ?_⟩
        have hox : ((owners ws).map optV)[p]? = some (optV (owner ws p)) := by rw [List.getElem?_map, owners_at hpl]; rfl
        refine ⟨_, rfl, _, rfl, to, _, (p : Int), _, rfl, rfl, SqL.h eto5, atI_nat hox, rfl, ?_⟩
        cases ho : owner ws p with
        | none =>
          rw [ho] at hkst hox
          refine ⟨true, eT rfl, iteT ?_⟩
          have hon : openName ws p = some s := by rw [openName_of eu, ho]; rfl
          obtain ⟨kvs, ek, hv⟩ := hkn.mono (s12.trans st.same)
          rcases hv s with ⟨_, e2'⟩ | ⟨v, k, e1', e2', hkv, _⟩
          · exact absurd e2' (hop p s hon)
          refine ⟨_, rfl, d, rfl, .inl ⟨_, .inl ek⟩, _, rfl, some v, (by have := DGet.k (k := Sum.inr s) ek; rw [e1'] at this; exact this), ?_⟩
          refine ⟨_, rfl, _, rfl, fo, _, (p : Int), p, rfl, rfl, st.o, ixN_lt hfl, ?_⟩
          rw [show (some v).getD V.non = v from rfl]
          generalize eH7 : upd H5 fo (.lst ((List.replicate (p + 1) V.non ++ vs).set p v)) = H7
          obtain ⟨e7, f7⟩ := mut_f eH7
          exact ⟨_, wr, _, _, _, _, rfl, st.set (o := some k) hkv e7 f7 (by rw [hkst, st.wr]; show (kn s :: _, _) = _; rw [e2'])⟩
        | some b =>
          rw [ho] at hkst hox
          refine ⟨false, eF (fun z => by cases z), iteF ?_⟩
          obtain ⟨t, k, eb, en2⟩ := owner_take ho
          obtain ⟨xb, hxb, wb⟩ := pd_at_right hw eb
          obtain ⟨pb, xk, rfl, epb, hnb, hkb, hdb⟩ := wb
          refine ⟨_, rfl, _, rfl, _, rfl, to, _, (p : Int), _, rfl, rfl, SqL.h eto5, atI_nat hox, a, us, (b : Int), _, rfl, rfl, SqT.h ea5, atI_nat hxb, pb, _, 1, xk, rfl, rfl, SqT.h (t5 _ _ epb), rfl, ?_⟩
          refine ⟨_, rfl, _, rfl, fo, _, (p : Int), p, rfl, rfl, st.o, ixN_lt hfl, ?_⟩
          generalize eH7 : upd H5 fo (.lst ((List.replicate (p + 1) V.non ++ vs).set p xk)) = H7
          obtain ⟨e7, f7⟩ := mut_f eH7
          exact ⟨_, wr, _, _, _, _, rfl, st.set (o := some k) (hkb.mono t5) e7 f7 (by rw [hkst, st.wr]; show (takeKind ws[b]? :: _, _) = _; rw [eb]; rfl)⟩
      | use =>
        have ev : x = .str "@" := wu5
        subst ev
        have hkst := kst_use (kn := kn) eu
        have hq := succ_lt_use hp.wf eu
        have hEl := E_lt_use hp.wf eu
        have hEb := (E_bounds hp.wf hq).1
        refine iteF ?_
        refine ⟨_, rfl, .str "@", .str "@", .str _, .str _, str_shaped use_strOk, str_shaped use_strOk, false, by simp [PyData.eqv], iteF ?_⟩
        obtain ⟨v1, hv1, ov1, ol1⟩ := st.at_ (q := p + 1) (Nat.le_refl _) hq
        obtain ⟨v2, hv2, ov2, ol2⟩ := st.at_ (q := E ws (p + 1)) (by omega) hEl
        rw [Nat.sub_self] at ov1 ol1
        rw [headD_zero] at hkst
        have heo : ((ends ws).map natV)[p + 1]? = some (natV (E ws (p + 1))) := by rw [List.getElem?_map, ends_E hq]; rfl
        refine ⟨_, rfl, _, rfl, _, _, rfl, rfl, fo, _, ((p + 1 : Nat) : Int), v1, rfl, rfl, SqL.h st.o, atI_nat hv1, _, rfl, _, rfl, _, rfl, _, _, rfl, rfl, eo, _, ((p + 1 : Nat) : Int), _, rfl, rfl, SqL.h eeo5, atI_nat heo, fo, _, (E ws (p + 1) : Int), v2, rfl, rfl, SqL.h st.o, atI_nat hv2, v1, v2, rfl, ?_⟩
        generalize ((kst ws kn (p + 1) (ws.drop (p + 1))).1[0]?).getD none = o1 at ov1 ol1 hkst
        generalize ((kst ws kn (p + 1) (ws.drop (p + 1))).1[E ws (p + 1) - (p + 1)]?).getD none = o2 at ov2 ol2 hkst
        have hwr := st.wr
        cases o1 with
        | none =>
          have ev1 : v1 = .non := ov1
          subst ev1
          refine ⟨_, rfl, rfl, false, rfl, iteF ?_⟩
          exact ⟨_, wr, _, _, _, _, rfl, st.skip (by rw [hkst, hwr]; rfl)⟩
        | some k1 =>
          have ov1' : KdV H5 v1 k1 := ov1
          refine ⟨_, rfl, rfl, true, by rw [decide_eq_false ov1'.ne_non]; rfl, iteT ?_⟩
          cases o2 with
          | none =>
            have ev2 : v2 = .non := ov2
            subst ev2
            refine ⟨_, rfl, rfl, false, rfl, iteF ?_⟩
            exact ⟨_, wr, _, _, _, _, rfl, st.skip (by rw [hkst, hwr]; cases k1 <;> rfl)⟩
          | some k2 =>
            have ov2' : KdV H5 v2 k2 := ov2
            refine ⟨_, rfl, rfl, true, by rw [decide_eq_false ov2'.ne_non]; rfl, iteT ?_⟩
            cases k1 with
            | leaf n =>
              obtain ⟨rfl, _, _⟩ := ov1'
              refine ⟨_, rfl, _, _, _, _, false, rfl, .ty _, .base (.int n), isi_int_tuple, false, rfl, iteF ?_⟩
              exact ⟨_, rfl, _, some p, _, _, _, _, rfl, st.skip (by rw [hkst]; rfl)⟩
            | pair ka kb =>
              obtain ⟨p1, xa, xb, rfl, ep1, ha, hb⟩ := ov1'
              have hd1 : (Kd.pair ka kb).depth ≤ 62 := hdep ol1
              have hd2 : k2.depth ≤ 62 := hdep ol2
              simp only [Kd.depth] at hd1
              refine ⟨_, rfl, _, _, _, _, true, rfl, .ty _, .base (.tup ep1), isi_tuple_tuple, true, rfl, iteT ?_⟩
              refine ⟨_, rfl, p1, _, 0, xa, rfl, rfl, SqT.h ep1, rfl, _, rfl, kdD ka, kdD k2, ha.dp, ov2'.dp, kd_shaped (by omega), kd_shaped (by omega), ?_⟩
              rw [kdD_eqv]
              by_cases e : ka = k2
              · refine ⟨true, eT e, iteT ?_⟩
                refine ⟨_, rfl, p1, _, 1, xb, rfl, rfl, SqT.h ep1, rfl, ?_⟩
                refine ⟨_, rfl, _, rfl, fo, _, (p : Int), p, rfl, rfl, st.o, ixN_lt hfl, ?_⟩
                generalize eH7 : upd H5 fo (.lst ((List.replicate (p + 1) V.non ++ vs).set p xb)) = H7
                obtain ⟨e7, f7⟩ := mut_f eH7
                refine ⟨_, wr, _, _, _, _, rfl, st.set (o := some kb) hb e7 f7 ?_⟩
                rw [hkst, hwr]
                simp [useKind, e]
              · refine ⟨false, eF e, iteF ?_⟩
                refine ⟨_, rfl, _, some p, _, _, _, _, rfl, st.skip ?_⟩
                rw [hkst]
                simp [useKind, e]
    · rintro σ H5 ⟨vs, wr, y6, y7, y9, y10, rfl, st⟩
      rw [Nat.sub_self] at st
      refine ⟨_, rfl, _, rfl, (by show 2 ≤ sizeLine; decide), fun t nt => ?_⟩
      generalize eH6 : upd H5 t (.tup [V.ref fo, optV wr]) = H6
      obtain ⟨s6, e6, f6⟩ := new_f nt eH6
      have st6 := st.more s6
      have hn : (kst ws kn 0 (ws.drop 0)) = kst ws kn 0 ws := rfl
      refine q H6 t fo vs (s12.trans st6.same) ((s12.trans st.same).free nt) ?_ st6.o st6.pd
      rw [e6, st.wr]
      rfl
end
end K8
namespace K8
open PySem PySem.Spec PyProof.Rows L2
theorem frange_succ (c : Nat → Bool) (n : Nat) : (List.range (n + 1)).filter c = (List.range n).filter c ++ if c n = true then [n] else [] := by
  rw [List.range_succ, List.filter_append]
  congr 1
  by_cases h : c n = true
  · rw [if_pos h, List.filter_cons_of_pos h]; rfl
  · rw [if_neg h, List.filter_cons_of_neg h]; rfl
theorem frange_len (c : Nat → Bool) (n : Nat) : ((List.range n).filter c).length ≤ n := by
  have := List.length_filter_le c (List.range n)
  rw [List.length_range] at this
  exact this
theorem openB_none {u : W} {o : Option Nat} (h : openB u o = false) : openIn u o = none := by
  cases u with
  | use => rfl
  | take s k => rfl
  | name s => cases o with
    | none => cases h
    | some n => rfl
theorem openB_some {u : W} {o : Option Nat} (h : openB u o = true) : ∃ s, u = .name s ∧ o = none ∧ openIn u o = some s := by
  cases u with
  | use => cases h
  | take s k => cases h
  | name s => cases o with
    | none => exact ⟨s, rfl, rfl, rfl⟩
    | some n => cases h
def opens (ws : List W) (n : Nat) : List Str := (List.range n).filterMap (openName ws)
theorem opens_succ (ws : List W) (n : Nat) : opens ws (n + 1) = opens ws n ++ (match openName ws n with | some s => [s] | none => []) := by
  unfold opens
  rw [List.range_succ, List.filterMap_append]
  congr 1
  cases e : openName ws n with
  | none => simp [e]
  | some s => simp [e]
theorem opens_len (ws : List W) (n : Nat) : (opens ws n).length ≤ n := by
  have := List.length_filterMap_le (openName ws) (List.range n)
  rw [List.length_range] at this
  exact this
section
variable {P : Program} {w : World} {K : PySem.W.Frag} {mg : Str → Option Value} {base : Heap} {f : Addr} {fd : FuncData}
/-! ### _law_standing -/
abbrev s_law_standing : Stmt := topS 80
abbrev Nlaw_standing : List Str := ["_law_words", "_law_name", "_law_owners_here", "_law_place"]
theorem sc_law_standing : FnScope Nlaw_standing ["_law_words", "_law_name"] (defScope s_law_standing) := ⟨rfl, rfl, rfl, by decide +kernel, rfl, by decide +kernel, by decide +kernel⟩
def sp_law_standing : Sp := fun vs H Q _ => ∃ (a : Addr) (ws : List W) (s : Str), vs = [.ref a, .str s] ∧ PgV H a ws ∧ nameOk s = true ∧ ∀ H', Same H H' → Q (natV (standing ws s)) H'
theorem ok_law_standing (T : Txt mg) (c_law_owners : Cl P w K mg base "_law_owners" 2 ["_law_words"] sp_takers_of) (c_law_is_open : Cl P w K mg base "_law_is_open" 1 ["_law_words", "_law_owners_here", "_law_place"] sp_is_open_at)
    (F : Fun K "_law_standing" "_law_standing" s_law_standing f fd) : FnOk P w K mg base CX0 3 f fd ["_law_words", "_law_name"] sp_law_standing := by
  have nd := sc_law_standing.nd
  refine F.ok sc_law_standing (fun vs H Q Ex h => ?_) (fun cdv A outer s H vs Q Ex hr h => ?_)
  · obtain ⟨_, _, _, rfl, _⟩ := h
    rfl
  · obtain ⟨a, ws, sn, rfl, hp, hn, q⟩ := h
    have hu64 := hu64_of hr
    refine ⟨_, pss_cons (ps_set (i := 2) nd rfl (Or.inr rfl) (pe_cl c_law_owners hr (by omega) (pa_cons (pv 0) pa_nil)))
    (pss_one (ps_ret (pe_callB call_len_seq (by rfl) T.len (by decide +kernel) (pa_cons (pe_lc (own := [("_law_place", 3)]) (g := gName 3) rfl nd (pi_range1 rfl T.range (pa_cons (pe_callB call_len_seq (by rfl) T.len (by decide +kernel) (pa_cons (pv 0) pa_nil)) pa_nil)) (blkOk_by (own := [("_law_place", 3)]) (N := Nlaw_standing) (sc := defScope s_law_standing) (by decide +kernel)) (fun _ _ _ _ _ => (pg_name (i := 3) nd rfl (Or.inl rfl))) (fun _ _ _ _ _ => (pts_one (PW.pt (pw_and (pt_val (pe_cl c_law_is_open hr (by omega) (pa_cons (pv 0) (pa_cons (pv 2) (pa_cons (pv 3) pa_nil))))) (pw_and1 (pt_cmpR (r := rEqD K) (op_eqD hu64) (pe_ix (r := rIxT K) ix_tup (pv 0) (pv 3) (fun _ _ => rfl)) (pv 1) (nomark _))))))) (fun _ _ _ _ _ => (pv 3))) pa_nil)))), ?_⟩
    obtain ⟨us, ea, hw⟩ := hp.at_
    have hlen : us.length = ws.length := Paired.length hw
    have h60 := hp.len
    refine ⟨_, rfl, a, ws, rfl, hp, fun H1 ow s1 now eow => ?_⟩
    refine ⟨_, rfl, a, us, rfl, .inr (SqT.h (s1 _ _ ea)), _, rfl, by omega, by omega, fun D nD => ?_⟩
    rw [show ((us.length : Nat) : Int).toNat = ws.length by omega]
    refine lc_range (lo := 0) (n := ws.length) (fun j H' => Same H1 H' ∧ H' D = some (.lst (((List.range j).filter fun p => decide (openName ws p = some sn)).map natV))) ⟨same_new _ nD, upd_same⟩ ?_ ?_
    · rintro j H2 hj ⟨s2, eD⟩
      have eu : ws[j]? = some ws[j] := List.getElem?_eq_getElem hj
      have eon := openName_of eu
      generalize ws[j] = u at eu eon
      obtain ⟨x, hx, wu⟩ := pd_at_right hw eu
      have e0 : (0 : Int) + (j : Int) = (j : Int) := by omega
      rw [e0]
      have s02 := s1.trans s2
      have es := frange_succ (fun p => decide (openName ws p = some sn)) j
      have stepT : openName ws j = some sn → ∃ acc, H2 D = some (.lst acc) ∧ acc.length < sizeLine ∧ Same H1 (upd H2 D (.lst (acc ++ [natV j]))) ∧ upd H2 D (.lst (acc ++ [natV j])) D = some (.lst (((List.range (j + 1)).filter fun p => decide (openName ws p = some sn)).map natV)) := by
        intro e
        rw [if_pos (decide_eq_true e)] at es
        refine ⟨_, eD, ?_, s2.mut nD (fun b hb => upd_ne hb), ?_⟩
        · rw [List.length_map]
          have := frange_len (fun p => decide (openName ws p = some sn)) j
          exact lt60 (by omega)
        · rw [upd_same, es, List.map_append]
          rfl
      have stepF : ¬ openName ws j = some sn → Same H1 H2 ∧ H2 D = some (.lst (((List.range (j + 1)).filter fun p => decide (openName ws p = some sn)).map natV)) := by
        intro e
        rw [if_neg (by simp [e]), List.append_nil] at es
        exact ⟨s2, by rw [es]; exact eD⟩
      refine ⟨rfl, _, rfl, _, rfl, _, rfl, a, ow, us, ws, owners ws, j, u, owner ws j, rfl, s02 _ _ ea, hw.mono s02.tups, s2 _ _ eow, eu, owners_at hj, _, rfl, ?_⟩
      cases eb : openB u (owner ws j) with
      | false =>
        have h0 := openB_none eb
        refine iteF (iteF ?_)
        exact stepF (by rw [eon, h0]; intro z; cases z)
      | true =>
        obtain ⟨t, rfl, ho, hin⟩ := openB_some eb
        obtain ⟨rfl, hnt⟩ := wu
        refine iteT ?_
        refine ⟨_, rfl, _, rfl, a, us, (j : Int), _, rfl, rfl, SqT.h (s02 _ _ ea), atI_nat hx, _, rfl, _, _, .str t, .str sn, str_shaped (nameOk_strOk hnt), str_shaped (nameOk_strOk hn), ?_⟩
        by_cases e : t = sn
        · refine ⟨true, congrArg V.bl (by simp [PyData.eqv, e]), iteT ⟨_, rfl, stepT (by rw [eon, hin, e])⟩⟩
        · refine ⟨false, congrArg V.bl (by simp [PyData.eqv, e]), iteF (stepF (by rw [eon, hin]; intro z; exact e (Option.some.inj z)))⟩
    · rintro H2 ⟨s2, eD⟩
      refine ⟨D, _, rfl, .inl (SqL.h eD), ?_⟩
      rw [List.length_map]
      exact q H2 (s1.trans s2)
/-! ### _law_open -/
abbrev s_law_open : Stmt := topS 78
abbrev Nlaw_open : List Str := ["_law_words", "_law_owners_here", "_law_place"]
theorem sc_law_open : FnScope Nlaw_open ["_law_words"] (defScope s_law_open) := ⟨rfl, rfl, rfl, by decide +kernel, rfl, by decide +kernel, by decide +kernel⟩
def sp_law_open : Sp := fun vs H Q _ => ∃ (a : Addr) (ws : List W), vs = [.ref a] ∧ PgV H a ws ∧ ∀ H' p (ss : List Str), Same H H' → H' p = some (.lst (ss.map V.str)) → ss.length ≤ 60 → (∀ q s, openName ws q = some s → s ∈ ss) → Q (.ref p) H'
theorem ok_law_open (T : Txt mg) (c_law_owners : Cl P w K mg base "_law_owners" 2 ["_law_words"] sp_takers_of) (c_law_is_open : Cl P w K mg base "_law_is_open" 1 ["_law_words", "_law_owners_here", "_law_place"] sp_is_open_at)
    (F : Fun K "_law_open" "_law_open" s_law_open f fd) : FnOk P w K mg base CX0 3 f fd ["_law_words"] sp_law_open := by
  have nd := sc_law_open.nd
  refine F.ok sc_law_open (fun vs H Q Ex h => ?_) (fun cdv A outer s H vs Q Ex hr h => ?_)
  · obtain ⟨_, _, rfl, _⟩ := h
    rfl
  · obtain ⟨a, ws, rfl, hp, q⟩ := h
    refine ⟨_, pss_cons (ps_set (i := 1) nd rfl (Or.inr rfl) (pe_cl c_law_owners hr (by omega) (pa_cons (pv 0) pa_nil)))
    (pss_one (ps_ret (pe_callB (cr_sortedSetTx rfl) (by rfl) T.sorted (by decide +kernel) (pa_cons (pe_callTy (cr_setTx rfl) (by rfl) T.set (by decide +kernel) (pa_cons (pe_lc (own := [("_law_place", 2)]) (g := gName 2) rfl nd (pi_range1 rfl T.range (pa_cons (pe_callB call_len_seq (by rfl) T.len (by decide +kernel) (pa_cons (pv 0) pa_nil)) pa_nil)) (blkOk_by (own := [("_law_place", 2)]) (N := Nlaw_open) (sc := defScope s_law_open) (by decide +kernel)) (fun _ _ _ _ _ => (pg_name (i := 2) nd rfl (Or.inl rfl))) (fun _ _ _ _ _ => (pts_one (pt_val (pe_cl c_law_is_open hr (by omega) (pa_cons (pv 0) (pa_cons (pv 1) (pa_cons (pv 2) pa_nil))))))) (fun _ _ _ _ _ => (pe_ix (r := rIxT K) ix_tup (pv 0) (pv 2) (fun _ _ => rfl)))) pa_nil)) pa_nil)))), ?_⟩
    obtain ⟨us, ea, hw⟩ := hp.at_
    have hlen : us.length = ws.length := Paired.length hw
    have h60 := hp.len
    refine ⟨_, rfl, a, ws, rfl, hp, fun H1 ow s1 now eow => ?_⟩
    refine ⟨_, rfl, a, us, rfl, .inr (SqT.h (s1 _ _ ea)), _, rfl, by omega, by omega, fun D nD => ?_⟩
    rw [show ((us.length : Nat) : Int).toNat = ws.length by omega]
    refine lc_range (lo := 0) (n := ws.length) (fun j H' => Same H1 H' ∧ H' D = some (.lst ((opens ws j).map V.str))) ⟨same_new _ nD, upd_same⟩ ?_ ?_
    · rintro j H2 hj ⟨s2, eD⟩
      have eu : ws[j]? = some ws[j] := List.getElem?_eq_getElem hj
      have eon := openName_of eu
      generalize ws[j] = u at eu eon
      obtain ⟨x, hx, wu⟩ := pd_at_right hw eu
      have e0 : (0 : Int) + (j : Int) = (j : Int) := by omega
      rw [e0]
      have s02 := s1.trans s2
      have es := opens_succ ws j
      refine ⟨rfl, _, rfl, _, rfl, _, rfl, a, ow, us, ws, owners ws, j, u, owner ws j, rfl, s02 _ _ ea, hw.mono s02.tups, s2 _ _ eow, eu, owners_at hj, _, rfl, ?_⟩
      cases eb : openB u (owner ws j) with
      | false =>
        rw [eon, openB_none eb] at es
        refine iteF ⟨s2, ?_⟩
        rw [es, eD]
        simp
      | true =>
        obtain ⟨t, rfl, ho, hin⟩ := openB_some eb
        obtain ⟨rfl, hnt⟩ := wu
        rw [eon, hin] at es
        refine iteT ?_
        refine ⟨_, rfl, _, rfl, a, us, (j : Int), _, rfl, rfl, SqT.h (s02 _ _ ea), atI_nat hx, _, eD, ?_, s2.mut nD (fun b hb => upd_ne hb), ?_⟩
        · rw [List.length_map]
          have := opens_len ws j
          exact lt60 (by omega)
        · rw [upd_same, es, List.map_append]
          rfl
    · rintro H2 ⟨s2, eD⟩
      have hol := opens_len ws ws.length
      refine ⟨D, opens ws ws.length, rfl, SqL.h eD, by omega, fun S1 l nS1 hl hm _ => ?_⟩
      generalize eH3 : upd H2 S1 _ = H3
      obtain ⟨s3, e3, f3⟩ := new_f nS1 eH3
      refine ⟨S1, l, rfl, e3, by omega, fun p ss np hmem hsl => ?_⟩
      generalize eH4 : upd H3 p _ = H4
      obtain ⟨s4, e4, f4⟩ := new_f np eH4
      refine q H4 p ss (((s1.trans s2).trans s3).trans s4) e4 (by omega) fun qq s hq => ?_
      rw [hmem, hm]
      have hql : qq < ws.length := by
        unfold openName at hq
        cases e : ws[qq]? with
        | none => rw [e] at hq; cases hq
        | some u => exact (List.getElem?_eq_some_iff.mp e).1
      exact List.mem_filterMap.mpr ⟨qq, List.mem_range.mpr hql, hq⟩
end
end K8
namespace K8
open PySem PySem.Spec PyProof.Rows L2
section
variable {P : Program} {w : World} {K : PySem.W.Frag} {mg : Str → Option Value} {base : Heap} {f : Addr} {fd : FuncData}
/-! ### _law_judged -/
abbrev s_law_judged : Stmt := topS 81
abbrev Nlaw_judged : List Str := ["_law_spec", "_law_tools", "_law_handed", "_law_words", "_law_owners_here", "_law_known_here", "_law_place", "_law_flags", "_law_kinds_here", "_law_wrong", "_law_name", "_law_kind_here", "_law_times", "_law_word"]
theorem sc_law_judged : FnScope Nlaw_judged ["_law_spec", "_law_tools", "_law_handed", "_law_words"] (defScope s_law_judged) := ⟨rfl, rfl, rfl, by decide +kernel, rfl, by decide +kernel, by decide +kernel⟩
def sp_law_judged : Sp := fun vs H Q _ => ∃ (v : V) (ta ha a : Addr) (l : Lt) (tl hl : List (Str × Kd)) (ws : List W), vs = [v, .ref ta, .ref ha, .ref a] ∧ SpecV H v l ∧ KnT H ta tl ∧ KnT H ha hl ∧ tl.length ≤ 20 ∧ hl.length ≤ 20 ∧ PgV H a ws ∧
  ∀ (H' : Hp) (t : Addr) (x y : V), Same H H' → H' t = some (.tup [x, y]) → FltV H' x (judged l tl hl ws) → (judged l tl hl ws = none → OkV H' y (((kinds ws (knOf (tl ++ hl)))[0]?).getD none)) → (judged l tl hl ws ≠ none → y = .non) → Q (.ref t) H'
theorem count_owner (ws : List W) (i : Nat) : ((owners ws).map optV).countP (fun z => eqV z (.int (i : Int))) = taken ws i := by
  unfold taken
  rw [List.countP_map, List.count]
  congr 1
  funext o
  cases o with
  | none => rfl
  | some n =>
    show ((n : Int) == (i : Int)) = (some n == some i)
    by_cases e : n = i
    · subst e; simp
    · have e2 : ¬ (n : Int) = (i : Int) := by omega
      rw [show ((n : Int) == (i : Int)) = false from beq_eq_false_iff_ne.mpr e2, show (some n == some i) = false from beq_eq_false_iff_ne.mpr (fun z => e (Option.some.inj z))]
theorem flatO (os : List (Option Nat)) : (os.map optV).all flatV = true := by
  rw [List.all_map]
  refine List.all_eq_true.mpr fun o _ => ?_
  cases o <;> rfl
theorem taken_le (ws : List W) (i : Nat) : taken ws i ≤ ws.length := by
  unfold taken
  have := List.count_le_length (a := some i) (l := owners ws)
  rw [owners_len] at this
  exact this
theorem standing_le (ws : List W) (s : Str) : standing ws s ≤ ws.length := frange_len _ _
theorem ok_law_judged (T : Txt mg) (c_law_owners : Cl P w K mg base "_law_owners" 2 ["_law_words"] sp_takers_of) (c_law_is_open : Cl P w K mg base "_law_is_open" 1 ["_law_words", "_law_owners_here", "_law_place"] sp_is_open_at)
    (c_law_kinds : Cl P w K mg base "_law_kinds" 3 ["_law_words", "_law_known_here"] sp_kinds_of_parts) (c_law_told_numbers : Cl P w K mg base "_law_told_numbers" 2 ["_law_spec", "_law_most"] sp_law_told_numbers) (c_law_standing : Cl P w K mg base "_law_standing" 3 ["_law_words", "_law_name"] sp_law_standing)
    (F : Fun K "_law_judged" "_law_judged" s_law_judged f fd) : FnOk P w K mg base CX0 4 f fd ["_law_spec", "_law_tools", "_law_handed", "_law_words"] sp_law_judged := by
  have nd := sc_law_judged.nd
  refine F.ok sc_law_judged (fun vs H Q Ex h => ?_) (fun cdv A outer s H vs Q Ex hr h => ?_)
  · obtain ⟨_, _, _, _, _, _, _, _, rfl, _⟩ := h
    rfl
  · obtain ⟨v, ta, ha, a, l, tl, hl, ws, rfl, hsp, ⟨ps, hpl, hpd⟩, ⟨qs, hql, hqd⟩, ht20, hh20, hp, q⟩ := h
    have hu := hu_of hr
    refine ⟨_, pss_cons (ps_set (i := 4) nd rfl (Or.inl rfl) (pe_cl c_law_owners hr (by omega) (pa_cons (pv 3) pa_nil)))
    (pss_cons (ps_set (i := 5) nd rfl (Or.inl rfl) (pe_callTy (call_dictP rfl) (by rfl) T.dict (by decide +kernel) (pa_cons (pe_op op_cat (pe_callTy call_list_of (by rfl) T.list (by decide +kernel) (pa_cons (pv 1) pa_nil)) (pe_callTy call_list_of (by rfl) T.list (by decide +kernel) (pa_cons (pv 2) pa_nil))) pa_nil)))
    (pss_cons (ps_for PassesOwn.never rfl (pi_range1 rfl T.range (pa_cons (pe_callB call_len_seq (by rfl) T.len (by decide +kernel) (pa_cons (pv 3) pa_nil)) pa_nil)) (pg_name (i := 6) nd rfl (Or.inl rfl))
      (pss_one (ps_if (PW.pt (pw_and (pt_val (pe_cl c_law_is_open hr (by omega) (pa_cons (pv 3) (pa_cons (pv 4) (pa_cons (pv 6) pa_nil))))) (pw_and1 (pt_cmp (pc_dnotin hu (pe_ix ix_tup (pv 3) (pv 6) (fun _ _ => rfl)) (pv 5)))))) (pss_one (ps_ret (pe_tup (pa_cons (pe_tup (pa_cons pe_str (pa_cons (pv 6) pa_nil))) (pa_cons pe_non pa_nil))))) pss_nil)))
    (pss_cons (ps_asg (pe_cl c_law_kinds hr (by omega) (pa_cons (pv 3) (pa_cons (pv 5) pa_nil))) (pg_tup rfl (pgs_cons (pg_name (i := 8) nd rfl (Or.inl rfl)) (pgs_cons (pg_name (i := 9) nd rfl (Or.inl rfl)) pgs_nil))))
    (pss_cons (ps_if (pt_cmpR op_notN (pv 9) pe_non (nomark _)) (pss_one (ps_ret (pe_tup (pa_cons (pe_tup (pa_cons pe_str (pa_cons (pv 9) pa_nil))) (pa_cons pe_non pa_nil))))) pss_nil)
    (pss_cons (ps_set (i := 7) nd rfl (Or.inl rfl) (pe_cl c_law_told_numbers hr (by omega) (pa_cons (pv 0) (pa_cons (pe_op op_add (pe_callB call_len_seq (by rfl) T.len (by decide +kernel) (pa_cons (pv 3) pa_nil)) pe_int) pa_nil))))
    (pss_cons (ps_for PassesOwn.never rfl (pi_tup (pv 2)) (pg_tup rfl (pgs_cons (pg_name (i := 10) nd rfl (Or.inl rfl)) (pgs_cons (pg_name (i := 11) nd rfl (Or.inl rfl)) pgs_nil)))
      (pss_cons (ps_set (i := 12) nd rfl (Or.inl rfl) (pe_cl c_law_standing hr (by omega) (pa_cons (pv 3) (pa_cons (pv 10) pa_nil))))
      (pss_one (ps_if (pt_not (pt_val (pe_ix ix_list (pv 7) (pv 12) (fun _ _ => rfl)))) (pss_one (ps_ret (pe_tup (pa_cons (pe_tup (pa_cons pe_str (pa_cons (pv 10) (pa_cons (pv 12) pa_nil)))) (pa_cons pe_non pa_nil))))) pss_nil))))
    (pss_cons (ps_for PassesOwn.never rfl (pi_enumT (by rfl) T.enumerate (pa_cons (pv 3) pa_nil)) (pg_tup rfl (pgs_cons (pg_name (i := 6) nd rfl (Or.inl rfl)) (pgs_cons (pg_name (i := 13) nd rfl (Or.inl rfl)) pgs_nil)))
      (pss_one (ps_if (PW.pt (pw_and (pt_val (pe_callB call_isi (by rfl) T.isinstance (by decide +kernel) (pa_cons (pv 13) (pa_cons (pe_ty (Ty := "tuple") T.tuple (by decide +kernel)) pa_nil)))) (pw_and1 (pt_not (pt_val (pe_ix ix_list (pv 7) (pe_bm PySem.F.plainAttrs_list PySem.F.slot_list_count PySem.F.type_list_count mt_countV (pv 4) (pa_cons (pv 6) pa_nil)) (fun _ _ => rfl))))))) (pss_one (ps_ret (pe_tup (pa_cons (pe_tup (pa_cons pe_str (pa_cons (pv 6) (pa_cons (pe_bm PySem.F.plainAttrs_list PySem.F.slot_list_count PySem.F.type_list_count mt_countV (pv 4) (pa_cons (pv 6) pa_nil)) pa_nil)))) (pa_cons pe_non pa_nil))))) pss_nil)))
    (pss_one (ps_ret (pe_tup (pa_cons pe_non (pa_cons (pe_ix ix_list (pv 8) pe_int (fun _ _ => rfl)) pa_nil)))))))))))), ?_⟩
    obtain ⟨us, ea, hw⟩ := hp.at_
    have hlen : us.length = ws.length := Paired.length hw
    have h60 := hp.len
    have hpn : ps.length = tl.length := Paired.length hpd
    have hqn : qs.length = hl.length := Paired.length hqd
    refine ⟨_, rfl, a, ws, rfl, hp, fun H1 ow s1 now eow => ?_⟩
    refine ⟨_, rfl, ta, _, rfl, .inr (hpl.mono s1).sq, fun l1 nl1 => ?_⟩
    generalize eH2 : upd H1 l1 (.lst (ps.map V.ref)) = H2
    obtain ⟨s2, e2, f2⟩ := new_f nl1 eH2
    refine ⟨_, rfl, ha, _, rfl, .inr (hql.mono (s1.trans s2)).sq, fun l2 nl2 => ?_⟩
    generalize eH3 : upd H2 l2 (.lst (qs.map V.ref)) = H3
    obtain ⟨s3, e3, f3⟩ := new_f nl2 eH3
    refine ⟨l1, l2, _, _, rfl, rfl, s3 _ _ e2, e3, by rw [List.length_map, List.length_map]; exact le60 (by omega), fun l3 nl3 => ?_⟩
    rw [← List.map_append]
    generalize eH4 : upd H3 l3 (.lst ((ps ++ qs).map V.ref)) = H4
    obtain ⟨s4, e4, f4⟩ := new_f nl3 eH4
    have s14 := (s2.trans s3).trans s4
    have s04 := s1.trans s14
    have hall : Paired (PkV H4) (ps ++ qs) (tl ++ hl) := pd_imp (fun _ _ r => r.mono s04.tups) (pd_app' hpd hqd)
    obtain ⟨kvs, r1, r2⟩ := pk_kvs (K := K) hall
    refine ⟨l3, ps ++ qs, kvs, rfl, SqL.h e4, r1, fun d nd5 => ?_⟩
    generalize eH5 : upd H4 d (.dK (mergeK [] kvs)) = H5
    obtain ⟨s5, e5, f5⟩ := new_f nd5 eH5
    have hkn : KnV H5 d (knOf (tl ++ hl)) := dict_known r2 s5 e5
    have s05 := s04.trans s5
    have eow5 := s5 _ _ (s14 _ _ eow)
    have ea5 := s05 _ _ ea
    -- the open names
    refine ⟨_, rfl, a, us, rfl, .inr (SqT.h ea5), _, rfl, by omega, by omega, ?_⟩
    rw [show ((us.length : Nat) : Int).toNat = ws.length by omega]
    refine for_range (lo := 0) (n := ws.length) (fun i σ H' => ∃ (y6 : Option V), σ = [some v, some (.ref ta), some (.ref ha), some (.ref a), some (.ref ow), some (.ref d), y6, none, none, none, none, none, none, none] ∧ H' = H5 ∧ ∀ p, p < i → badOpen ws (knOf (tl ++ hl)) p = false) ⟨none, rfl, rfl, fun p h => absurd h (Nat.not_lt_zero _)⟩ ?_ ?_
    · rintro i σ H6 hi ⟨y6, rfl, rfl, hbad⟩
      have eu : ws[i]? = some ws[i] := List.getElem?_eq_getElem hi
      have eon := openName_of eu
      generalize ws[i] = u at eu eon
      obtain ⟨x, hx, wu⟩ := pd_at_right hw eu
      have e0 : (0 : Int) + (i : Int) = (i : Int) := by omega
      rw [e0]
      have next : badOpen ws (knOf (tl ++ hl)) i = false → ∀ p, p < i + 1 → badOpen ws (knOf (tl ++ hl)) p = false := fun hb p hpi => by
        by_cases e : p = i
        · rw [e]; exact hb
        · exact hbad p (by omega)
      refine ⟨_, rfl, _, rfl, _, rfl, a, ow, us, ws, owners ws, i, u, owner ws i, rfl, ea5, hw.mono s05.tups, eow5, eu, owners_at hi, _, rfl, ?_⟩
      cases eb : openB u (owner ws i) with
      | false =>
        refine iteF (iteF ⟨_, rfl, rfl, next ?_⟩)
        unfold badOpen
        rw [eon, openB_none eb]
      | true =>
        obtain ⟨t, rfl, ho, hin⟩ := openB_some eb
        obtain ⟨rfl, hnt⟩ := wu
        refine iteT ?_
        obtain ⟨kv2, ek, hv⟩ := id hkn
        refine ⟨_, rfl, _, rfl, a, us, (i : Int), _, rfl, rfl, SqT.h ea5, atI_nat hx, _, rfl, d, _, rfl, DGet.k (k := Sum.inr t) ek, ?_⟩
        rcases hv t with ⟨e1', e2'⟩ | ⟨vv, k, e1', e2', hkv, _⟩
        · rw [e1']
          refine ⟨true, rfl, iteT ?_⟩
          refine ⟨_, rfl, (by show 2 ≤ sizeLine; decide), fun t1 nt1 => ?_⟩
          generalize eH6 : upd H6 t1 (.tup _) = H7
          obtain ⟨s7, e7, f7⟩ := new_f nt1 eH6
          refine ⟨(by show 2 ≤ sizeLine; decide), fun t2 nt2 => ?_⟩
          generalize eH8 : upd H7 t2 (.tup _) = H8
          obtain ⟨s8, e8, f8⟩ := new_f nt2 eH8
          have hb1 : badOpen ws (knOf (tl ++ hl)) i = true := by
            unfold badOpen
            rw [eon, hin]
            show (knOf (tl ++ hl) t).isNone = true
            rw [e2']
            rfl
          have hw1 : wrongName ws (knOf (tl ++ hl)) = some i := find_first hi hbad hb1
          have hj : judged l tl hl ws = some (.opn i) := by unfold judged judge; rw [hw1]
          refine q H8 t2 _ _ ((s05.trans s7).trans s8) e8 ?_ (fun z => by rw [hj] at z; cases z) (fun _ => rfl)
          rw [hj]
          exact ⟨t1, rfl, s8 _ _ e7⟩
        · rw [e1']
          refine ⟨false, rfl, iteF ⟨_, rfl, rfl, next ?_⟩⟩
          unfold badOpen
          rw [eon, hin]
          show (knOf (tl ++ hl) t).isNone = false
          rw [e2']
          rfl
    rintro σ H6 ⟨y6, rfl, rfl, hbad⟩
    have hw1 : wrongName ws (knOf (tl ++ hl)) = none := find_no hbad
    -- the kinds
    refine ⟨_, rfl, _, rfl, a, d, ws, _, rfl, hp.mono s05.tups, hkn, open_known hw1, fun H7 t fo vs s7 nt et efo hvs => ?_⟩
    refine ⟨t, _, rfl, SqT.h et, rfl, _, _, rfl, _, _, rfl, rfl, ?_⟩
    have s07 := s05.trans s7
    refine ⟨_, rfl, rfl, ?_⟩
    cases hwk : wrongKind ws (knOf (tl ++ hl)) with
    | some p =>
      refine ⟨true, rfl, iteT ?_⟩
      refine ⟨_, rfl, (by show 2 ≤ sizeLine; decide), fun t1 nt1 => ?_⟩
      generalize eH8 : upd H7 t1 (.tup _) = H8
      obtain ⟨s8, e8, f8⟩ := new_f nt1 eH8
      refine ⟨(by show 2 ≤ sizeLine; decide), fun t2 nt2 => ?_⟩
      generalize eH9 : upd H8 t2 (.tup _) = H9
      obtain ⟨s9, e9, f9⟩ := new_f nt2 eH9
      have hj : judged l tl hl ws = some (.knd p) := by unfold judged judge; rw [hw1, hwk]
      refine q H9 t2 _ _ ((s07.trans s8).trans s9) e9 ?_ (fun z => by rw [hj] at z; cases z) (fun _ => rfl)
      rw [hj]
      exact ⟨t1, rfl, s9 _ _ e8⟩
    | none =>
      have hjc : judged l tl hl ws = countFault l.holds ws (hl.map (·.1)) := by unfold judged judge; rw [hw1, hwk]
      refine ⟨false, rfl, iteF ?_⟩
      refine ⟨_, rfl, _, rfl, a, us, rfl, .inr (SqT.h (s07 _ _ ea)), _, _, rfl, rfl, v, l, ws.length + 1, ?_, hsp.mono s07.tups, by omega, by omega, fun H8 fp fl s8 nfp efp hfl hok => ?_⟩
      · show [v, V.int (((us.length : Nat) : Int) + 1)] = [v, V.int ((ws.length + 1 : Nat) : Int)]
        rw [show (((us.length : Nat) : Int) + 1) = ((ws.length + 1 : Nat) : Int) by omega]
      have s08 := s07.trans s8
      have efo8 := s8 _ _ efo
      have eow8 := s8 _ _ (s7 _ _ eow5)
      have hfk : ∀ k, k ≤ ws.length → (fl.map V.bl)[k]? = some (.bl (l.holds k)) := fun k hk => by rw [List.getElem?_map, hok k (by omega)]; rfl
      have hql8 := hql.mono s08
      -- the handed
      refine ⟨_, rfl, ha, rfl, ⟨_, hql8.sq⟩, for_tup (K := K) (a := ha) (xs := qs.map V.ref) (fun i σ H' => ∃ (y6 y10 y11 y12 : Option V), σ = [some v, some (.ref ta), some (.ref ha), some (.ref a), some (.ref ow), some (.ref d), y6, some (.ref fp), some (.ref fo), some (optV none), y10, y11, y12, none] ∧ Same H8 H' ∧ ∀ (j : Nat) t, j < i → (hl.map (·.1))[j]? = some t → (!l.holds (standing ws t)) = false) ⟨_, none, none, none, rfl, Same.refl _, fun j t h => absurd h (Nat.not_lt_zero _)⟩ (fun i σ H' _ h' => by obtain ⟨_, _, _, _, _, s9, _⟩ := h'; exact (hql8.mono s9).sq) ?_ ?_⟩
      · rintro i x σ H9 hx ⟨y6, y10, y11, y12, rfl, s9, hall2⟩
        have s09 := s08.trans s9
        obtain ⟨pp, sk, rfl, esk, hpk⟩ := pk_at hqd hx
        obtain ⟨y, epp, hnk, _⟩ := hpk.mono s09.tups
        have et1 : (hl.map (·.1))[i]? = some sk.1 := by rw [List.getElem?_map, esk]; rfl
        refine ⟨pp, _, rfl, SqT.h epp, rfl, _, _, rfl, _, _, rfl, rfl, ?_⟩
        refine ⟨_, rfl, _, rfl, a, ws, sk.1, rfl, hp.mono s09.tups, hnk, fun H10 s10 => ?_⟩
        have s910 := s9.trans s10
        have s010 := s09.trans s10
        have efp10 : H10 fp = some (.lst (fl.map V.bl)) := s910 _ _ efp
        have hgl := hfk _ (standing_le ws sk.1)
        refine ⟨_, rfl, _, rfl, fp, _, ((standing ws sk.1 : Nat) : Int), _, rfl, rfl, SqL.h efp10, atI_nat hgl, _, rfl, ?_⟩
        cases hh : l.holds (standing ws sk.1) with
        | true =>
          refine iteF ⟨_, _, _, _, rfl, s910, fun j t' hj ht' => ?_⟩
          by_cases e : j = i
          · subst e
            rw [et1] at ht'
            cases ht'
            rw [hh]
            rfl
          · exact hall2 j t' (by omega) ht'
        | false =>
          refine iteT ?_
          refine ⟨_, rfl, _, rfl, (by show 3 ≤ sizeLine; decide), fun t1 nt1 => ?_⟩
          generalize eH11 : upd H10 t1 (.tup _) = H11
          obtain ⟨s11, e11, f11⟩ := new_f nt1 eH11
          refine ⟨(by show 2 ≤ sizeLine; decide), fun t2 nt2 => ?_⟩
          generalize eH12 : upd H11 t2 (.tup _) = H12
          obtain ⟨s12, e12, f12⟩ := new_f nt2 eH12
          have hw2 : wrongHanded l.holds ws (hl.map (·.1)) = some sk.1 := find_list et1 hall2 (by rw [hh]; rfl)
          have hj : judged l tl hl ws = some (.handed sk.1 (standing ws sk.1)) := by rw [hjc]; unfold countFault; rw [hw2]
          refine q H12 t2 _ _ ((s010.trans s11).trans s12) e12 ?_ (fun z => by rw [hj] at z; cases z) (fun _ => rfl)
          rw [hj]
          exact ⟨t1, rfl, s12 _ _ e11⟩
      rintro σ H9 ⟨y6, y10, y11, y12, rfl, s9, hall2⟩
      have hw2 : wrongHanded l.holds ws (hl.map (·.1)) = none := find_list_no fun j y hy => hall2 j y (by have := (List.getElem?_eq_some_iff.mp hy).1; rw [List.length_map] at this; rw [List.length_map]; omega) hy
      have s09 := s08.trans s9
      have ea9 := s09 _ _ ea
      refine ⟨_, rfl, a, us, rfl, SqT.h ea9, for_it (walk_enumT (K := K) (a := a) (xs := us)) (fun i σ H' => ∃ (y6 y10 y11 y12 y13 : Option V), σ = [some v, some (.ref ta), some (.ref ha), some (.ref a), some (.ref ow), some (.ref d), y6, some (.ref fp), some (.ref fo), some (optV none), y10, y11, y12, y13] ∧ Same H9 H' ∧ ∀ p, p < i → (((ws[p]?.map Wd.isTake).getD false) && !l.holds (taken ws p)) = false) ?_ ?_ ?_ ?_⟩
      · exact ⟨_, _, _, _, none, rfl, Same.refl _, fun p h => absurd h (Nat.not_lt_zero _)⟩
      · rintro i σ H' hi ⟨_, _, _, _, _, _, s10, _⟩
        exact SqT.h (s10 _ _ ea9)
      · rintro i x σ H10 H11 hi ⟨y6, y10, y11, y12, y13, rfl, s10, hbad2⟩ ⟨Tp, x1, x, rfl, nT, eH11, ex1, hx⟩
        have ex1' := Option.some.inj ex1
        subst ex1'
        obtain ⟨u, eu, wu⟩ := pd_at_left hw hx
        have hpl2 : i < ws.length := (List.getElem?_eq_some_iff.mp eu).1
        obtain ⟨s11, e11, f11⟩ := new_f nT eH11.symm
        have s911 := s10.trans s11
        have s011 := s09.trans s911
        have next : ((((ws[i]?.map Wd.isTake).getD false) && !l.holds (taken ws i)) = false) → ∀ p, p < i + 1 → (((ws[p]?.map Wd.isTake).getD false) && !l.holds (taken ws p)) = false := fun hb p hpi => by
          by_cases e : p = i
          · rw [e]; exact hb
          · exact hbad2 p (by omega)
        obtain ⟨ty, hty, hkt⟩ := isT_at (K := K) (wu.mono s011.tups)
        refine ⟨Tp, _, rfl, SqT.h e11, rfl, _, _, rfl, _, _, rfl, rfl, ?_⟩
        refine ⟨_, rfl, _, _, ty, _, _, rfl, .ty _, hty, hkt, u.isTake, rfl, ?_⟩
        cases u with
        | use => exact iteF (iteF ⟨_, _, _, _, _, rfl, s911, next (by rw [eu]; rfl)⟩)
        | name s => exact iteF (iteF ⟨_, _, _, _, _, rfl, s911, next (by rw [eu]; rfl)⟩)
        | take s k =>
          refine iteT ?_
          have efp11 : H11 fp = some (.lst (fl.map V.bl)) := s911 _ _ (s9 _ _ efp)
          have eow11 : H11 ow = some (.lst ((owners ws).map optV)) := s911 _ _ (s9 _ _ eow8)
          have hgl := hfk _ (taken_le ws i)
          have hcn : ((((owners ws).map optV).countP fun z => eqV z (.int (i : Int)) : Nat) : Int) = ((taken ws i : Nat) : Int) := by rw [count_owner]
          refine ⟨_, rfl, _, rfl, .inl ⟨rfl, _, SqL.h eow11⟩, _, rfl, ow, _, _, rfl, rfl, SqL.h eow11, flatO _, rfl, ?_⟩
          rw [hcn]
          refine ⟨fp, _, ((taken ws i : Nat) : Int), _, rfl, rfl, SqL.h efp11, atI_nat hgl, _, rfl, ?_⟩
          cases hh : l.holds (taken ws i) with
          | true => exact iteF ⟨_, _, _, _, _, rfl, s911, next (by rw [eu, hh]; rfl)⟩
          | false =>
            refine iteT ?_
            refine ⟨_, rfl, _, rfl, .inl ⟨rfl, _, SqL.h eow11⟩, _, rfl, ow, _, _, rfl, rfl, SqL.h eow11, flatO _, rfl, ?_⟩
            rw [hcn]
            refine ⟨(by show 3 ≤ sizeLine; decide), fun t1 nt1 => ?_⟩
            generalize eH12 : upd H11 t1 (.tup _) = H12
            obtain ⟨s12, e12, f12⟩ := new_f nt1 eH12
            refine ⟨(by show 2 ≤ sizeLine; decide), fun t2 nt2 => ?_⟩
            generalize eH13 : upd H12 t2 (.tup _) = H13
            obtain ⟨s13, e13, f13⟩ := new_f nt2 eH13
            have hw3 : wrongTake l.holds ws = some i := find_first hpl2 hbad2 (by rw [eu, hh]; rfl)
            have hj : judged l tl hl ws = some (.cnt i (taken ws i)) := by rw [hjc]; unfold countFault; rw [hw2, hw3]
            refine q H13 t2 _ _ ((s011.trans s12).trans s13) e13 ?_ (fun z => by rw [hj] at z; cases z) (fun _ => rfl)
            rw [hj]
            exact ⟨t1, rfl, s13 _ _ e12⟩
      · rintro σ H10 ⟨y6, y10, y11, y12, y13, rfl, s10, hbad2⟩
        rw [hlen] at hbad2
        have hw3 : wrongTake l.holds ws = none := find_no hbad2
        have hj : judged l tl hl ws = none := by rw [hjc]; unfold countFault; rw [hw2, hw3]
        have hkl : vs.length = (kinds ws (knOf (tl ++ hl))).length := Paired.length hvs
        have hkn0 : (kinds ws (knOf (tl ++ hl))).length = ws.length := kst_len ws _ 0 ws
        have hpos : 0 < ws.length := List.length_pos_iff.mpr hp.wf.ne
        have ex : vs[0]? = some vs[0] := List.getElem?_eq_getElem (by omega)
        obtain ⟨ok, eok, hov⟩ := pd_at_left hvs ex
        generalize vs[0] = x at ex hov
        have s710 : Same H7 H10 := (s8.trans s9).trans s10
        refine ⟨_, rfl, fo, _, ((0 : Nat) : Int), x, rfl, rfl, SqL.h (s710 _ _ efo), atI_nat ex, ?_⟩
        refine ⟨(by show 2 ≤ sizeLine; decide), fun t2 nt2 => ?_⟩
        generalize eH11 : upd H10 t2 (.tup _) = H11
        obtain ⟨s11, e11, f11⟩ := new_f nt2 eH11
        refine q H11 t2 _ _ ((s09.trans s10).trans s11) e11 (by rw [hj]; rfl) (fun _ => ?_) (fun z => absurd hj z)
        rw [eok]
        exact hov.mono (s710.trans s11).tups
end
end K8
namespace K8
open PySem PySem.Spec PyProof.Rows L2
theorem mergeK_nd : ∀ (kvs acc : List (Key × V)), ((acc ++ kvs).map (·.1)).Nodup → mergeK acc kvs = acc ++ kvs
  | [], acc, _ => by rw [List.append_nil]; rfl
  | kv :: r, acc, h => by
    have hnone : valV acc kv.1 = none := by
      cases e : valV acc kv.1 with
      | none => rfl
      | some v =>
        have h1 := valV_in e
        rw [List.map_append, List.map_cons, List.nodup_append] at h
        exact absurd rfl (h.2.2 _ h1 _ (List.mem_cons_self ..))
    show mergeK (putK acc kv.1 kv.2) r = _
    rw [putK_new _ hnone, mergeK_nd r _ (by rw [List.append_assoc]; exact h), List.append_assoc]
    rfl
/-! ### the law's standard names -/
def sgn (c : Nat) : Str := ⟨#[c]⟩
abbrev abc : Str := "abcdefghijklmnopqrstuvwxyz"
def lets : List Str := abc.cps.toList.map sgn
abbrev abc4 : Str := cutS abc none (some 4)
def namesTo (i : Nat) : List Str := lets ++ ((abc4.cps.toList.map sgn).take i).flatMap fun a => lets.map fun b => a ++ b
def allNames : List Str := namesTo 4
theorem abc4_size : abc4.cps.size = 4 := by decide +kernel
theorem abc_size : abc.cps.size = 26 := by decide +kernel
theorem lets_len : lets.length = 26 := by decide +kernel
theorem namesTo_len {i : Nat} (h : i ≤ 4) : (namesTo i).length ≤ 130 := by
  rcases i with _ | _ | _ | _ | _ | i
  · decide +kernel
  · decide +kernel
  · decide +kernel
  · decide +kernel
  · decide +kernel
  · omega
theorem allNames_len : allNames.length = 130 := by decide +kernel
theorem allNames_nd : allNames.Nodup := by decide +kernel
theorem allNames_ok : ∀ s ∈ allNames, nameOk s = true := by decide +kernel
theorem namesTo_succ {i c : Nat} (h : abc4.cps[i]? = some c) : namesTo (i + 1) = namesTo i ++ lets.map fun b => sgn c ++ b := by
  have e : (abc4.cps.toList.map sgn)[i]? = some (sgn c) := by rw [List.getElem?_map, Array.getElem?_toList, h]; rfl
  unfold namesTo
  rw [List.take_add_one, e, List.flatMap_append, List.append_assoc]
  simp
theorem lets_at {i c : Nat} (h : abc.cps[i]? = some c) : lets[i]? = some (sgn c) := by
  unfold lets
  rw [List.getElem?_map, Array.getElem?_toList, h]
  rfl
def keepN (ss : List Str) (n : Str) : Bool := !(ss.any fun b => b == n)
theorem keepN_inV (ss : List Str) (n : Str) : (!inV (V.str n) (ss.map V.str)) = keepN ss n := by
  unfold inV keepN
  rw [List.any_map]
  rfl
theorem keepN_not {ss : List Str} {n : Str} (h : keepN ss n = true) : n ∉ ss := by
  intro hm
  unfold keepN at h
  have : (ss.any fun b => b == n) = true := List.any_eq_true.mpr ⟨n, hm, beq_self_eq_true n⟩
  rw [this] at h
  cases h
theorem filter_ne_len (s : Str) : ∀ {l : List Str}, l.Nodup → l.length ≤ (l.filter fun n => !(s == n)).length + 1
  | [], _ => by simp
  | x :: r, h => by
    have h2 := List.nodup_cons.mp h
    by_cases e : s = x
    · subst e
      have hf : r.filter (fun n => !(s == n)) = r := List.filter_eq_self.mpr fun n hn => by
        have : s ≠ n := fun z => h2.1 (by rw [z]; exact hn)
        simp [this]
      rw [List.filter_cons_of_neg (by simp), hf, List.length_cons]
      exact Nat.le_refl _
    · rw [List.filter_cons_of_pos (by simp [e]), List.length_cons, List.length_cons]
      have := filter_ne_len s h2.2
      omega
theorem keepN_len : ∀ (ss : List Str) {l : List Str}, l.Nodup → l.length ≤ (l.filter (keepN ss)).length + ss.length
  | [], l, h => by
    have : l.filter (keepN []) = l := List.filter_eq_self.mpr fun n _ => rfl
    rw [this]
    omega
  | s :: ss, l, h => by
    have e : l.filter (keepN (s :: ss)) = (l.filter fun n => !(s == n)).filter (keepN ss) := by
      rw [List.filter_filter]
      congr 1
      funext n
      unfold keepN
      rw [List.any_cons, Bool.not_or, Bool.and_comm]
    rw [e]
    have h1 := filter_ne_len s h
    have h2 := keepN_len ss (h.sublist (List.filter_sublist (p := fun n => !(s == n))))
    rw [List.length_cons]
    omega
theorem tkAll_nd (ws : List W) (n : Nat) : (tkAll ws n).Nodup := List.nodup_range.sublist List.filter_sublist
section
variable {P : Program} {w : World} {K : PySem.W.Frag} {mg : Str → Option Value} {base : Heap} {f : Addr} {fd : FuncData} {CL CR CB : Addr}
/-! ### _law_named -/
abbrev s_law_named : Stmt := topS 85
abbrev Nlaw_named : List Str := ["_law_words", "_law_names", "_law_owners_here", "_law_found", "_law_place", "_law_word"]
theorem sc_law_named : FnScope Nlaw_named ["_law_words", "_law_names"] (defScope s_law_named) := ⟨rfl, rfl, rfl, by decide +kernel, rfl, by decide +kernel, by decide +kernel⟩
def sp_law_named : Sp := fun vs H Q _ => ∃ (a d : Addr) (ws : List W) (nm : Nat → Str) (kvs : List (Key × V)), vs = [.ref a, .ref d] ∧ PgV H a ws ∧ H d = some (.dK kvs) ∧ (∀ (p : Nat) (s : Str) (k : Kd), ws[p]? = some (.take s k) → valV kvs (Sum.inl (p : Int)) = some (.str (nm p)) ∧ nameOk (nm p) = true) ∧
  ∀ H' b, Same H H' → PgV H' b (named ws nm) → Q (.ref b) H'
theorem ok_law_named (T : Txt mg) (c_law_owners : Cl P w K mg base "_law_owners" 2 ["_law_words"] sp_takers_of)
    (F : Fun K "_law_named" "_law_named" s_law_named f fd) : FnOk P w K mg base CX0 3 f fd ["_law_words", "_law_names"] sp_law_named := by
  have nd := sc_law_named.nd
  refine F.ok sc_law_named (fun vs H Q Ex h => ?_) (fun cdv A outer s H vs Q Ex hr h => ?_)
  · obtain ⟨_, _, _, _, _, rfl, _⟩ := h
    rfl
  · obtain ⟨a, d, ws, nm, kvs, rfl, hp, ed, hnm, q⟩ := h
    have hu := hu_of hr
    refine ⟨_, pss_cons (ps_set (i := 2) nd rfl (Or.inl rfl) (pe_cl c_law_owners hr (by omega) (pa_cons (pv 0) pa_nil)))
    (pss_cons (ps_set (i := 3) nd rfl (Or.inl rfl) (pe_lst pa_nil))
    (pss_cons (ps_for PassesOwn.never rfl (pi_enumT (by rfl) T.enumerate (pa_cons (pv 0) pa_nil)) (pg_tup rfl (pgs_cons (pg_name (i := 4) nd rfl (Or.inl rfl)) (pgs_cons (pg_name (i := 5) nd rfl (Or.inl rfl)) pgs_nil)))
      (pss_one (ps_if (pt_val (pe_callB call_isi (by rfl) T.isinstance (by decide +kernel) (pa_cons (pv 5) (pa_cons (pe_ty (Ty := "tuple") T.tuple (by decide +kernel)) pa_nil)))) (pss_one (ps_expr (pe_bm PySem.F.plainAttrs_list PySem.F.slot_list_append PySem.F.type_list_append mt_append (pv 3) (pa_cons (pe_tup (pa_cons (pe_dget hu (pv 1) (pv 4) (fun _ _ => rfl)) (pa_cons (pe_ix ix_tup (pv 5) pe_int (fun _ _ => rfl)) pa_nil))) pa_nil)))) (pss_one (ps_expr (pe_bm PySem.F.plainAttrs_list PySem.F.slot_list_append PySem.F.type_list_append mt_append (pv 3) (pa_cons (pe_ifExp (pt_cmpR op_isN (pe_ix ix_list (pv 2) (pv 4) (fun _ _ => rfl)) pe_non (nomark _)) (pv 5) (pe_dget hu (pv 1) (pe_ix ix_list (pv 2) (pv 4) (fun _ _ => rfl)) (fun _ _ => rfl))) pa_nil)))))))
    (pss_one (ps_ret (pe_callTy call_tuple_of (by rfl) T.tuple (by decide +kernel) (pa_cons (pv 3) pa_nil)))))), ?_⟩
    obtain ⟨us, ea, hw⟩ := hp.at_
    have hlen : us.length = ws.length := Paired.length hw
    have h60 := hp.len
    refine ⟨_, rfl, a, ws, rfl, hp, fun H1 ow s1 now eow => ?_⟩
    refine ⟨Nat.zero_le _, fun fo nfo => ?_⟩
    generalize eH2 : upd H1 fo (.lst []) = H2
    obtain ⟨s2, e2, f2⟩ := new_f nfo eH2
    have s02 := s1.trans s2
    have nf0 : H fo = none := s1.free nfo
    refine ⟨_, rfl, a, us, rfl, SqT.h (s02 _ _ ea), ?_⟩
    refine for_it (walk_enumT (K := K) (a := a) (xs := us)) (fun i σ H' => ∃ (y4 y5 : Option V) (vs : List V), σ = [some (.ref a), some (.ref d), some (.ref ow), some (.ref fo), y4, y5] ∧ Same H H' ∧ H' ow = some (.lst ((owners ws).map optV)) ∧ H' fo = some (.lst vs) ∧ WsV H' vs ((named ws nm).take i)) ?_ ?_ ?_ ?_
    · exact ⟨none, none, [], rfl, s02, s2 _ _ eow, e2, .nil⟩
    · rintro i σ H' hi ⟨_, _, _, _, s4, _⟩
      exact SqT.h (s4 _ _ ea)
    · rintro i x0 σ H4 H5 hi ⟨y4, y5, vs, rfl, s4, eo4, ef4, hvs⟩ ⟨Tp, x1, x, rfl, nT, eH5, ex1, hx⟩
      have ex1' := Option.some.inj ex1
      subst ex1'
      have hil : i < ws.length := by omega
      obtain ⟨u, eu, wu⟩ := pd_at_left hw hx
      obtain ⟨s5, e5, f5⟩ := new_f nT eH5.symm
      have s45 := s4.trans s5
      have wu5 : WdV H5 x u := wu.mono s45.tups
      have ef5 := s5 _ _ ef4
      have eo5 := s5 _ _ eo4
      have ed5 := s45 _ _ ed
      have hvs5 := hvs.mono s5.tups
      have hvl : vs.length = i := by
        have := Paired.length hvs
        rw [this, List.length_take, named_len]
        omega
      have hna : (named ws nm)[i]? = some (nw ws nm i u) := by rw [named_at, eu]; rfl
      have fin : ∀ (R : L2.St → Hp → Prop) (H6 : Hp) (z : V), Same H5 H6 → WdV H6 z (nw ws nm i u) → (∀ σ' H', (∃ (y4 y5 : Option V) (vs : List V), σ' = [some (.ref a), some (.ref d), some (.ref ow), some (.ref fo), y4, y5] ∧ Same H H' ∧ H' ow = some (.lst ((owners ws).map optV)) ∧ H' fo = some (.lst vs) ∧ WsV H' vs ((named ws nm).take (i + 1))) → R σ' H') →
          ∃ l ys y, V.ref fo = .ref l ∧ [z] = [y] ∧ H6 l = some (.lst ys) ∧ ys.length < sizeLine ∧ R [some (.ref a), some (.ref d), some (.ref ow), some (.ref fo), some (.int (i : Int)), some x] (upd H6 l (.lst (ys ++ [y]))) := by
        intro R H6 z s6 hz hR
        refine ⟨fo, _, _, rfl, rfl, s6 _ _ ef5, lt60 (by omega), ?_⟩
        generalize eH7 : upd H6 fo (.lst (vs ++ [z])) = H7
        obtain ⟨e7, f7⟩ := mut_f eH7
        have t67 : Tups H6 H7 := tups_but (s6 _ _ ef5) (but_of f7)
        refine hR _ _ ⟨_, _, _, rfl, (s45.trans s6).mut nf0 f7, ?_, e7, ?_⟩
        · rw [f7 _ (ne_of_none eow nfo)]
          exact s6 _ _ eo5
        · rw [List.take_add_one, hna]
          exact pd_app' (hvs5.mono (s6.tups.trans t67)) (.cons (hz.mono t67) .nil)
      refine ⟨Tp, _, rfl, SqT.h e5, rfl, _, _, rfl, _, _, rfl, rfl, ?_⟩
      obtain ⟨ty, hty, hkt⟩ := isT_at (K := K) wu5
      refine ⟨_, rfl, _, _, ty, _, _, rfl, .ty _, hty, hkt, u.isTake, rfl, ?_⟩
      have hdg : ∀ {p : Nat} {s : Str} {k : Kd}, ws[p]? = some (.take s k) → DGet H5 d (.int (p : Int)) (some (.str (nm p))) := fun {p s k} e => by
        have := DGet.k (k := Sum.inl (p : Int)) ed5
        rw [(hnm p s k e).1] at this
        exact this
      cases u with
      | take s k =>
        refine iteT ?_
        obtain ⟨pt, xk, rfl, ept, hn, hkk, hdk⟩ := wu5
        refine ⟨_, rfl, .inl ⟨rfl, _, SqL.h ef5⟩, _, rfl, _, rfl, d, _, rfl, hdg eu, ?_⟩
        refine ⟨_, rfl, pt, _, 1, xk, rfl, rfl, SqT.h ept, rfl, (by show 2 ≤ sizeLine; decide), fun TT nTT => ?_⟩
        generalize eH6 : upd H5 TT (.tup _) = H6
        obtain ⟨s6, e6, f6⟩ := new_f nTT eH6
        exact fin _ H6 _ s6 ⟨TT, xk, rfl, e6, (hnm i s k eu).2, hkk.mono s6.tups, hdk⟩ (fun _ _ z => z)
      | use =>
        refine iteF ?_
        have hox : ((owners ws).map optV)[i]? = some (optV (owner ws i)) := by rw [List.getElem?_map, owners_at hil]; rfl
        rw [owner_notname (fun s e => by rw [eu] at e; cases e)] at hox
        refine ⟨_, rfl, .inl ⟨rfl, _, SqL.h ef5⟩, _, rfl, _, rfl, ow, _, (i : Int), _, rfl, rfl, SqL.h eo5, atI_nat hox, rfl, true, rfl, iteT ?_⟩
        exact ⟨_, rfl, fin _ H5 _ (Same.refl _) wu5 (fun _ _ z => z)⟩
      | name s =>
        refine iteF ?_
        have hox : ((owners ws).map optV)[i]? = some (optV (owner ws i)) := by rw [List.getElem?_map, owners_at hil]; rfl
        refine ⟨_, rfl, .inl ⟨rfl, _, SqL.h ef5⟩, _, rfl, _, rfl, ow, _, (i : Int), _, rfl, rfl, SqL.h eo5, atI_nat hox, rfl, ?_⟩
        cases ho : owner ws i with
        | none =>
          refine ⟨true, rfl, iteT ?_⟩
          refine ⟨_, rfl, fin _ H5 _ (Same.refl _) ?_ (fun _ _ z => z)⟩
          simp only [nw, ho]
          exact wu5
        | some b =>
          rw [ho] at hox
          obtain ⟨t, k, eb, _⟩ := owner_take ho
          refine ⟨false, rfl, iteF ?_⟩
          refine ⟨_, rfl, _, rfl, _, rfl, ow, _, (i : Int), _, rfl, rfl, SqL.h eo5, atI_nat hox, d, _, rfl, hdg eb, ?_⟩
          refine fin _ H5 _ (Same.refl _) ?_ (fun _ _ z => z)
          simp only [nw, ho]
          exact ⟨rfl, (hnm b t k eb).2⟩
    · rintro σ H4 ⟨y4, y5, vs, rfl, s4, eo4, ef4, hvs⟩
      rw [List.take_of_length_le (by rw [named_len]; omega)] at hvs
      refine ⟨_, rfl, fo, vs, rfl, .inl ⟨SqL.h ef4, fun b nb => ?_⟩⟩
      generalize eH5 : upd H4 b (.tup vs) = H5
      obtain ⟨s5, e5, f5⟩ := new_f nb eH5
      exact q H5 b (s4.trans s5) ⟨⟨vs, e5, hvs.mono s5.tups⟩, named_Wf hp.wf, by rw [named_len]; exact h60⟩
/-! ### _law_any_lot -/
abbrev s_law_any_lot : Stmt := topS 88
abbrev Nlaw_any_lot : List Str := ["_law_spec"]
theorem sc_law_any_lot : FnScope Nlaw_any_lot ["_law_spec"] (defScope s_law_any_lot) := ⟨rfl, rfl, rfl, by decide +kernel, rfl, by decide +kernel, by decide +kernel⟩
def sp_law_any_lot (CL CR : Addr) : Sp := fun vs H Q _ => ∃ (v : V) (l : Lt), vs = [v] ∧ SpecV H v l ∧ ∀ H' p, Same H H' → LtV CL CR H' p l → Q (.ref p) H'
theorem made_same {H H' : Hp} {x dx : Addr} {o o' : HO} (nx : H x = none) (ndx : H dx = none) (s : SameB x (upd (upd H dx o) x o') H') : Same H H' := fun b u e => by
  have h1 := ne_of_none e nx
  have h2 := ne_of_none e ndx
  refine s b u h1 ?_
  rw [upd_ne h1, upd_ne h2]
  exact e
theorem ok_law_any_lot (T : Txt mg) (c_Lot : C8.Mak P w K mg base 4 "Lot" CL (sp_Lot_init CL) []) (c_RawLot : C8.Mak P w K mg base 2 "RawLot" CR (sp_RawLot_init CR) [])
    (F : Fun K "_law_any_lot" "_law_any_lot" s_law_any_lot f fd) : FnOk P w K mg base CX0 6 f fd ["_law_spec"] (sp_law_any_lot CL CR) := by
  have nd := sc_law_any_lot.nd
  refine F.ok sc_law_any_lot (fun vs H Q Ex h => ?_) (fun cdv A outer s H vs Q Ex hr h => ?_)
  · obtain ⟨_, _, rfl, _⟩ := h
    rfl
  · obtain ⟨v, l, rfl, ⟨t, a, y, rfl, et, hb⟩, q⟩ := h
    refine ⟨_, pss_one (ps_ret (pe_ifExp (pt_cmpR op_eq (pe_ix ix_tup (pv 0) pe_int (fun _ _ => rfl)) pe_str (nomark _)) (C8.pe_mk c_RawLot hr (by omega) (by rfl) (pa_cons (pe_ix ix_tup (pv 0) pe_int (fun _ _ => rfl)) (pa_cons (pe_ix ix_tup (pv 0) pe_int (fun _ _ => rfl)) pa_nil))) (C8.pe_mk c_Lot hr (by omega) (by rfl) (pa_cons (pe_ix ix_tup (pv 0) pe_int (fun _ _ => rfl)) (pa_cons (pe_ix ix_tup (pv 0) pe_int (fun _ _ => rfl)) pa_nil))))), ?_⟩
    refine ⟨_, rfl, t, _, 0, .str (specWd l), rfl, rfl, SqT.h et, rfl, rfl, ?_⟩
    have lot : ∀ (ms : List Nat), ¬ V.str (specWd l) = V.str "raw" → H a = some (.tup (ms.map natV)) → (∀ m ∈ ms, 0 < m ∧ m ≤ 12) → ms.length ≤ 4 → wordOk (specWd l) → (specWd l = "more" ↔ ms ≠ []) →
        (∀ H' p dx fs, H' p = some (.ins CL dx fs) → LotF H' (specWd l) ms fs → LtV CL CR H' p l) → ∃ b, V.bl (decide (V.str (specWd l) = V.str "raw")) = V.bl b ∧ if b = true then tMake CR (sp_RawLot_init CR) [] E0 (tCons (tOp (rIxT K) (tVar 0) (tC (.int 1))) (tCons (tOp (rIxT K) (tVar 0) (tC (.int 2))) tNil)) [some (.ref t)] H Q else tMake CL (sp_Lot_init CL) [] E0 (tCons (tOp (rIxT K) (tVar 0) (tC (.int 0))) (tCons (tOp (rIxT K) (tVar 0) (tC (.int 1))) tNil)) [some (.ref t)] H Q := by
      intro ms hne ea h1 h2 h3 h4 h5
      refine ⟨false, eF hne, iteF ?_⟩
      refine ⟨_, rfl, t, _, 0, .str (specWd l), rfl, rfl, SqT.h et, rfl, _, rfl, t, _, 1, .ref a, rfl, rfl, SqT.h et, rfl, fun x dx nx ndx hxd => ?_⟩
      refine ⟨x, dx, a, ms, specWd l, rfl, upd_same, ?_, h1, h2, h3, h4, fun H' fs sb e hf => ⟨rfl, q H' x (made_same nx ndx sb) (h5 H' x dx fs e hf)⟩⟩
      rw [upd_ne (ne_of_none ea nx), upd_ne (ne_of_none ea ndx)]
      exact ea
    cases l with
    | once => exact lot [] n_ow hb.2 (fun m z => (by cases z)) (Nat.zero_le _) (.inl rfl) ⟨fun z => absurd (congrArg V.str z) n_om, fun z => absurd rfl z⟩ fun H' p dx fs e hf => ⟨dx, fs, e, hf⟩
    | loan => exact lot [] n_lw hb.2 (fun m z => (by cases z)) (Nat.zero_le _) (.inr (.inl rfl)) ⟨fun z => absurd (congrArg V.str z) n_lm, fun z => absurd rfl z⟩ fun H' p dx fs e hf => ⟨dx, fs, e, hf⟩
    | free => exact lot [] n_fw hb.2 (fun m z => (by cases z)) (Nat.zero_le _) (.inr (.inr (.inl rfl))) ⟨fun z => absurd (congrArg V.str z) n_fm, fun z => absurd rfl z⟩ fun H' p dx fs e hf => ⟨dx, fs, e, hf⟩
    | more ms => exact lot ms n_mw hb.2.1 hb.2.2.2.1 hb.2.2.2.2 (.inr (.inr (.inr rfl))) ⟨fun _ => hb.2.2.1, fun _ => rfl⟩ fun H' p dx fs e hf => ⟨dx, fs, e, hf⟩
    | raw hs rs =>
      obtain ⟨b, rfl, ea, eb, h8, hr1, hr6, hh1⟩ := hb
      refine ⟨true, eT rfl, iteT ?_⟩
      refine ⟨_, rfl, t, _, 1, .ref a, rfl, rfl, SqT.h et, rfl, _, rfl, t, _, 2, .ref b, rfl, rfl, SqT.h et, rfl, fun x dx nx ndx hxd => ?_⟩
      refine ⟨x, dx, a, b, hs, rs, rfl, upd_same, ?_, ?_, h8, hr1, hr6, hh1, fun H' fs sb e hf => ⟨rfl, q H' x (made_same nx ndx sb) ⟨dx, fs, e, hf⟩⟩⟩
      · rw [upd_ne (ne_of_none ea nx), upd_ne (ne_of_none ea ndx)]
        exact ea
      · rw [upd_ne (ne_of_none eb nx), upd_ne (ne_of_none eb ndx)]
        exact eb
end
end K8
namespace K8
open PySem PySem.Spec PyProof.Rows L2
section
variable {P : Program} {w : World} {K : PySem.W.Frag} {mg : Str → Option Value} {base : Heap} {f : Addr} {fd : FuncData} {CL CR CB : Addr}
/-! ### _law_standard -/
abbrev s_law_standard : Stmt := topS 87
abbrev Nlaw_standard : List Str := ["_law_words", "_law_barred", "_law_letters", "_law_names", "_law_one", "_law_takes_here", "_law_name", "_law_other", "_law_at"]
theorem sc_law_standard : FnScope Nlaw_standard ["_law_words"] (defScope s_law_standard) := ⟨rfl, rfl, rfl, by decide +kernel, rfl, by decide +kernel, by decide +kernel⟩
def sp_law_standard : Sp := fun vs H Q _ => ∃ (a : Addr) (ws : List W), vs = [.ref a] ∧ PgV H a ws ∧ ∀ H' b ws', Same H H' → PgV H' b ws' → (∀ hold known handed, judge hold known handed ws' = judge hold known handed ws) → Q (.ref b) H'
theorem ok_law_standard (T : Txt mg) (c_law_open : Cl P w K mg base "_law_open" 3 ["_law_words"] sp_law_open) (c_law_takes : Cl P w K mg base "_law_takes" 1 ["_law_words"] sp_law_takes) (c_law_named : Cl P w K mg base "_law_named" 3 ["_law_words", "_law_names"] sp_law_named)
    (F : Fun K "_law_standard" "_law_standard" s_law_standard f fd) : FnOk P w K mg base CX0 4 f fd ["_law_words"] sp_law_standard := by
  have nd := sc_law_standard.nd
  refine F.ok sc_law_standard (fun vs H Q Ex h => ?_) (fun cdv A outer s H vs Q Ex hr h => ?_)
  · obtain ⟨_, _, rfl, _⟩ := h
    rfl
  · obtain ⟨a, ws, rfl, hp, q⟩ := h
    refine ⟨_, pss_cons (ps_set (i := 1) nd rfl (Or.inr rfl) (pe_cl c_law_open hr (by omega) (pa_cons (pv 0) pa_nil)))
    (pss_cons (ps_set (i := 2) nd rfl (Or.inl rfl) pe_str)
    (pss_cons (ps_set (i := 3) nd rfl (Or.inr rfl) (pe_callTy (call_listTxt rfl) (by rfl) T.list (by decide +kernel) (pa_cons (pv 2) pa_nil)))
    (pss_cons (ps_for PassesOwn.never rfl (pi_str (pe_slice sl_str (pv 2) po_none (po_some pe_int))) (pg_name (i := 4) nd rfl (Or.inr rfl))
      (pss_one (ps_expr (pe_bm PySem.F.plainAttrs_list PySem.F.slot_list_extend PySem.F.type_list_extend mt_extend (pv 3) (pa_cons (pe_lc (own := [("_law_other", 7)]) (g := gName 7) rfl nd (pi_str (pv 2)) (blkOk_by (own := [("_law_other", 7)]) (N := Nlaw_standard) (sc := defScope s_law_standard) (by decide +kernel)) (fun _ _ _ _ _ => (pg_name (i := 7) nd rfl (Or.inl rfl))) (fun _ _ _ _ _ => pts_nil) (fun _ _ _ _ _ => (pe_op op_add_str (pv 4) (pv 7)))) pa_nil)))))
    (pss_cons (ps_set (i := 3) nd rfl (Or.inr rfl) (pe_lc (own := [("_law_name", 6)]) (g := gName 6) rfl nd (pi_list (pv 3)) (blkOk_by (own := [("_law_name", 6)]) (N := Nlaw_standard) (sc := defScope s_law_standard) (by decide +kernel)) (fun _ _ _ _ _ => (pg_name (i := 6) nd rfl (Or.inl rfl))) (fun _ _ _ _ _ => (pts_one (pt_cmpR (r := rIn K true) op_notIn_seq (pv 6) (pv 1) (by rfl)))) (fun _ _ _ _ _ => (pv 6))))
    (pss_cons (ps_set (i := 5) nd rfl (Or.inr rfl) (pe_cl c_law_takes hr (by omega) (pa_cons (pv 0) pa_nil)))
    (pss_one (ps_ret (pe_cl c_law_named hr (by omega) (pa_cons (pv 0) (pa_cons (pe_callTy (call_dictP rfl) (by rfl) T.dict (by decide +kernel) (pa_cons (pe_lc (own := [("_law_at", 8)]) (g := gName 8) rfl nd (pi_range1 rfl T.range (pa_cons (pe_callB call_len_seq (by rfl) T.len (by decide +kernel) (pa_cons (pv 5) pa_nil)) pa_nil)) (blkOk_by (own := [("_law_at", 8)]) (N := Nlaw_standard) (sc := defScope s_law_standard) (by decide +kernel)) (fun _ _ _ _ _ => (pg_name (i := 8) nd rfl (Or.inl rfl))) (fun _ _ _ _ _ => pts_nil) (fun _ _ _ _ _ => (pe_tup (pa_cons (pe_ix (r := rIxL K) ix_list (pv 5) (pv 8) (fun _ _ => rfl)) (pa_cons (pe_ix (r := rIxL K) ix_list (pv 3) (pv 8) (fun _ _ => rfl)) pa_nil))))) pa_nil)) pa_nil)))))))))), ?_⟩
    have h60 := hp.len
    refine ⟨_, rfl, a, ws, rfl, hp, fun H1 ba ss s1 eba hss hop => ?_⟩
    refine ⟨_, rfl, abc, rfl, (by rw [abc_size]; exact le60 (by omega)), fun n0 nn0 => ?_⟩
    have e26 : (abc.cps.toList.map fun c => V.str ⟨#[c]⟩) = lets.map V.str := by unfold lets; rw [List.map_map]; rfl
    rw [e26]
    generalize eH2 : upd H1 n0 (.lst (lets.map V.str)) = H2
    obtain ⟨s2, e2, f2⟩ := new_f nn0 eH2
    have nn00 : H n0 = none := s1.free nn0
    have s02 := s1.trans s2
    -- the names of two letters
    refine ⟨_, rfl, _, rfl, abc, rfl, (show abc.cps.size ≤ sizeLine by rw [abc_size]; exact le60 (by omega)), _, rfl, ?_⟩
    refine for_it (walk_str (z := abc4)) (fun i σ H' => ∃ (y4 : Option V), σ = [some (.ref a), some (.ref ba), some (.str abc), some (.ref n0), y4, none, none, none, none] ∧ Same H H' ∧ H' ba = some (.lst (ss.map V.str)) ∧ H' n0 = some (.lst ((namesTo i).map V.str))) ?_ ?_ ?_ ?_
    · refine ⟨none, rfl, s02, s2 _ _ eba, ?_⟩
      rw [e2]
      unfold namesTo
      simp
    · intro i σ H' _ _
      trivial
    · rintro i x0 σ H3 H4 hi ⟨y4, rfl, s3, eb3, en3⟩ ⟨rfl, c, ec, rfl⟩
      have hi4 : i < 4 := by rw [abc4_size] at hi; exact hi
      have hln := namesTo_len (i := i) (by omega)
      refine ⟨_, rfl, .inl ⟨rfl, _, SqL.h en3⟩, _, rfl, abc, rfl, fun D nD => ?_⟩
      refine lc_it (walk_str (z := abc)) (fun j H' => Same H4 H' ∧ H' D = some (.lst (((lets.take j).map fun b => sgn c ++ b).map V.str))) ⟨same_new _ nD, upd_same⟩ ?_ ?_ ?_
      · intro j H' _ _
        trivial
      · rintro j x1 H5 H6 hj ⟨s5, eD⟩ ⟨rfl, c2, ec2, rfl⟩
        have hj26 : j < 26 := by rw [abc_size] at hj; exact hj
        refine ⟨rfl, _, rfl, _, rfl, _, _, rfl, rfl, (show 1 + 1 ≤ sizeLine by decide), _, eD, ?_, s5.mut nD (fun b hb => upd_ne hb), ?_⟩
        · rw [List.length_map, List.length_map, List.length_take]
          exact lt60 (by omega)
        · rw [upd_same, List.take_add_one, lets_at ec2, List.map_append, List.map_append]
          rfl
      · rintro H5 ⟨s5, eD⟩
        rw [abc_size, List.take_of_length_le (by rw [lets_len]; exact Nat.le_refl _)] at eD
        have en5 := s5 _ _ en3
        refine ⟨n0, D, _, _, rfl, rfl, en5, eD, ?_, ?_⟩
        · rw [List.length_map, List.length_map, List.length_map, lets_len]
          exact Nat.le_of_lt (small1000 (by omega))
        generalize eH6 : upd H5 n0 _ = H6
        obtain ⟨e6, f6⟩ := mut_f eH6
        refine ⟨_, rfl, (s3.trans s5).mut nn00 f6, ?_, ?_⟩
        · rw [f6 _ (ne_of_none eba nn0)]
          exact s5 _ _ eb3
        · rw [e6, namesTo_succ ec, List.map_append]
    rintro σ H3 ⟨y4, rfl, s3, eb3, en3⟩
    rw [abc4_size] at en3
    have en3' : H3 n0 = some (.lst (allNames.map V.str)) := en3
    -- the names that are not barred
    refine ⟨_, rfl, n0, rfl, ⟨_, SqL.h en3'⟩, fun D nD => ?_⟩
    refine lc_list (K := K) (a := n0) (xs := allNames.map V.str) (fun i H' => Same H3 H' ∧ H' D = some (.lst (((allNames.take i).filter (keepN ss)).map V.str))) ⟨same_new _ nD, upd_same⟩ (fun i H' _ h' => SqL.h (h'.1 _ _ en3')) ?_ ?_
    · rintro i x H4 hx ⟨s4, eD⟩
      obtain ⟨n, en, rfl⟩ := str_at hx
      have es := filter_snoc (keepN ss) _ en
      refine ⟨rfl, _, rfl, _, rfl, ba, _, rfl, .inl (SqL.h (s4 _ _ eb3)), rfl, flatS ss, (!inV (V.str n) (ss.map V.str)), rfl, ?_⟩
      rw [keepN_inV]
      cases e : keepN ss n with
      | true =>
        rw [e, if_pos rfl] at es
        refine iteT ⟨_, rfl, _, eD, ?_, s4.mut nD (fun b hb => upd_ne hb), ?_⟩
        · rw [List.length_map]
          have h1 := List.length_filter_le (keepN ss) (allNames.take i)
          rw [List.length_take, allNames_len] at h1
          exact small1000 (by omega)
        · rw [upd_same, es, List.map_append]
          rfl
      | false =>
        rw [e, if_neg (by simp), List.append_nil] at es
        exact iteF ⟨s4, by rw [es]; exact eD⟩
    rintro H4 ⟨s4, eD⟩
    rw [List.length_map, List.take_of_length_le (Nat.le_refl _)] at eD
    have hkl := keepN_len ss allNames_nd
    rw [allNames_len] at hkl
    have hNnd : (allNames.filter (keepN ss)).Nodup := allNames_nd.sublist List.filter_sublist
    have hNok : ∀ s ∈ allNames.filter (keepN ss), nameOk s = true ∧ s ∉ ss := fun s hs => ⟨allNames_ok s (List.mem_filter.mp hs).1, keepN_not (List.mem_filter.mp hs).2⟩
    generalize allNames.filter (keepN ss) = N2 at eD hkl hNnd hNok
    have s04 := s3.trans s4
    -- the takes
    refine ⟨_, rfl, a, ws, rfl, hp.mono s04.tups, fun H5 tp s5 ntp etp => ?_⟩
    have htl := tkAll_len ws ws.length
    have htnd := tkAll_nd ws ws.length
    have hmem := @mem_tkAll ws
    generalize tkAll ws ws.length = tk at etp htl htnd hmem
    have s05 := s04.trans s5
    have eD5 := s5 _ _ eD
    refine ⟨_, rfl, _, rfl, tp, _, rfl, .inl (SqL.h etp), _, rfl, by omega, by rw [List.length_map]; omega, fun D2 nD2 => ?_⟩
    rw [show (((tk.map natV).length : Nat) : Int).toNat = tk.length by rw [List.length_map]; omega]
    refine lc_range (lo := 0) (n := tk.length) (fun j H' => Same H5 H' ∧ ∃ (ps : List Addr) (kvs : List (Key × V)), H' D2 = some (.lst (ps.map V.ref)) ∧ Paired (fun p (kv : Key × V) => H' p = some (.tup [kV kv.1, kv.2])) ps kvs ∧ kvs = ((tk.take j).zip (N2.take j)).map (fun z => ((Sum.inl (z.1 : Int) : Key), V.str z.2))) ⟨same_new _ nD2, [], [], upd_same, .nil, rfl⟩ ?_ ?_
    · rintro j H6 hj ⟨s6, ps, kvs, eD6, hpk, hkv⟩
      have e0 : (0 : Int) + (j : Int) = (j : Int) := by omega
      rw [e0]
      have ex1 : tk[j]? = some tk[j] := List.getElem?_eq_getElem hj
      have ex2 : N2[j]? = some N2[j] := List.getElem?_eq_getElem (by omega)
      generalize tk[j] = t1 at ex1
      generalize N2[j] = n1 at ex2
      have hpl : ps.length = kvs.length := Paired.length hpk
      have hkl2 : kvs.length ≤ j := by rw [hkv, List.length_map, List.length_zip, List.length_take]; omega
      refine ⟨rfl, _, rfl, _, rfl, tp, _, (j : Int), natV t1, rfl, rfl, SqL.h (s6 _ _ etp), atI_nat (by rw [List.getElem?_map, ex1]; rfl), ?_⟩
      refine ⟨_, rfl, _, rfl, D, _, (j : Int), V.str n1, rfl, rfl, SqL.h (s6 _ _ eD5), atI_nat (by rw [List.getElem?_map, ex2]; rfl), ?_⟩
      refine ⟨(by show 2 ≤ sizeLine; decide), fun TT nTT => ?_⟩
      generalize eH7 : upd H6 TT (.tup _) = H7
      obtain ⟨s7, e7, f7⟩ := new_f nTT eH7
      have eD7 := s7 _ _ eD6
      have t78 : Tups H7 (upd H7 D2 (.lst (ps.map V.ref ++ [V.ref TT]))) := tups_but eD7 (but_of fun b hb => upd_ne hb)
      refine ⟨_, eD7, by rw [List.length_map]; exact lt60 (by omega), (s6.trans s7).mut nD2 (fun b hb => upd_ne hb), ps ++ [TT], kvs ++ [(Sum.inl (t1 : Int), V.str n1)], by rw [upd_same, List.map_append]; rfl, ?_, ?_⟩
      · exact pd_app' (pd_imp (fun _ _ r => t78 _ _ (s7 _ _ r)) hpk) (.cons (t78 _ _ e7) .nil)
      · rw [hkv, List.take_add_one, List.take_add_one, ex1, ex2, List.zip_append (by rw [List.length_take, List.length_take]; omega), List.map_append]
        rfl
    · rintro H6 ⟨s6, ps, kvs, eD6, hpk, hkv⟩
      rw [List.take_of_length_le (Nat.le_refl _)] at hkv
      have hlz : (N2.take tk.length).length = tk.length := by rw [List.length_take]; omega
      have hfst : kvs.map (·.1) = tk.map fun t : Nat => (Sum.inl (t : Int) : Key) := by
        rw [hkv, List.map_map]
        have h1 := List.map_fst_zip (l₁ := tk) (l₂ := N2.take tk.length) (by omega)
        conv => rhs; rw [← h1]
        rw [List.map_map]
        rfl
      have hknd : (kvs.map (·.1)).Nodup := by
        rw [hfst]
        refine List.pairwise_map.mpr (List.Pairwise.imp (fun {x y} hne e => hne ?_) htnd)
        have := Sum.inl.inj e
        omega
      refine ⟨D2, ps, kvs, rfl, SqL.h eD6, pd_imp (fun _ _ r => SqT.h r) hpk, fun d nd7 => ?_⟩
      rw [mergeK_nd kvs [] (by rw [List.nil_append]; exact hknd), List.nil_append]
      generalize eH7 : upd H6 d (.dK kvs) = H7
      obtain ⟨s7, e7, f7⟩ := new_f nd7 eH7
      have s07 := (s05.trans s6).trans s7
      have hval : ∀ (j : Nat) (t : Nat), tk[j]? = some t → ∃ n, N2[j]? = some n ∧ valV kvs (Sum.inl (t : Int)) = some (.str n) := by
        intro j t ht
        have hj := (List.getElem?_eq_some_iff.mp ht).1
        have ex2 : N2[j]? = some N2[j] := List.getElem?_eq_getElem (by omega)
        refine ⟨N2[j], ex2, ?_⟩
        have hm : ((Sum.inl (t : Int) : Key), V.str N2[j]) ∈ kvs := by
          rw [hkv]
          refine List.mem_map.mpr ⟨(t, N2[j]), ?_, rfl⟩
          refine List.mem_of_getElem? (i := j) ?_
          rw [List.getElem?_zip_eq_some]
          exact ⟨ht, by rw [List.getElem?_take_of_lt hj]; exact ex2⟩
        exact val_nodup hknd _ hm
      let nm : Nat → Str := fun p => match valV kvs (Sum.inl (p : Int)) with
        | some (.str n) => n
        | _ => ""
      have hnm : ∀ (p : Nat) (s : Str) (k : Kd), ws[p]? = some (.take s k) → ∃ j : Nat, tk[j]? = some p ∧ N2[j]? = some (nm p) ∧ valV kvs (Sum.inl (p : Int)) = some (.str (nm p)) := by
        intro p s k e
        have hpm : p ∈ tk := hmem.mpr ⟨s, k, e⟩
        obtain ⟨j, hj⟩ := List.getElem?_of_mem hpm
        obtain ⟨n, hn, hv⟩ := hval j p hj
        have en : nm p = n := by show (match valV kvs (Sum.inl (p : Int)) with | some (.str n) => n | _ => "") = n; rw [hv]
        exact ⟨j, hj, by rw [en]; exact hn, by rw [en]; exact hv⟩
      have fresh : Fresh ws nm := by
        refine ⟨fun a b s k t j' e1 e2 e => ?_, fun a s k p e z => ?_⟩
        · obtain ⟨i1, h1, h2, _⟩ := hnm a s k e1
          obtain ⟨i2, h3, h4, _⟩ := hnm b t j' e2
          rw [e, ← h4] at h2
          have hi := (List.getElem?_inj (List.getElem?_eq_some_iff.mp (h2.trans h4)).1 hNnd).mp h2
          subst hi
          exact Option.some.inj (h1.symm.trans h3)
        · obtain ⟨i1, h1, h2, _⟩ := hnm a s k e
          exact (hNok _ (List.mem_of_getElem? h2)).2 (hop p _ z)
      refine ⟨a, d, ws, nm, kvs, rfl, hp.mono s07.tups, e7, fun p s k e => ?_, fun H8 b s8 hb => q H8 b _ (s07.trans s8) hb fun hold known handed => judge_named fresh hold known handed⟩
      obtain ⟨i1, h1, h2, h3⟩ := hnm p s k e
      exact ⟨h3, (hNok _ (List.mem_of_getElem? h2)).1⟩
end
end K8
namespace K8
open PySem PySem.Spec PyProof.Rows L2
/-- what the written part says of the clause and of the two classes -/
structure TkTxt (K : PySem.W.Frag) (mg : Str → Option Value) (CF CE : Addr) : Prop where
  gE : mg "CountsError" = some (.ref CE)
  gF : mg "Faulty" = some (.ref CF)
  ex : PySem.W.exmOne K (.ref CF) (.ref CE) = some true
  xc : ExcC K CF
  xf : XfC K CF
  noN : PySem.W.findIn K (.ref CF) "fault" = some none
  k1 : PySem.W.kitOne K (.ref CF) (.ref CF) = some true
  k2 : PySem.W.kitOne K (.ref CF) (.type "ValueError") = some true
section
variable {X : Cx} {x : Str} {p pos : Pos} {e : Expr} {es : List Expr} {t : TA} {k j : Nat} {ps : List Str} {sp : Sp} {Ex : L2.St → XK}
theorem pe_clS (C : ClX X.prog X.w X.K X.mg X.base x k ps sp) (hr : Room j X.A) (hk : k ≤ j) (hx : ∀ σ, PassesAt (L2.CX X.prog X.w) X σ (Ex σ)) (ha : PA X (e :: es) t) (hg : Gl X x := by rfl) (hdb : (x == ("__debug__" : Str)) = false := by decide)
    (he : starEach (e :: es) X.env = (false, eval e X.env) :: starEach es X.env := by rfl) (hpl : (backTo pos (starEach es X.env)).any (·.1) = false := by rfl) : PE X (.Call (.Name x p) (e :: es) [] pos) (tCallS sp Ex t) := by
  obtain ⟨f, fd, hm, kp, b, F⟩ := C.ex
  exact pe_callS F (hr.mono hk) hg hm kp b hx ha hdb he hpl
end
section
variable {P : Program} {w : World} {K : PySem.W.Frag} {mg : Str → Option Value} {base : Heap} {f : Addr} {fd : FuncData} {CL CR CB CF CE : Addr}
/-! ### _law_told_kind -/
abbrev s_law_told_kind : Stmt := topS 89
abbrev Nlaw_told_kind : List Str := ["_law_book", "_law_handed", "_law_words", "_law_found", "e"]
theorem sc_law_told_kind : FnScope Nlaw_told_kind ["_law_book", "_law_handed", "_law_words"] (defScope s_law_told_kind) := ⟨rfl, rfl, rfl, by decide +kernel, rfl, by decide +kernel, by decide +kernel⟩
def sp_law_told_kind (CL CR CB : Addr) : Sp := fun vs H Q _ => ∃ l tl hl ws, BhW CL CR CB H vs l tl hl ws ∧ ∀ (H' : Hp) (t : Addr) (x y : V), Same H H' → H' t = some (.tup [x, y]) →
  (judged l tl hl ws = none → x = .str "kind" ∧ OkV H' y (((kinds ws (knOf (tl ++ hl)))[0]?).getD none)) → (∀ flt, judged l tl hl ws = some flt → x = .str "fault" ∧ FltV H' y (some flt)) → Q (.ref t) H'
theorem ok_law_told_kind (T : Txt mg) (TK : TkTxt K mg CF CE) (c_kind_of : ClX P w K mg base "kind_of" 9 ["book", "handed", "program"] (sp_kind_of CL CR CB CF))
    (F : Fun K "_law_told_kind" "_law_told_kind" s_law_told_kind f fd) : FnOk P w K mg base CX0 10 f fd ["_law_book", "_law_handed", "_law_words"] (sp_law_told_kind CL CR CB) := by
  have nd := sc_law_told_kind.nd
  refine F.ok sc_law_told_kind (fun vs H Q Ex h => ?_) (fun cdv A outer s H vs Q Ex hr h => ?_)
  · obtain ⟨_, _, _, _, ⟨_, _, _, rfl, _⟩, _⟩ := h
    rfl
  · obtain ⟨l, tl, hl, ws, ⟨p, a, b, rfl, hb, hh, h6, hnd, hp⟩, q⟩ := h
    refine ⟨_, pss_cons (ps_set (i := 3) nd rfl (Or.inl rfl) (pe_tup (pa_cons pe_str (pa_cons pe_non pa_nil))))
    (pss_cons (ps_try_as (i := 4) (tb := fun W => tAsg (tTup (tCons (tC (.str "kind")) (tCons (tCallS (sp_kind_of CL CR CB CF) (WE W) (tCons (tVar 0) (tCons (tVar 1) (tCons (tVar 2) tNil)))) tNil))) (gName 3)) (Wout := fun _ _ _ _ => False) rfl rfl nd rfl rfl ⟨rfl, by decide, Or.inl TK.gE⟩ takes0
      (fun W pn xe tk _ => pss_one (ps_set (i := 3) nd rfl (Or.inl rfl) (by exact pe_tup (pa_cons pe_str (pa_cons (pe_clS c_kind_of hr (by omega) (fun σ => passAt tk σ) (by exact (pa_cons (pv 0) (pa_cons (pv 1) (pa_cons (pv 2) pa_nil))))) pa_nil)))))
      (fun a oe cls d pn hz hf => pss_one (ps_if (PW.pt (pw_and (pt_val (pe_callB (call_isFa TK.xc hz hf) (by rfl) T.isinstance (by decide +kernel) (pa_cons (pv 4) (pa_cons (pe_glob (v := .ref CF) rfl TK.gF rfl) pa_nil)))) (pw_and1 (pt_val (pe_callB (call_isFa TK.xc hz hf) (by rfl) T.isinstance (by decide +kernel) (pa_cons (pv 4) (pa_cons (pe_ty (Ty := "ValueError") T.ValueError (by decide +kernel)) pa_nil))))))) (pss_one (ps_set (i := 3) nd rfl (Or.inl rfl) (pe_tup (pa_cons pe_str (pa_cons (pe_xf TK.xf TK.noN hz hf (pv 4)) pa_nil))))) pss_nil)))
    (pss_one (ps_ret (pv 3)))), ?_⟩
    refine ⟨(by show 2 ≤ sizeLine; decide), fun t0 nt0 => ?_⟩
    generalize eH1 : upd H t0 (.tup _) = H1
    obtain ⟨s1, e1, f1⟩ := new_f nt0 eH1
    refine ⟨_, rfl, _, rfl, _, rfl, l, tl, hl, ws, ⟨p, a, b, rfl, hb.mono s1, hh.mono s1, h6, hnd, hp.mono s1.tups⟩, fun ej H2 v s2 hv => ?_, fun flt ej H2 v d s2 hv ed => ?_⟩
    · refine ⟨(by show 2 ≤ sizeLine; decide), fun t1 nt1 => ?_⟩
      generalize eH3 : upd H2 t1 (.tup _) = H3
      obtain ⟨s3, e3, f3⟩ := new_f nt1 eH3
      refine ⟨_, rfl, q H3 t1 _ _ ((s1.trans s2).trans s3) e3 (fun _ => ⟨rfl, hv.mono s3.tups⟩) (fun flt z => ?_)⟩
      rw [ej] at z
      cases z
    · refine ⟨true, TK.ex, fun _ ea na => ?_, fun z => by cases z⟩
      refine ⟨_, rfl, rfl, _, _, true, d, _, rfl, (fun u r => r), TK.k1, rfl, ed, true, rfl, iteT ?_⟩
      refine ⟨_, rfl, rfl, _, _, true, d, _, rfl, (fun u r => r), TK.k2, rfl, ed, true, rfl, iteT ?_⟩
      refine ⟨_, rfl, rfl, rfl, d, _, v, rfl, ed, by simp [List.lookup], (by show 2 ≤ sizeLine; decide), fun t1 nt1 => ?_⟩
      generalize eH3 : upd H2 t1 (.tup _) = H3
      obtain ⟨s3, e3, f3⟩ := new_f nt1 eH3
      refine ⟨_, rfl, q H3 t1 _ _ ((s1.trans s2).trans s3) e3 (fun z => ?_) (fun flt' z => ?_)⟩
      · rw [ej] at z
        cases z
      · rw [ej] at z
        cases z
        exact ⟨rfl, hv.mono s3.tups⟩
end
end K8
namespace K8
open PySem PySem.Spec PyProof.Rows L2
/-! ### what is the same by the law -/
def FlV (x : V) : Prop := x = .non ∨ (∃ i, x = .int i) ∨ ∃ s, x = .str s ∧ PyData.strOk s = true
def IsV : Nat → Hp → V → V → Prop
  | 0, _, x, y => x = y ∧ FlV x
  | n + 1, H, x, y => (x = y ∧ FlV x) ∨ ∃ a b xs ys, x = .ref a ∧ y = .ref b ∧ ((H a = some (.tup xs) ∧ H b = some (.tup ys)) ∨ (H a = some (.lst xs) ∧ H b = some (.lst ys))) ∧ xs.length ≤ 60 ∧ Paired (IsV n H) xs ys
theorem IsV.mono {H H' : Hp} (s : Same H H') : ∀ {n : Nat} {x y : V}, IsV n H x y → IsV n H' x y
  | 0, _, _, h => h
  | n + 1, _, _, h => by
    rcases h with h | ⟨a, b, xs, ys, e1, e2, e3, hl, hp⟩
    · exact .inl h
    · exact .inr ⟨a, b, xs, ys, e1, e2, e3.imp (fun ⟨p, q⟩ => ⟨s _ _ p, s _ _ q⟩) (fun ⟨p, q⟩ => ⟨s _ _ p, s _ _ q⟩), hl, pd_imp (fun _ _ r => r.mono s) hp⟩
theorem IsV.flat {H : Hp} {x : V} (h : FlV x) : ∀ n, IsV n H x x
  | 0 => ⟨rfl, h⟩
  | n + 1 => .inl ⟨rfl, h⟩
theorem isi_any {K : PySem.W.Frag} {t a b : String} {r1 r2 : Bool} (h1 : PySem.W.kitOne K (.type t) (.type a) = some r1) (h2 : PySem.W.kitOne K (.type t) (.type b) = some r2) : PySem.W.kitAny K (.type t) [.type a, .type b] = some (r1 || r2) := by
  refine kitAny_cons h1 (fun e => ?_) (fun e => ?_)
  · refine kitAny_cons h2 (fun e2 => ?_) (fun e2 => ?_)
    · rw [kitAny_nil, e, e2]; rfl
    · rw [e2, Bool.or_true]
  · rw [e, Bool.true_or]
theorem FlV.ty {K : PySem.W.Frag} {H : Hp} {x : V} (h : FlV x) : ∃ (t : String) (d : PyData), TyX K H x (.type t) ∧ PySem.W.kitAny K (.type t) [.type "tuple", .type "list"] = some false ∧ PySem.W.kitOne K (.type t) (.type "dict") = some false ∧ PySem.W.kitOne K (.type t) (.type "bool") = some false ∧
    Dp K H x d ∧ SeqAt.shaped d = true ∧ PyData.eqv d d = true := by
  rcases h with rfl | ⟨i, rfl⟩ | ⟨s, rfl, hs⟩
  · exact ⟨_, .none, .base .non, isi_any (t := "NoneType") (a := "tuple") (b := "list") (r1 := false) (r2 := false) (kit_ty (by decide +kernel)) (kit_ty (by decide +kernel)), kit_ty (by decide +kernel), kit_ty (by decide +kernel), .non, rfl, rfl⟩
  · exact ⟨_, .int i, .base (.int i), isi_any (t := "int") (a := "tuple") (b := "list") (r1 := false) (r2 := false) (kit_ty (by decide +kernel)) (kit_ty (by decide +kernel)), kit_ty (by decide +kernel), kit_ty (by decide +kernel), .int i, by unfold SeqAt.shaped; simp [PyData.canLay0, PyData.depth], by simp [PyData.eqv]⟩
  · exact ⟨_, .str s, .base (.str s), isi_any (t := "str") (a := "tuple") (b := "list") (r1 := false) (r2 := false) (kit_ty (by decide +kernel)) (kit_ty (by decide +kernel)), kit_ty (by decide +kernel), kit_ty (by decide +kernel), .str s, str_shaped hs, by simp [PyData.eqv]⟩
section
variable {P : Program} {w : World} {K : PySem.W.Frag} {mg : Str → Option Value} {base : Heap} {f : Addr} {fd : FuncData} {CL CR CB CF CE : Addr}
/-! ### _law_is -/
abbrev s_law_is : Stmt := topS 66
abbrev Nlaw_is : List Str := ["_law_told", "_law_due", "_law_k", "_law_key"]
theorem sc_law_is : FnScope Nlaw_is ["_law_told", "_law_due"] (defScope s_law_is) := ⟨rfl, rfl, rfl, by decide +kernel, rfl, by decide +kernel, by decide +kernel⟩
def sp_law_is (D : Nat) : Sp := fun vs H Q _ => ∃ (x y : V) (n : Nat), vs = [x, y] ∧ n < D ∧ IsV n H x y ∧ ∀ H', Same H H' → Q (.bl true) H'
theorem ok_law_is (T : Txt mg) (D : Nat) (c_law_is : Cl P w K mg base "_law_is" D ["_law_told", "_law_due"] (sp_law_is D)) (F : Fun K "_law_is" "_law_is" s_law_is f fd) : FnOk P w K mg base CX0 (D + 1) f fd ["_law_told", "_law_due"] (sp_law_is (D + 1)) := by
  have nd := sc_law_is.nd
  refine F.ok sc_law_is (fun vs H Q Ex h => ?_) (fun cdv A outer s H vs Q Ex hr h => ?_)
  · obtain ⟨_, _, _, rfl, _⟩ := h
    rfl
  · obtain ⟨x, y, n, rfl, hD, hi, q⟩ := h
    have hu64 := hu64_of hr
    refine ⟨_, pss_cons (ps_if (pt_val (pe_callB call_isiT (by rfl) T.isinstance (by decide +kernel) (pa_cons (pv 1) (pa_cons (pe_tup (pa_cons (pe_ty (Ty := "tuple") T.tuple (by decide +kernel)) (pa_cons (pe_ty (Ty := "list") T.list (by decide +kernel)) pa_nil))) pa_nil)))) (pss_cons (ps_if (PW.pt (pw_or (pt_cmpR op_ne (pe_callB call_isi (by rfl) T.isinstance (by decide +kernel) (pa_cons (pv 0) (pa_cons (pe_ty (Ty := "tuple") T.tuple (by decide +kernel)) pa_nil))) (pe_callB call_isi (by rfl) T.isinstance (by decide +kernel) (pa_cons (pv 1) (pa_cons (pe_ty (Ty := "tuple") T.tuple (by decide +kernel)) pa_nil))) (nomark _)) (pw_or1 (pt_cmpR op_ne (pe_callB call_isi (by rfl) T.isinstance (by decide +kernel) (pa_cons (pv 0) (pa_cons (pe_ty (Ty := "list") T.list (by decide +kernel)) pa_nil))) (pe_callB call_isi (by rfl) T.isinstance (by decide +kernel) (pa_cons (pv 1) (pa_cons (pe_ty (Ty := "list") T.list (by decide +kernel)) pa_nil))) (nomark _))))) (pss_one (ps_ret pe_bl)) pss_nil)
      (pss_one (ps_ret (pe_and (pe_cmpR op_eq (pe_callB call_len_seq (by rfl) T.len (by decide +kernel) (pa_cons (pv 0) pa_nil)) (pe_callB call_len_seq (by rfl) T.len (by decide +kernel) (pa_cons (pv 1) pa_nil)) (nomark _)) (pe_one (pe_callB (cr_all rfl) (by rfl) T.all (by decide +kernel) (pa_cons (pe_lc (own := [("_law_k", 2)]) (g := gName 2) rfl nd (pi_range1 rfl T.range (pa_cons (pe_callB call_len_seq (by rfl) T.len (by decide +kernel) (pa_cons (pv 1) pa_nil)) pa_nil)) (blkOk_by (own := [("_law_k", 2)]) (N := Nlaw_is) (sc := defScope s_law_is) (by decide +kernel)) (fun _ _ _ _ _ => (pg_name (i := 2) nd rfl (Or.inl rfl))) (fun _ _ _ _ _ => pts_nil) (fun _ _ _ _ _ => (pe_cl c_law_is hr (by omega) (pa_cons (pe_ix (r := fun x y H Q => rIxL K x y H Q ∨ rIxT K x y H Q) (ix_list.or ix_tup) (pv 0) (pv 2) (fun _ _ => rfl)) (pa_cons (pe_ix (r := fun x y H Q => rIxL K x y H Q ∨ rIxT K x y H Q) (ix_list.or ix_tup) (pv 1) (pv 2) (fun _ _ => rfl)) pa_nil))))) pa_nil))))))) pss_nil)
    (pss_cons (ps_if (pt_val (pe_callB call_isi (by rfl) T.isinstance (by decide +kernel) (pa_cons (pv 1) (pa_cons (pe_ty (Ty := "dict") T.dict (by decide +kernel)) pa_nil)))) pss_never pss_nil)
    (pss_one (ps_ret (pe_and (pe_cmpR op_eq (pe_callB call_isi (by rfl) T.isinstance (by decide +kernel) (pa_cons (pv 0) (pa_cons (pe_ty (Ty := "bool") T.bool (by decide +kernel)) pa_nil))) (pe_callB call_isi (by rfl) T.isinstance (by decide +kernel) (pa_cons (pv 1) (pa_cons (pe_ty (Ty := "bool") T.bool (by decide +kernel)) pa_nil))) (nomark _)) (pe_one (pe_cmpR (op_eqD hu64) (pv 0) (pv 1) (nomark _))))))), ?_⟩
    refine ⟨_, rfl, (by show 2 ≤ sizeLine; decide), fun tp ntp => ?_⟩
    generalize eH1 : upd H tp (.tup [V.ty "tuple", V.ty "list"]) = H1
    obtain ⟨s1, e1, f1⟩ := new_f ntp eH1
    have hcls : Paired ClsV [V.ty "tuple", V.ty "list"] [Value.type "tuple", Value.type "list"] := .cons (.ty _) (.cons (.ty _) .nil)
    have hc : (x = y ∧ FlV x) ∨ ∃ m a b xs ys, n = m + 1 ∧ x = .ref a ∧ y = .ref b ∧ ((H a = some (.tup xs) ∧ H b = some (.tup ys)) ∨ (H a = some (.lst xs) ∧ H b = some (.lst ys))) ∧ xs.length ≤ 60 ∧ Paired (IsV m H) xs ys := by
      cases n with
      | zero => exact .inl hi
      | succ m => exact hi.imp id fun ⟨a, b, xs, ys, r⟩ => ⟨m, a, b, xs, ys, rfl, r⟩
    rcases hc with ⟨rfl, hf⟩ | ⟨m, a, b, xs, ys, rfl, rfl, rfl, hab, h60, hpd⟩
    · obtain ⟨t, d, hty, k1, k2, k3, hdp, hsh, heq⟩ := hf.ty (K := K) (H := H1)
      refine ⟨x, tp, _, _, _, false, rfl, e1, hcls, hty, k1, false, rfl, iteF ?_⟩
      refine ⟨_, rfl, _, _, _, _, false, rfl, .ty _, hty, k2, false, rfl, iteF ?_⟩
      refine ⟨_, rfl, _, _, _, _, false, rfl, .ty _, hty, k3, _, rfl, _, _, _, _, false, rfl, .ty _, hty, k3, rfl, ?_⟩
      refine ⟨true, rfl, iteT ?_⟩
      refine ⟨_, rfl, _, rfl, d, d, hdp, hdp, hsh, hsh, ?_⟩
      rw [heq]
      exact q H1 s1
    · have hlen : xs.length = ys.length := Paired.length hpd
      have hseq : seqO H a xs ∧ seqO H b ys := by
        rcases hab with ⟨p, r⟩ | ⟨p, r⟩
        · exact ⟨.inr p, .inr r⟩
        · exact ⟨.inl p, .inl r⟩
      have hx1 : SqL K H1 a xs ∨ SqT K H1 a xs := (hseq.1.mono s1).imp SqL.h SqT.h
      have hy1 : SqL K H1 b ys ∨ SqT K H1 b ys := (hseq.2.mono s1).imp SqL.h SqT.h
      have hty : ∃ (t : String) (bt bl : Bool), TyX K H1 (.ref a) (.type t) ∧ TyX K H1 (.ref b) (.type t) ∧ PySem.W.kitAny K (.type t) [.type "tuple", .type "list"] = some true ∧ PySem.W.kitOne K (.type t) (.type "tuple") = some bt ∧ PySem.W.kitOne K (.type t) (.type "list") = some bl := by
        rcases hab with ⟨p, r⟩ | ⟨p, r⟩
        · exact ⟨"tuple", true, false, .base (.tup (s1 _ _ p)), .base (.tup (s1 _ _ r)), isi_any (t := "tuple") (a := "tuple") (b := "list") (r1 := true) (r2 := false) (kit_ty (by decide +kernel)) (kit_ty (by decide +kernel)), kit_ty (by decide +kernel), kit_ty (by decide +kernel)⟩
        · exact ⟨"list", false, true, .base (.lst (s1 _ _ p)), .base (.lst (s1 _ _ r)), isi_any (t := "list") (a := "tuple") (b := "list") (r1 := false) (r2 := true) (kit_ty (by decide +kernel)) (kit_ty (by decide +kernel)), kit_ty (by decide +kernel), kit_ty (by decide +kernel)⟩
      obtain ⟨t, bt, bl, hta, htb, kA, kT, kL⟩ := hty
      refine ⟨_, tp, _, _, _, true, rfl, e1, hcls, htb, kA, true, rfl, iteT ?_⟩
      refine ⟨_, rfl, _, _, _, _, bt, rfl, .ty _, hta, kT, _, rfl, _, _, _, _, bt, rfl, .ty _, htb, kT, rfl, false, by simp, iteF ?_⟩
      refine ⟨_, rfl, _, _, _, _, bl, rfl, .ty _, hta, kL, _, rfl, _, _, _, _, bl, rfl, .ty _, htb, kL, rfl, false, by simp, iteF ?_⟩
      refine ⟨_, rfl, a, xs, rfl, hx1, _, rfl, b, ys, rfl, hy1, rfl, true, eT (by rw [hlen]), iteT ?_⟩
      refine ⟨_, rfl, b, ys, rfl, hy1, _, rfl, by omega, by omega, fun D1 nD => ?_⟩
      rw [show ((ys.length : Nat) : Int).toNat = ys.length by omega]
      refine lc_range (lo := 0) (n := ys.length) (fun i H' => Same H1 H' ∧ H' D1 = some (.lst ((List.replicate i true).map V.bl))) ⟨same_new _ nD, upd_same⟩ ?_ ?_
      · rintro j H2 hj ⟨s2, eD⟩
        have e0 : (0 : Int) + (j : Int) = (j : Int) := by omega
        rw [e0]
        have ex : xs[j]? = some xs[j] := List.getElem?_eq_getElem (by omega)
        generalize xs[j] = x1 at ex
        obtain ⟨y1, ey, hxy⟩ := pd_at_left hpd ex
        have s02 := s1.trans s2
        refine ⟨rfl, _, rfl, _, rfl, seqO.ix (hseq.1.mono s02) (by rw [Int.toNat_natCast]; exact ex) (by omega) ?_⟩
        refine ⟨_, rfl, _, rfl, seqO.ix (hseq.2.mono s02) (by rw [Int.toNat_natCast]; exact ey) (by omega) ?_⟩
        refine ⟨x1, y1, m, rfl, by omega, hxy.mono s02, fun H3 s3 => ?_⟩
        refine ⟨_, s3 _ _ eD, by rw [List.length_map, List.length_replicate]; exact lt60 (by omega), (s2.trans s3).mut nD (fun b hb => upd_ne hb), ?_⟩
        rw [rep_snoc, upd_same]
      · rintro H2 ⟨s2, eD⟩
        refine ⟨D1, _, rfl, SqL.h eD, ?_⟩
        rw [rep_all']
        exact q H2 (s1.trans s2)
end
end K8
namespace K8
open PySem PySem.Spec PyProof.Rows L2
theorem pd_take {α β : Type} {R : α → β → Prop} : ∀ {xs : List α} {ys : List β} (k : Nat), Paired R xs ys → Paired R (xs.take k) (ys.take k)
  | _, _, 0, _ => by rw [List.take_zero, List.take_zero]; exact .nil
  | _, _, k + 1, .nil => by rw [List.take_nil, List.take_nil]; exact .nil
  | _, _, k + 1, .cons r t => by rw [List.take_succ_cons, List.take_succ_cons]; exact .cons r (pd_take k t)
theorem pd_drop {α β : Type} {R : α → β → Prop} : ∀ {xs : List α} {ys : List β} (k : Nat), Paired R xs ys → Paired R (xs.drop k) (ys.drop k)
  | _, _, 0, h => by rw [List.drop_zero, List.drop_zero]; exact h
  | _, _, k + 1, .nil => by rw [List.drop_nil, List.drop_nil]; exact .nil
  | _, _, k + 1, .cons r t => by rw [List.drop_succ_cons, List.drop_succ_cons]; exact pd_drop k t
theorem KdV.isV {H : Hp} : ∀ {k : Kd} {n : Nat} {x y : V}, KdV H x k → KdV H y k → k.depth ≤ n → IsV n H x y
  | .leaf i, n, x, y, h1, h2, _ => by
    rw [h1.1, h2.1]
    exact IsV.flat (.inr (.inl ⟨i, rfl⟩)) n
  | .pair a b, 0, x, y, h1, h2, hd => by
    simp only [Kd.depth] at hd
    omega
  | .pair a b, n + 1, x, y, h1, h2, hd => by
    obtain ⟨p, x1, x2, rfl, ep, ha, hb⟩ := h1
    obtain ⟨q, y1, y2, rfl, eq, ha2, hb2⟩ := h2
    simp only [Kd.depth] at hd
    exact .inr ⟨p, q, _, _, rfl, rfl, .inl ⟨ep, eq⟩, by show 2 ≤ 60; omega, .cons (KdV.isV ha ha2 (by omega)) (.cons (KdV.isV hb hb2 (by omega)) .nil)⟩
theorem OkV.isV {H : Hp} {o : Option Kd} {n : Nat} {x y : V} (h1 : OkV H x o) (h2 : OkV H y o) (hd : ∀ k, o = some k → k.depth ≤ n) : IsV n H x y := by
  cases o with
  | none =>
    rw [show x = .non from h1, show y = .non from h2]
    exact IsV.flat (.inl rfl) n
  | some k => exact KdV.isV h1 h2 (hd k rfl)
theorem FltV.isV {H : Hp} {o : Option (Flt Str)} {n : Nat} {x y : V} (h1 : FltV H x o) (h2 : FltV H y o) (hs : ∀ s k, o = some (.handed s k) → PyData.strOk s = true) : IsV (n + 1) H x y := by
  have fi : ∀ k : Nat, IsV n H (natV k) (natV k) := fun k => IsV.flat (.inr (.inl ⟨_, rfl⟩)) n
  have fs : ∀ s : Str, PyData.strOk s = true → IsV n H (.str s) (.str s) := fun s h => IsV.flat (.inr (.inr ⟨s, rfl, h⟩)) n
  cases o with
  | none =>
    rw [show x = .non from h1, show y = .non from h2]
    exact IsV.flat (.inl rfl) _
  | some fl =>
    cases fl with
    | opn p =>
      obtain ⟨a, rfl, ea⟩ := h1
      obtain ⟨b, rfl, eb⟩ := h2
      exact .inr ⟨a, b, _, _, rfl, rfl, .inl ⟨ea, eb⟩, by show 2 ≤ 60; omega, .cons (fs _ (by decide +kernel)) (.cons (fi p) .nil)⟩
    | knd p =>
      obtain ⟨a, rfl, ea⟩ := h1
      obtain ⟨b, rfl, eb⟩ := h2
      exact .inr ⟨a, b, _, _, rfl, rfl, .inl ⟨ea, eb⟩, by show 2 ≤ 60; omega, .cons (fs _ (by decide +kernel)) (.cons (fi p) .nil)⟩
    | handed s k =>
      obtain ⟨a, rfl, ea⟩ := h1
      obtain ⟨b, rfl, eb⟩ := h2
      exact .inr ⟨a, b, _, _, rfl, rfl, .inl ⟨ea, eb⟩, by show 3 ≤ 60; omega, .cons (fs _ (by decide +kernel)) (.cons (fs s (hs s k rfl)) (.cons (fi k) .nil))⟩
    | cnt p k =>
      obtain ⟨a, rfl, ea⟩ := h1
      obtain ⟨b, rfl, eb⟩ := h2
      exact .inr ⟨a, b, _, _, rfl, rfl, .inl ⟨ea, eb⟩, by show 3 ≤ 60; omega, .cons (fs _ (by decide +kernel)) (.cons (fi p) (.cons (fi k) .nil))⟩
theorem lst_isV {H : Hp} {n : Nat} {a b : Addr} {x y : V} (ea : H a = some (.lst [x])) (eb : H b = some (.lst [y])) (h : IsV n H x y) : IsV (n + 1) H (.ref a) (.ref b) :=
  .inr ⟨a, b, _, _, rfl, rfl, .inr ⟨ea, eb⟩, by show 1 ≤ 60; omega, .cons h .nil⟩
theorem tup_isV {H : Hp} {n : Nat} {a b : Addr} {s : Str} {x y : V} (hs : PyData.strOk s = true) (ea : H a = some (.tup [.str s, x])) (eb : H b = some (.tup [.str s, y])) (h : IsV n H x y) : IsV (n + 1) H (.ref a) (.ref b) :=
  .inr ⟨a, b, _, _, rfl, rfl, .inl ⟨ea, eb⟩, by show 2 ≤ 60; omega, .cons (IsV.flat (.inr (.inr ⟨s, rfl, hs⟩)) n) (.cons h .nil)⟩
theorem judged_handed {l : Lt} {tl hl : List (Str × Kd)} {ws : List W} {s : Str} {k : Nat} (h : judged l tl hl ws = some (.handed s k)) : s ∈ hl.map (·.1) := by
  unfold judged judge at h
  split at h
  · cases h
  · split at h
    · cases h
    · unfold countFault at h
      split at h
      · rename_i z e
        have := Option.some.inj h
        cases this
        unfold wrongHanded at e
        exact List.mem_of_find?_eq_some e
      · split at h <;> cases h
theorem kinds_depth {H : Hp} {us : List V} {ws : List W} (hw : WsV H us ws) (h60 : ws.length ≤ 60) {kn : Str → Option Kd} (hk : ∀ s k, kn s = some k → k.depth ≤ 3) {k : Kd} (h : ((kinds ws kn)[0]?).getD none = some k) : k.depth ≤ 62 := by
  cases e : (kinds ws kn)[0]? with
  | none => rw [e] at h; cases h
  | some o =>
    rw [e] at h
    have h' : o = some k := h
    subst h'
    exact depth_ok (p := 0) hk (fun s k hm => hw.takes hm) h60 (q := 0) (by rw [List.drop_zero]; exact e)
theorem knOf_depth : ∀ {kl : List (Str × Kd)}, (∀ sk ∈ kl, sk.2.depth ≤ 2) → ∀ s k, knOf kl s = some k → k.depth ≤ 3 := by
  have go : ∀ (kl : List (Str × Kd)) (kn : Str → Option Kd), (∀ sk ∈ kl, sk.2.depth ≤ 2) → (∀ s k, kn s = some k → k.depth ≤ 3) → ∀ s k, kl.foldl (fun kn sk s => if s = sk.1 then some sk.2 else kn s) kn s = some k → k.depth ≤ 3 := by
    intro kl
    induction kl with
    | nil => intro kn _ h s k e; exact h s k e
    | cons sk r ih =>
      intro kn hall h s k e
      refine ih _ (fun x hx => hall x (List.mem_cons_of_mem _ hx)) (fun t j ej => ?_) s k e
      have ej : (if t = sk.1 then some sk.2 else kn t) = some j := ej
      by_cases c : t = sk.1
      · rw [if_pos c] at ej
        have h1 := hall sk (List.mem_cons_self ..)
        rw [Option.some.inj ej] at h1
        omega
      · rw [if_neg c] at ej
        exact h t j ej
  intro kl hall
  exact go kl _ hall (fun s k e => by cases e)
/-! ### a slice of the known -/
def rSlP (K : PySem.W.Frag) : V → Option Int → Option Int → Hp → VK → Prop := fun x lo hi H Q => ∃ a xs, x = .ref a ∧ SqT K H a xs ∧
    (HT.sIx xs.length 0 lo = 0 ∧ HT.sIx xs.length xs.length hi = xs.length → Q (.ref a) H) ∧ (¬ (HT.sIx xs.length 0 lo = 0 ∧ HT.sIx xs.length xs.length hi = xs.length) → newP (cutV xs lo hi) H Q)
theorem sl_tupQ {X : Cx} : SlR X (rSlP X.K) := sl_tupP
theorem KnT.take {H : Hp} {a : Addr} {kl : List (Str × Kd)} {K : PySem.W.Frag} {Q : VK} {k : Nat} (h : KnT H a kl) (hk : k ≤ kl.length) (q : ∀ H' p, Same H H' → KnT H' p (kl.take k) → Q (.ref p) H') :
    rSlP K (.ref a) none (some (k : Int)) H Q := by
  obtain ⟨ps, hpl, hpd⟩ := h
  have hlen : ps.length = kl.length := Paired.length hpd
  refine ⟨a, _, rfl, hpl.sq, fun e => ?_, fun _ p o np hod => ?_⟩
  · rw [HT.sIx_nat, List.length_map] at e
    have : kl.take k = kl := List.take_of_length_le (by omega)
    refine q H a (Same.refl _) ?_
    rw [this]
    exact ⟨ps, hpl, hpd⟩
  · rw [cut_to, ← List.map_take]
    have s := same_new (HO.frz o (.tup ((ps.take k).map V.ref))) np
    refine q _ p s ⟨ps.take k, plt_new hod, ?_⟩
    exact pd_imp (fun _ _ r => r.mono s.tups) (pd_take k hpd)
theorem KnT.drop {H : Hp} {a : Addr} {kl : List (Str × Kd)} {K : PySem.W.Frag} {Q : VK} {k : Nat} (h : KnT H a kl) (hk : k ≤ kl.length) (q : ∀ H' p, Same H H' → KnT H' p (kl.drop k) → Q (.ref p) H') :
    rSlP K (.ref a) (some (k : Int)) none H Q := by
  obtain ⟨ps, hpl, hpd⟩ := h
  have hlen : ps.length = kl.length := Paired.length hpd
  refine ⟨a, _, rfl, hpl.sq, fun e => ?_, fun _ p o np hod => ?_⟩
  · rw [HT.sIx_nat, List.length_map] at e
    have h0 : k = 0 ∨ kl.length = 0 := by omega
    have : kl.drop k = kl := by
      rcases h0 with h0 | h0
      · rw [h0, List.drop_zero]
      · rw [List.eq_nil_of_length_eq_zero h0, List.drop_nil]
    refine q H a (Same.refl _) ?_
    rw [this]
    exact ⟨ps, hpl, hpd⟩
  · have ec : cutV (ps.map V.ref) (some (k : Int)) none = (ps.drop k).map V.ref := by
      unfold cutV
      rw [HT.sIx_none, HT.sIx_nat, List.length_map, Nat.min_eq_left (by omega), List.take_of_length_le (by rw [List.length_drop, List.length_map]; exact Nat.le_refl _), List.map_drop]
    rw [ec]
    have s := same_new (HO.frz o (.tup ((ps.drop k).map V.ref))) np
    refine q _ p s ⟨ps.drop k, plt_new hod, ?_⟩
    exact pd_imp (fun _ _ r => r.mono s.tups) (pd_drop k hpd)
/-! ### a lot and a book over the hand's turn -/
section
variable {H H' : Hp} {h c : Addr} {CL CR CB : Addr}
theorem Hd.ins (a : Hd h c H H') (v : HandV H h c) {p C dx : Addr} {fs : List (Str × V)} (ep : H p = some (.ins C dx fs)) : H' p = some (.ins C dx fs) := by
  obtain ⟨xs, e⟩ := v.ls
  exact a.1 p _ (ne_of ep e (by intro z; cases z)) ep
theorem LotF.hd (a : Hd h c H H') (v : HandV H h c) {wd : Str} {ms : List Nat} {fs : List (Str × V)} (l : LotF H wd ms fs) : LotF H' wd ms fs := by
  refine ⟨l.1, fun e => ?_⟩
  obtain ⟨la, f, h1, h2, h3⟩ := l.2 e
  refine ⟨la, f, h1, a.1 la _ ?_ h2, h3⟩
  obtain ⟨cs, i, b, z, k, eh, _⟩ := v
  rintro rfl
  rw [eh] at h2
  have := HO.lst.inj (Option.some.inj h2)
  cases f with
  | nil => cases this
  | cons o r =>
    have h0 := (List.cons.inj this).1
    cases o <;> cases h0
theorem LtV.hd (a : Hd h c H H') (v : HandV H h c) {p : Addr} : ∀ {l : Lt}, LtV CL CR H p l → LtV CL CR H' p l
  | .once, ⟨dx, fs, e, h⟩ => ⟨dx, fs, a.ins v e, h.hd a v⟩
  | .loan, ⟨dx, fs, e, h⟩ => ⟨dx, fs, a.ins v e, h.hd a v⟩
  | .free, ⟨dx, fs, e, h⟩ => ⟨dx, fs, a.ins v e, h.hd a v⟩
  | .more ms, ⟨dx, fs, e, h⟩ => ⟨dx, fs, a.ins v e, h.hd a v⟩
  | .raw hs rs, ⟨dx, fs, e, h⟩ => ⟨dx, fs, a.ins v e, h.mono (a.tups v)⟩
theorem BkV.hd (a : Hd h c H H') (v : HandV H h c) {p : Addr} {l : Lt} {tl : List (Str × Kd)} (b : BkV CL CR CB H p l tl) : BkV CL CR CB H' p l tl := by
  obtain ⟨dx, fs, lp, ta, e1, e2, e3, e4, e5, e6⟩ := b
  exact ⟨dx, fs, lp, ta, a.ins v e1, e2, e3.hd a v, e4, e5.hd a v, e6⟩
end
end K8
namespace K8
open PySem PySem.Spec PyProof.Rows L2
section
variable {P : Program} {w : World} {K : PySem.W.Frag} {mg : Str → Option Value} {base : Heap} {f : Addr} {fd : FuncData} {CL CR CB CF CE : Addr}
/-! ### law -/
abbrev s_law : Stmt := topS 90
abbrev Nlaw : List Str := ["_law_script", "_law_hand_here", "_law_turn", "_law_spec", "_law_known_here", "_law_at", "_law_book", "_law_words", "_law_tools", "_law_handed", "_law_due", "_law_kind_here"]
theorem sc_law : FnScope Nlaw ["_law_script"] (defScope s_law) := ⟨rfl, rfl, rfl, by decide +kernel, rfl, by decide +kernel, by decide +kernel⟩
def sp_law (K : PySem.W.Frag) : Sp := fun vs H Q _ => ∃ (a : Addr) (ns : List Int), vs = [.ref a] ∧ SqL K H a (ns.map V.int) ∧ ns.length ≤ 1000 ∧ ∀ H', Q (.bl true) H'
theorem ok_law (T : Txt mg) (c_law_hand : Cl P w K mg base "_law_hand" 1 ["_law_script"] (sp_law_hand K)) (c_law_draw : Cl P w K mg base "_law_draw" 1 ["_law_hand_here", "_law_many"] sp_law_draw) (c_law_some : Cl P w K mg base "_law_some" 2 ["_law_hand_here", "_law_things"] sp_law_some)
    (c_law_raw_spec : Cl P w K mg base "_law_raw_spec" 4 ["_law_hand_here"] sp_law_lot_spec) (c_law_lot_spec : Cl P w K mg base "_law_lot_spec" 3 ["_law_hand_here"] sp_law_lot_spec) (c_law_known : Cl P w K mg base "_law_known" 5 ["_law_hand_here", "_law_many"] sp_law_known)
    (c_law_any_lot : Cl P w K mg base "_law_any_lot" 6 ["_law_spec"] (sp_law_any_lot CL CR)) (c_Book : C8.Mak P w K mg base 5 "Book" CB (sp_Book_init CL CR CB) []) (c_law_some_program : Cl P w K mg base "_law_some_program" 9 ["_law_hand_here", "_law_known_here", "_law_deep"] sp_law_some_program)
    (c_law_judged : Cl P w K mg base "_law_judged" 4 ["_law_spec", "_law_tools", "_law_handed", "_law_words"] sp_law_judged) (c_law_is : Cl P w K mg base "_law_is" 70 ["_law_told", "_law_due"] (sp_law_is 70)) (c_fault : Cl P w K mg base "fault" 8 ["book", "handed", "program"] (sp_fault_in CL CR CB))
    (c_law_told_kind : Cl P w K mg base "_law_told_kind" 10 ["_law_book", "_law_handed", "_law_words"] (sp_law_told_kind CL CR CB)) (c_law_standard : Cl P w K mg base "_law_standard" 4 ["_law_words"] sp_law_standard)
    (F : Fun K "law" "law" s_law f fd) : FnOk P w K mg base CX0 71 f fd ["_law_script"] (sp_law K) := by
  have nd := sc_law.nd
  refine F.ok sc_law (fun vs H Q Ex h => ?_) (fun cdv A outer s H vs Q Ex hr h => ?_)
  · obtain ⟨_, _, rfl, _⟩ := h
    rfl
  · obtain ⟨a, ns, rfl, ha, hl, q⟩ := h
    refine ⟨_, pss_cons (ps_set (i := 1) nd rfl (Or.inl rfl) (pe_cl c_law_hand hr (by omega) (pa_cons (pv 0) pa_nil)))
    (pss_cons (ps_for PassesOwn.never rfl (pi_range1 rfl T.range (pa_cons pe_int pa_nil)) (pg_name (i := 2) nd rfl (Or.inl rfl))
      (pss_cons (ps_set (i := 3) nd rfl (Or.inl rfl) (pe_ifExp (pt_cmpR op_eq (pe_cl c_law_draw hr (by omega) (pa_cons (pv 1) (pa_cons pe_int pa_nil))) pe_int (nomark _)) (pe_cl c_law_raw_spec hr (by omega) (pa_cons (pv 1) pa_nil)) (pe_cl c_law_lot_spec hr (by omega) (pa_cons (pv 1) pa_nil))))
      (pss_cons (ps_if (pt_cmpR op_eq (pe_cl c_law_draw hr (by omega) (pa_cons (pv 1) (pa_cons pe_int pa_nil))) pe_int (nomark _)) (pss_one (ps_set (i := 3) nd rfl (Or.inl rfl) (pe_cl c_law_some hr (by omega) (pa_cons (pv 1) (pa_cons (pe_lst (pa_cons (pe_tup (pa_cons pe_str (pa_cons (pe_tup pa_nil) (pa_cons pe_non pa_nil)))) (pa_cons (pe_tup (pa_cons pe_str (pa_cons (pe_tup pa_nil) (pa_cons pe_non pa_nil)))) (pa_cons (pe_tup (pa_cons pe_str (pa_cons (pe_tup (pa_cons pe_int pa_nil)) (pa_cons pe_non pa_nil)))) pa_nil)))) pa_nil))))) pss_nil)
      (pss_cons (ps_set (i := 4) nd rfl (Or.inl rfl) (pe_cl c_law_known hr (by omega) (pa_cons (pv 1) (pa_cons (pe_op op_add pe_int (pe_cl c_law_draw hr (by omega) (pa_cons (pv 1) (pa_cons pe_int pa_nil)))) pa_nil))))
      (pss_cons (ps_set (i := 5) nd rfl (Or.inl rfl) (pe_cl c_law_draw hr (by omega) (pa_cons (pv 1) (pa_cons (pe_callB (call_min2 rfl) (by rfl) T.min (by decide +kernel) (pa_cons pe_int (pa_cons (pe_op op_add (pe_callB call_len_seq (by rfl) T.len (by decide +kernel) (pa_cons (pv 4) pa_nil)) pe_int) pa_nil))) pa_nil))))
      (pss_cons (ps_par (i := 8) (j := 9) (by rfl) nd rfl rfl (by decide) rfl rfl (pa_cons (pe_slice (r := rSlP K) sl_tupQ (pv 4) po_none (po_some (pe_op op_sub (pe_callB call_len_seq (by rfl) T.len (by decide +kernel) (pa_cons (pv 4) pa_nil)) (pv 5)))) (pa_cons (pe_slice (r := rSlP K) sl_tupQ (pv 4) (po_some (pe_op op_sub (pe_callB call_len_seq (by rfl) T.len (by decide +kernel) (pa_cons (pv 4) pa_nil)) (pv 5))) po_none) pa_nil)) (by rfl))
      (pss_cons (ps_set (i := 6) nd rfl (Or.inl rfl) (C8.pe_mk c_Book hr (by omega) (by rfl) (pa_cons (pe_cl c_law_any_lot hr (by omega) (pa_cons (pv 3) pa_nil)) (pa_cons (pv 8) pa_nil))))
      (pss_cons (ps_set (i := 7) nd rfl (Or.inl rfl) (pe_cl c_law_some_program hr (by omega) (pa_cons (pv 1) (pa_cons (pv 4) (pa_cons (pe_op op_add pe_int (pe_cl c_law_draw hr (by omega) (pa_cons (pv 1) (pa_cons pe_int pa_nil)))) pa_nil)))))
      (pss_cons (ps_asg (pe_cl c_law_judged hr (by omega) (pa_cons (pv 3) (pa_cons (pv 8) (pa_cons (pv 9) (pa_cons (pv 7) pa_nil))))) (pg_tup rfl (pgs_cons (pg_name (i := 10) nd rfl (Or.inl rfl)) (pgs_cons (pg_name (i := 11) nd rfl (Or.inl rfl)) pgs_nil))))
      (pss_cons (ps_if (pt_not (pt_val (pe_cl c_law_is hr (by omega) (pa_cons (pe_lst (pa_cons (pe_cl c_fault hr (by omega) (pa_cons (pv 6) (pa_cons (pv 9) (pa_cons (pv 7) pa_nil)))) pa_nil)) (pa_cons (pe_lst (pa_cons (pv 10) pa_nil)) pa_nil))))) (pss_one (ps_ret pe_bl)) pss_nil)
      (pss_cons (ps_if (pt_not (pt_val (pe_cl c_law_is hr (by omega) (pa_cons (pe_cl c_law_told_kind hr (by omega) (pa_cons (pv 6) (pa_cons (pv 9) (pa_cons (pv 7) pa_nil)))) (pa_cons (pe_ifExp (pt_cmpR op_isN (pv 10) pe_non (nomark _)) (pe_tup (pa_cons pe_str (pa_cons (pv 11) pa_nil))) (pe_tup (pa_cons pe_str (pa_cons (pv 10) pa_nil)))) pa_nil))))) (pss_one (ps_ret pe_bl)) pss_nil)
      (pss_one (ps_if (pt_not (pt_val (pe_cl c_law_is hr (by omega) (pa_cons (pe_lst (pa_cons (pe_cl c_fault hr (by omega) (pa_cons (pv 6) (pa_cons (pv 9) (pa_cons (pe_cl c_law_standard hr (by omega) (pa_cons (pv 7) pa_nil)) pa_nil)))) pa_nil)) (pa_cons (pe_lst (pa_cons (pv 10) pa_nil)) pa_nil))))) (pss_one (ps_ret pe_bl)) pss_nil)))))))))))))
    (pss_one (ps_ret pe_bl))), ?_⟩
    refine ⟨_, rfl, a, ns, rfl, ha, hl, fun H1 h c s1 nh hv1 => ?_⟩
    refine ⟨5, rfl, by decide, by decide, ?_⟩
    refine for_range (lo := 0) (n := 5) (fun i σ H' => ∃ (y2 y3 y4 y5 y6 y7 y8 y9 y10 y11 : Option V), σ = [some (.ref a), some (.ref h), y2, y3, y4, y5, y6, y7, y8, y9, y10, y11] ∧ HandV H' h c) ⟨none, none, none, none, none, none, none, none, none, none, rfl, hv1⟩ ?_ ?_
    rotate_left
    · rintro σ H2 ⟨y2, y3, y4, y5, y6, y7, y8, y9, y10, y11, rfl, hv⟩
      exact q H2
    rintro i σ H0 hi ⟨y2, y3, y4, y5, y6, y7, y8, y9, y10, y11, rfl, hv⟩
    -- the spec
    try dsimp only
    refine seq_mid (fun σ' H' => ∃ (v : V) (l : Lt), σ' = [some (.ref a), some (.ref h), some (.int (0 + (i : Int))), some v, y4, y5, y6, y7, y8, y9, y10, y11] ∧ Hd h c H0 H' ∧ SpecV H' v l) ?_ fun R hR => ?_
    rotate_left
    · refine ⟨_, rfl, h, c, 4, rfl, hv, by omega, by omega, fun H2 d2 _ hh2 => ⟨rfl, _, rfl, ?_⟩⟩
      refine ite2 (fun c1 => ?_) (fun c1 => ?_)
      · exact ⟨_, rfl, h, c, rfl, hh2.2, fun H3 v l hh3 hsp _ => hR _ _ ⟨v, l, rfl, hh2.trans hh3, hsp⟩⟩
      · exact ⟨_, rfl, h, c, rfl, hh2.2, fun H3 v l hh3 hsp _ => hR _ _ ⟨v, l, rfl, hh2.trans hh3, hsp⟩⟩
    rintro σ1 H2 ⟨v, l, rfl, hh2, hsp⟩
    try dsimp only
    refine seq_mid (fun σ' H' => ∃ (v : V) (l : Lt), σ' = [some (.ref a), some (.ref h), some (.int (0 + (i : Int))), some v, y4, y5, y6, y7, y8, y9, y10, y11] ∧ Hd h c H0 H' ∧ SpecV H' v l) ?_ fun R hR => ?_
    rotate_left
    · refine ⟨_, rfl, h, c, 3, rfl, hh2.2, by omega, by omega, fun H3 d3 _ hh3 => ⟨rfl, _, rfl, ?_⟩⟩
      have hh03 := hh2.trans hh3
      refine ite2 (fun c1 => ?_) (fun c1 => ?_)
      · refine ⟨_, rfl, Nat.zero_le _, fun t1 n1 => ?_⟩
        generalize eH1 : upd H3 t1 (.tup []) = G1
        obtain ⟨g1, x1, _⟩ := new_f n1 eH1
        refine ⟨(by show 3 ≤ sizeLine; decide), fun t2 n2 => ?_⟩
        generalize eH2 : upd G1 t2 (.tup _) = G2
        obtain ⟨g2, x2, _⟩ := new_f n2 eH2
        refine ⟨Nat.zero_le _, fun t3 n3 => ?_⟩
        generalize eH3 : upd G2 t3 (.tup []) = G3
        obtain ⟨g3, x3, _⟩ := new_f n3 eH3
        refine ⟨(by show 3 ≤ sizeLine; decide), fun t4 n4 => ?_⟩
        generalize eH4 : upd G3 t4 (.tup _) = G4
        obtain ⟨g4, x4, _⟩ := new_f n4 eH4
        refine ⟨(by show 1 ≤ sizeLine; decide), fun t5 n5 => ?_⟩
        generalize eH5 : upd G4 t5 (.tup _) = G5
        obtain ⟨g5, x5, _⟩ := new_f n5 eH5
        refine ⟨(by show 3 ≤ sizeLine; decide), fun t6 n6 => ?_⟩
        generalize eH6 : upd G5 t6 (.tup _) = G6
        obtain ⟨g6, x6, _⟩ := new_f n6 eH6
        refine ⟨(by show 3 ≤ sizeLine; decide), fun t7 n7 => ?_⟩
        generalize eH7 : upd G6 t7 (.lst _) = G7
        obtain ⟨g7, x7, _⟩ := new_f n7 eH7
        have g27 := ((((g3.trans g4).trans g5).trans g6).trans g7)
        have g47 := (g5.trans g6).trans g7
        have hh07 : Hd h c H0 G7 := hh03.new ((g1.trans g2).trans g27)
        refine ⟨h, c, t7, _, rfl, hh07.2, x7, (hh03.new ((((g1.trans g2).trans g3).trans g4).trans (g5.trans g6))).2.nh n7, (by show 0 < 3; decide), (by show 3 ≤ 1000; decide), fun H4 x hx hh4 => ?_⟩
        have t74 := hh4.tups hh07.2
        have go : ∃ l, SpecV H4 x l := by
          simp only [List.mem_cons, List.not_mem_nil, or_false] at hx
          rcases hx with rfl | rfl | rfl
          · exact ⟨.free, t2, t1, .non, rfl, t74 _ _ (g27 _ _ x2), rfl, t74 _ _ (g27 _ _ (g2 _ _ x1))⟩
          · exact ⟨.loan, t4, t3, .non, rfl, t74 _ _ (g47 _ _ x4), rfl, t74 _ _ (g47 _ _ (g4 _ _ x3))⟩
          · exact ⟨.more [1], t6, t5, .non, rfl, t74 _ _ (g7 _ _ x6), rfl, t74 _ _ (g7 _ _ (g6 _ _ x5)), by simp, fun m hm => by rw [List.mem_singleton.mp hm]; omega, by show 1 ≤ 4; omega⟩
        obtain ⟨l2, hs2⟩ := go
        exact hR _ _ ⟨x, l2, rfl, hh07.trans hh4, hs2⟩
      · exact hR _ _ ⟨v, l, rfl, hh03, hsp.mono (hh3.tups hh2.2)⟩
    clear hsp hh2 v l
    rintro σ2 H3 ⟨v, l, rfl, hh3, hsp⟩
    clear H2
    -- the known
    refine ⟨_, rfl, _, rfl, h, c, 5, rfl, hh3.2, by omega, by omega, fun H4 d4 hd4 hh4 => ?_⟩
    have hh04 := hh3.trans hh4
    refine ⟨_, _, rfl, rfl, h, c, d4 + 1, ?_, hh04.2, by omega, fun H5 ka kl hh5 hkn hkl hknd hkok => ?_⟩
    · show [V.ref h, V.int (1 + (d4 : Int))] = [V.ref h, V.int ((d4 + 1 : Nat) : Int)]
      rw [show (1 + (d4 : Int)) = ((d4 + 1 : Nat) : Int) by omega]
    have hh05 := hh04.trans hh5
    have hsp5 := hsp.mono ((hh4.trans hh5).tups hh3.2)
    obtain ⟨ps, hpl, hpd⟩ := id hkn
    have hpn : ps.length = kl.length := Paired.length hpd
    have hpn2 : (ps.map V.ref).length = d4 + 1 := by rw [List.length_map]; omega
    -- where it is cut
    refine ⟨_, rfl, _, rfl, ka, _, rfl, .inr hpl.sq, _, _, rfl, rfl, _, _, rfl, ?_⟩
    rw [hpn2]
    obtain ⟨mm, hmm, hm1, hm2⟩ : ∃ mm : Nat, (if (((d4 + 1 : Nat) : Int) + 1) < 4 then (((d4 + 1 : Nat) : Int) + 1) else 4) = ((mm : Nat) : Int) ∧ 0 < mm ∧ mm ≤ d4 + 2 ∧ mm ≤ 4 := by
      split
      · exact ⟨d4 + 2, by omega, by omega, by omega, by omega⟩
      · exact ⟨4, rfl, by omega, by omega, by omega⟩
    refine ⟨h, c, mm, ?_, hh05.2, hm1, by omega, fun H6 d6 hd6 hh6 => ?_⟩
    · exact congrArg (fun z => [V.ref h, V.int z]) hmm
    have hh06 := hh05.trans hh6
    have hkn6 := hkn.hd hh6 hh05.2
    have hpl6 := hpl.hd hh6 hh05.2
    have hsp6 := hsp5.mono (hh6.tups hh05.2)
    obtain ⟨kk, hkk, hkk2⟩ : ∃ kk : Nat, ((d4 + 1 : Nat) : Int) - (d6 : Int) = ((kk : Nat) : Int) ∧ kk ≤ kl.length := ⟨d4 + 1 - d6, by omega, by omega⟩
    -- the two parts
    refine ⟨_, rfl, _, rfl, ka, _, rfl, .inr hpl6.sq, _, rfl, _, _, rfl, rfl, _, rfl, ?_⟩
    rw [hpn2, hkk]
    refine KnT.take (K := K) hkn6 hkk2 fun H7 ta s7 hkt => ?_
    have hpl7 := hpl6.mono s7
    have hkn7 := hkn6.mono s7
    refine ⟨_, rfl, _, rfl, ka, _, rfl, .inr hpl7.sq, _, rfl, _, _, rfl, rfl, _, rfl, ?_⟩
    rw [hpn2, hkk]
    dsimp only [tNoPart]
    refine KnT.drop (K := K) hkn7 hkk2 fun H8 hda s8 hkd => ?_
    have hkt8 := hkt.mono s8
    have hkn8 := hkn7.mono s8
    have s68 := s7.trans s8
    have hh08 := hh06.new s68
    have hsp8 := hsp6.mono s68.tups
    refine ⟨_, _, rfl, ?_⟩
    -- the book
    have hsplit : kl.take kk ++ kl.drop kk = kl := List.take_append_drop kk kl
    have htl : (kl.take kk).length ≤ 8 := by rw [List.length_take]; omega
    have hhl : (kl.drop kk).length ≤ 6 := by rw [List.length_drop]; omega
    have htnd : ((kl.take kk).map (·.1)).Nodup := by rw [List.map_take]; exact hknd.sublist (List.take_sublist _ _)
    have hhok : ∀ sk ∈ kl.drop kk, nameOk sk.1 = true := fun sk hs => (hkok sk (List.mem_of_mem_drop hs)).1
    have hnd2 : ((kl.take kk ++ kl.drop kk).map (·.1)).Nodup := by rw [hsplit]; exact hknd
    have hdep : ∀ s k, knOf (kl.take kk ++ kl.drop kk) s = some k → k.depth ≤ 3 := by
      rw [hsplit]
      exact knOf_depth fun sk hs => (hkok sk hs).2
    refine ⟨_, rfl, v, l, rfl, hsp8, fun H9 lp s9 hlt => ?_⟩
    refine ⟨_, rfl, fun bk dx nbk ndx hbd => ?_⟩
    have hkt9 := hkt8.mono s9
    have sbk : Same H9 (upd (upd H9 dx (.own bk)) bk (.ins CB dx [])) := fun b o e => by
      rw [upd_ne (ne_of_none e nbk), upd_ne (ne_of_none e ndx)]
      exact e
    refine ⟨bk, dx, lp, ta, l, kl.take kk, rfl, upd_same, hlt.mono sbk, hkt9.mono sbk, htl, htnd, fun H10 fs sb10 eb10 el1 el2 => ⟨rfl, ?_⟩⟩
    have s910 : Same H9 H10 := made_same nbk ndx sb10
    have s810 := s9.trans s910
    have hbk : BkV CL CR CB H10 bk l (kl.take kk) := ⟨dx, fs, lp, ta, eb10, el1, hlt.mono s910, el2, hkt9.mono s910, htl⟩
    have hh010 := hh08.new s810
    have hkn10 := hkn8.mono s810
    -- the words
    refine ⟨_, rfl, _, rfl, _, rfl, h, c, 3, rfl, hh010.2, by omega, by omega, fun H11 d11 hd11 hh11 => ?_⟩
    have hh011 := hh010.trans hh11
    refine ⟨_, _, rfl, rfl, h, c, ka, kl, d11 + 1, ?_, hh011.2, hkn10.hd hh11 hh010.2, by omega, hkok, by omega, fun H12 wa ws hh12 hpg => ?_⟩
    · show [V.ref h, V.ref ka, V.int (1 + (d11 : Int))] = [V.ref h, V.ref ka, V.int ((d11 + 1 : Nat) : Int)]
      rw [show (1 + (d11 : Int)) = ((d11 + 1 : Nat) : Int) by omega]
    have hh1012 := hh11.trans hh12
    have hv12 := hh12.2
    have hbk12 := hbk.hd hh1012 hh010.2
    have hkt12 := (hkt8.mono s810).hd hh1012 hh010.2
    have hkd12 := (hkd.mono s810).hd hh1012 hh010.2
    have hsp12 := (hsp8.mono s810.tups).mono (hh1012.tups hh010.2)
    obtain ⟨us, eus, hus⟩ := hpg.at_
    -- what is due
    refine ⟨_, rfl, _, rfl, _, rfl, _, rfl, v, ta, hda, wa, l, kl.take kk, kl.drop kk, ws, rfl, hsp12, hkt12, hkd12, by omega, by omega, hpg, fun H13 tt x y s13 ett hx hy0 hy1 => ?_⟩
    refine ⟨tt, _, rfl, SqT.h ett, rfl, _, _, rfl, _, _, rfl, rfl, ?_⟩
    have hbhw : ∀ {H' : Hp}, Same H12 H' → BhW CL CR CB H' [.ref bk, .ref hda, .ref wa] l (kl.take kk) (kl.drop kk) ws := fun {H'} s => ⟨bk, hda, wa, rfl, hbk12.mono s, hkd12.mono s, hhl, hnd2, hpg.mono s.tups⟩
    have hstr : ∀ s k, judged l (kl.take kk) (kl.drop kk) ws = some (.handed s k) → PyData.strOk s = true := fun s k e => by
      obtain ⟨sk, hsk, rfl⟩ := List.mem_map.mp (judged_handed e)
      exact nameOk_strOk (hhok sk hsk)
    -- first
    try dsimp only
    refine seq_mid (fun σ' H' => σ' = [some (.ref a), some (.ref h), some (.int (0 + (i : Int))), some v, some (.ref ka), some (natV d6), some (.ref bk), some (.ref wa), some (.ref ta), some (.ref hda), some x, some y] ∧ Same H13 H') ?_ fun R hR => ?_
    rotate_left
    · refine ⟨_, rfl, _, rfl, _, rfl, l, kl.take kk, kl.drop kk, ws, hbhw s13, fun H14 v14 s14 hf14 => ?_⟩
      refine ⟨(by show 1 ≤ sizeLine; decide), fun p15 np15 => ?_⟩
      generalize eH15 : upd H14 p15 (.lst [v14]) = H15
      obtain ⟨s15, e15, _⟩ := new_f np15 eH15
      refine ⟨_, rfl, (by show 1 ≤ sizeLine; decide), fun p16 np16 => ?_⟩
      generalize eH16 : upd H15 p16 (.lst [x]) = H16
      obtain ⟨s16, e16, _⟩ := new_f np16 eH16
      have s1416 := s15.trans s16
      have s1316 := s14.trans s1416
      refine ⟨_, _, 2, rfl, by omega, lst_isV (s16 _ _ e15) e16 (FltV.isV (n := 0) (hf14.mono s1416.tups) (hx.mono s1316.tups) hstr), fun H17 s17 => ⟨true, rfl, iteF ?_⟩⟩
      exact hR _ _ ⟨rfl, s1316.trans s17⟩
    rintro σ17 H17 ⟨rfl, s1317⟩
    have s1217 := s13.trans s1317
    have hx17 := hx.mono s1317.tups
    -- second
    try dsimp only
    refine seq_mid (fun σ' H' => σ' = [some (.ref a), some (.ref h), some (.int (0 + (i : Int))), some v, some (.ref ka), some (natV d6), some (.ref bk), some (.ref wa), some (.ref ta), some (.ref hda), some x, some y] ∧ Same H12 H' ∧ FltV H' x (judged l (kl.take kk) (kl.drop kk) ws)) ?_ fun R hR => ?_
    rotate_left
    · refine ⟨_, rfl, _, rfl, _, rfl, l, kl.take kk, kl.drop kk, ws, hbhw s1217, fun H18 t18 x18 y18 s18 e18 h180 h181 => ?_⟩
      have s1218 := s1217.trans s18
      have s1318 := s1317.trans s18
      have hx18 := hx.mono s1318.tups
      have hxJ := hx.mono s1318.tups
      cases ej : judged l (kl.take kk) (kl.drop kk) ws with
      | none =>
        obtain ⟨rfl, hk18⟩ := h180 ej
        have ex : x = .non := by rw [ej] at hx; exact hx
        have hy18 := (hy0 ej).mono s1318.tups
        refine ⟨_, rfl, rfl, true, by rw [ex]; rfl, iteT ?_⟩
        refine ⟨_, rfl, (by show 2 ≤ sizeLine; decide), fun p19 np19 => ?_⟩
        generalize eH19 : upd H18 p19 (.tup _) = H19
        obtain ⟨s19, e19, _⟩ := new_f np19 eH19
        refine ⟨_, _, 63, rfl, by omega, tup_isV (by decide +kernel) (s19 _ _ e18) e19 (OkV.isV (n := 62) (hk18.mono s19.tups) (hy18.mono s19.tups) fun k e => kinds_depth hus hpg.len hdep e), fun H20 s20 => ⟨true, rfl, iteF ?_⟩⟩
        exact hR _ _ ⟨rfl, (s1218.trans s19).trans s20, hxJ.mono (s19.trans s20).tups⟩
      | some flt =>
        obtain ⟨rfl, hf18⟩ := h181 flt ej
        have hne : x ≠ .non := by
          rw [ej] at hx
          cases flt with
          | opn p => obtain ⟨t, e, _⟩ := hx; rw [e]; intro z; cases z
          | knd p => obtain ⟨t, e, _⟩ := hx; rw [e]; intro z; cases z
          | handed s n => obtain ⟨t, e, _⟩ := hx; rw [e]; intro z; cases z
          | cnt p n => obtain ⟨t, e, _⟩ := hx; rw [e]; intro z; cases z
        rw [ej] at hx18 hstr
        refine ⟨_, rfl, rfl, false, eF hne, iteF ?_⟩
        refine ⟨_, rfl, (by show 2 ≤ sizeLine; decide), fun p19 np19 => ?_⟩
        generalize eH19 : upd H18 p19 (.tup _) = H19
        obtain ⟨s19, e19, _⟩ := new_f np19 eH19
        refine ⟨_, _, 2, rfl, by omega, tup_isV (by decide +kernel) (s19 _ _ e18) e19 (FltV.isV (n := 0) (hf18.mono s19.tups) (hx18.mono s19.tups) hstr), fun H20 s20 => ⟨true, rfl, iteF ?_⟩⟩
        exact hR _ _ ⟨rfl, (s1218.trans s19).trans s20, hxJ.mono (s19.trans s20).tups⟩
    rintro σ18 H18 ⟨rfl, s1218, hx18⟩
    -- third
    refine ⟨_, rfl, _, rfl, _, rfl, wa, ws, rfl, hpg.mono s1218.tups, fun H19 sw ws2 s19 hpg2 hj => ?_⟩
    have s1219 := s1218.trans s19
    have ej2 : judged l (kl.take kk) (kl.drop kk) ws2 = judged l (kl.take kk) (kl.drop kk) ws := hj _ _ _
    refine ⟨l, kl.take kk, kl.drop kk, ws2, ⟨bk, hda, sw, rfl, hbk12.mono s1219, hkd12.mono s1219, hhl, hnd2, hpg2⟩, fun H20 v20 s20 hf20 => ?_⟩
    rw [ej2] at hf20
    refine ⟨(by show 1 ≤ sizeLine; decide), fun p21 np21 => ?_⟩
    generalize eH21 : upd H20 p21 (.lst [v20]) = H21
    obtain ⟨s21, e21, _⟩ := new_f np21 eH21
    refine ⟨_, rfl, (by show 1 ≤ sizeLine; decide), fun p22 np22 => ?_⟩
    generalize eH22 : upd H21 p22 (.lst [x]) = H22
    obtain ⟨s22, e22, _⟩ := new_f np22 eH22
    have s2022 := s21.trans s22
    have s1822 := (s19.trans s20).trans s2022
    refine ⟨_, _, 2, rfl, by omega, lst_isV (s22 _ _ e21) e22 (FltV.isV (n := 0) (hf20.mono s2022.tups) (hx18.mono s1822.tups) hstr), fun H23 s23 => ⟨true, rfl, iteF ?_⟩⟩
    exact ⟨_, _, _, _, _, _, _, _, _, _, rfl, hv12.mono ((s1218.trans s1822).trans s23)⟩
end
end K8
namespace K8
open PySem PySem.Spec PyProof.Rows L2
/-- what the written part says of a def of the module -/
structure DF (K : PySem.W.Frag) (x : Str) (st : Stmt) : Prop where
  ex : ∃ (f : Addr) (oc kV dc pm cd ct : Value) (od an : Option Addr) (sl : Array (Option Value)), PySem.W.nsIn K mainGlobals x = some (some (.ref f)) ∧
    K.lookup f = some ⟨oc, od, .func (PySem.W.fnOf x x (defArgs st) (defBody st) (defScope st) .none kV dc pm an cd ct), sl⟩ ∧ PySem.W.codeIn K cd x = true ∧ PySem.W.keepIn K (.ref f) = true
theorem DF.use {K : PySem.W.Frag} {x : Str} {st : Stmt} {h : Heap} {mg : Str → Option Value} (d : DF K x st) (X : K.In h) (G : h.Ns mainGlobals mg) : ∃ f fd, mg x = some (.ref f) ∧ PySem.W.keepIn K (.ref f) = true ∧ Fun K x x st f fd := by
  obtain ⟨f, oc, kV, dc, pm, cd, ct, od, an, sl, h1, h2, h3, h4⟩ := d.ex
  exact ⟨f, _, PySem.W.mg_of X G h1, h4, fun_mk h2 h3 h4⟩
/-- the same of a method of the class at C -/
structure DM (K : PySem.W.Frag) (C : Addr) (m q : Str) (st : Stmt) : Prop where
  ex : ∃ (f : Addr) (oc kV dc pm cd ct : Value) (od an : Option Addr) (sl : Array (Option Value)), PySem.W.findIn K (.ref C) m = some (some (.ref f)) ∧ PySem.W.isFn K (.ref f) = true ∧
    K.lookup f = some ⟨oc, od, .func (PySem.W.fnOf m q (defArgs st) (defBody st) (defScope st) .none kV dc pm an cd ct), sl⟩ ∧ PySem.W.codeIn K cd q = true ∧ PySem.W.keepIn K (.ref f) = true
theorem DM.use {K : PySem.W.Frag} {C : Addr} {m q : Str} {st : Stmt} (d : DM K C m q st) : ∃ f fd, PySem.W.findIn K (.ref C) m = some (some (.ref f)) ∧ PySem.W.isFn K (.ref f) = true ∧ PySem.W.keepIn K (.ref f) = true ∧ Fun K m q st f fd := by
  obtain ⟨f, oc, kV, dc, pm, cd, ct, od, an, sl, h1, h2, h3, h4, h5⟩ := d.ex
  exact ⟨f, _, h1, h2, h5, fun_mk h3 h4 h5⟩
theorem all_ok {P : Program} {w : World} {K : PySem.W.Frag} {h : Heap} {mg : Str → Option Value} {fa CL CR CB CF CE fI : Addr} (X : K.In h) (G : h.Ns mainGlobals mg) (hfa : mg "law" = some (.ref fa)) (T : Txt mg) (C : CTxt K mg CL CR CB) (TF : K8X.FaTxt P K mg CF fI) (TK : TkTxt K mg CF CE)
    (makL : PySem.W.makesIn K CL = true) (makR : PySem.W.makesIn K CR = true) (makB : PySem.W.makesIn K CB = true) (kpL : PySem.W.keepIn K (.ref CL) = true) (kpR : PySem.W.keepIn K (.ref CR) = true) (kpB : PySem.W.keepIn K (.ref CB) = true)
    (dLk : DM K CL "keep" "Lot.keep" s_Lot_keep) (dLi : DM K CL "__init__" "Lot.__init__" s_Lot_init) (dRi : DM K CR "__init__" "RawLot.__init__" s_RawLot_init) (dBi : DM K CB "__init__" "Book.__init__" s_Book_init)
    (dis_integer : DF K "is_integer" s_is_integer) (dis_within : DF K "is_within" s_is_within) (dis_pair : DF K "is_pair" s_is_pair) (dis_name : DF K "is_name" s_is_name) (dis_kind_of_any_size : DF K "is_kind_of_any_size" s_is_kind_of_any_size) (dis_take : DF K "is_take" s_is_take) (dis_word : DF K "is_word" s_is_word) (dis_whole : DF K "is_whole" s_is_whole) (dcheck_program : DF K "check_program" s_check_program) (dis_open_at : DF K "is_open_at" s_is_open_at) (dends_of : DF K "ends_of" s_ends_of) (dtakers_of : DF K "takers_of" s_takers_of) (dleasts_of : DF K "leasts_of" s_leasts_of) (dis_sum : DF K "is_sum" s_is_sum) (dneeded_makers : DF K "needed_makers" s_needed_makers) (dare_makers : DF K "are_makers" s_are_makers) (dare_flags : DF K "are_flags" s_are_flags) (dholds_raw : DF K "holds_raw" s_holds_raw) (dholds_there : DF K "holds_there" s_holds_there) (dcounts_of : DF K "counts_of" s_counts_of) (dwrong_name : DF K "wrong_name" s_wrong_name) (dkinds_of_parts : DF K "kinds_of_parts" s_kinds_of_parts) (dwrong_count : DF K "wrong_count" s_wrong_count) (dfault_there : DF K "fault_there" s_fault_there) (dare_named : DF K "are_named" s_are_named) (dcheck_handed : DF K "check_handed" s_check_handed) (dknown_in : DF K "known_in" s_known_in) (dfault_in : DF K "fault_in" s_fault_in) (dfault : DF K "fault" s_fault) (dcheck_right : DF K "check_right" s_check_right) (dkind_there : DF K "kind_there" s_kind_there) (dkind_of : DF K "kind_of" s_kind_of) (d_law_hand : DF K "_law_hand" s_law_hand) (d_law_draw : DF K "_law_draw" s_law_draw) (d_law_some : DF K "_law_some" s_law_some) (d_law_shuffled : DF K "_law_shuffled" s_law_shuffled) (d_law_kind : DF K "_law_kind" s_law_kind) (d_law_ends : DF K "_law_ends" s_law_ends) (d_law_sums : DF K "_law_sums" s_law_sums) (d_law_told_numbers : DF K "_law_told_numbers" s_law_told_numbers) (d_law_lot_spec : DF K "_law_lot_spec" s_law_lot_spec) (d_law_raw_spec : DF K "_law_raw_spec" s_law_raw_spec) (d_law_known : DF K "_law_known" s_law_known) (d_law_heads : DF K "_law_heads" s_law_heads) (d_law_loose : DF K "_law_loose" s_law_loose) (d_law_fit : DF K "_law_fit" s_law_fit) (d_law_some_program : DF K "_law_some_program" s_law_some_program) (d_law_spans : DF K "_law_spans" s_law_spans) (d_law_is_open : DF K "_law_is_open" s_law_is_open) (d_law_takes : DF K "_law_takes" s_law_takes) (d_law_owners : DF K "_law_owners" s_law_owners) (d_law_kinds : DF K "_law_kinds" s_law_kinds) (d_law_standing : DF K "_law_standing" s_law_standing) (d_law_open : DF K "_law_open" s_law_open) (d_law_judged : DF K "_law_judged" s_law_judged) (d_law_named : DF K "_law_named" s_law_named) (d_law_any_lot : DF K "_law_any_lot" s_law_any_lot) (d_law_standard : DF K "_law_standard" s_law_standard) (d_law_told_kind : DF K "_law_told_kind" s_law_told_kind) (d_law_is : DF K "_law_is" s_law_is) (dlaw : DF K "law" s_law) :
    ∃ fd : FuncData, (∀ (s : Shared) (u : Value), BindsTo s fd ⟨[u], []⟩ [("_law_script", u)]) ∧ ∀ base : Heap, K.In base → base.Ns mainGlobals mg → FnOk P w K mg base CX0 71 fa fd ["_law_script"] (sp_law K) := by
  obtain ⟨fis_integer, fdis_integer, mis_integer, kis_integer, Fis_integer⟩ := dis_integer.use X G
  have bis_integer := Fis_integer.binds (ps := ["thing"]) fun _ _ _ _ _ _ us hl => match us, hl with | [_], _ => rfl
  obtain ⟨fis_within, fdis_within, mis_within, kis_within, Fis_within⟩ := dis_within.use X G
  have bis_within := Fis_within.binds (ps := ["thing", "least", "most"]) fun _ _ _ _ _ _ us hl => match us, hl with | [_, _, _], _ => rfl
  obtain ⟨fis_pair, fdis_pair, mis_pair, kis_pair, Fis_pair⟩ := dis_pair.use X G
  have bis_pair := Fis_pair.binds (ps := ["thing"]) fun _ _ _ _ _ _ us hl => match us, hl with | [_], _ => rfl
  obtain ⟨fis_name, fdis_name, mis_name, kis_name, Fis_name⟩ := dis_name.use X G
  have bis_name := Fis_name.binds (ps := ["thing"]) fun _ _ _ _ _ _ us hl => match us, hl with | [_], _ => rfl
  obtain ⟨fis_kind_of_any_size, fdis_kind_of_any_size, mis_kind_of_any_size, kis_kind_of_any_size, Fis_kind_of_any_size⟩ := dis_kind_of_any_size.use X G
  have bis_kind_of_any_size := Fis_kind_of_any_size.binds (ps := ["thing"]) fun _ _ _ _ _ _ us hl => match us, hl with | [_], _ => rfl
  obtain ⟨fis_take, fdis_take, mis_take, kis_take, Fis_take⟩ := dis_take.use X G
  have bis_take := Fis_take.binds (ps := ["word"]) fun _ _ _ _ _ _ us hl => match us, hl with | [_], _ => rfl
  obtain ⟨fis_word, fdis_word, mis_word, kis_word, Fis_word⟩ := dis_word.use X G
  have bis_word := Fis_word.binds (ps := ["thing"]) fun _ _ _ _ _ _ us hl => match us, hl with | [_], _ => rfl
  obtain ⟨fis_whole, fdis_whole, mis_whole, kis_whole, Fis_whole⟩ := dis_whole.use X G
  have bis_whole := Fis_whole.binds (ps := ["words"]) fun _ _ _ _ _ _ us hl => match us, hl with | [_], _ => rfl
  obtain ⟨fcheck_program, fdcheck_program, mcheck_program, kcheck_program, Fcheck_program⟩ := dcheck_program.use X G
  have bcheck_program := Fcheck_program.binds (ps := ["thing"]) fun _ _ _ _ _ _ us hl => match us, hl with | [_], _ => rfl
  obtain ⟨fis_open_at, fdis_open_at, mis_open_at, kis_open_at, Fis_open_at⟩ := dis_open_at.use X G
  have bis_open_at := Fis_open_at.binds (ps := ["words", "takers", "place"]) fun _ _ _ _ _ _ us hl => match us, hl with | [_, _, _], _ => rfl
  obtain ⟨fends_of, fdends_of, mends_of, kends_of, Fends_of⟩ := dends_of.use X G
  have bends_of := Fends_of.binds (ps := ["words"]) fun _ _ _ _ _ _ us hl => match us, hl with | [_], _ => rfl
  obtain ⟨ftakers_of, fdtakers_of, mtakers_of, ktakers_of, Ftakers_of⟩ := dtakers_of.use X G
  have btakers_of := Ftakers_of.binds (ps := ["words"]) fun _ _ _ _ _ _ us hl => match us, hl with | [_], _ => rfl
  obtain ⟨fleasts_of, fdleasts_of, mleasts_of, kleasts_of, Fleasts_of⟩ := dleasts_of.use X G
  have bleasts_of := Fleasts_of.binds (ps := ["makers"]) fun _ _ _ _ _ _ us hl => match us, hl with | [_], _ => rfl
  obtain ⟨fis_sum, fdis_sum, mis_sum, kis_sum, Fis_sum⟩ := dis_sum.use X G
  have bis_sum := Fis_sum.binds (ps := ["leasts", "number"]) fun _ _ _ _ _ _ us hl => match us, hl with | [_, _], _ => rfl
  obtain ⟨fneeded_makers, fdneeded_makers, mneeded_makers, kneeded_makers, Fneeded_makers⟩ := dneeded_makers.use X G
  have bneeded_makers := Fneeded_makers.binds (ps := ["makers"]) fun _ _ _ _ _ _ us hl => match us, hl with | [_], _ => rfl
  obtain ⟨fare_makers, fdare_makers, mare_makers, kare_makers, Fare_makers⟩ := dare_makers.use X G
  have bare_makers := Fare_makers.binds (ps := ["thing", "most"]) fun _ _ _ _ _ _ us hl => match us, hl with | [_, _], _ => rfl
  obtain ⟨fare_flags, fdare_flags, mare_flags, kare_flags, Fare_flags⟩ := dare_flags.use X G
  have bare_flags := Fare_flags.binds (ps := ["thing"]) fun _ _ _ _ _ _ us hl => match us, hl with | [_], _ => rfl
  obtain ⟨fholds_raw, fdholds_raw, mholds_raw, kholds_raw, Fholds_raw⟩ := dholds_raw.use X G
  have bholds_raw := Fholds_raw.binds (ps := ["raw", "number"]) fun _ _ _ _ _ _ us hl => match us, hl with | [_, _], _ => rfl
  obtain ⟨fholds_there, fdholds_there, mholds_there, kholds_there, Fholds_there⟩ := dholds_there.use X G
  have bholds_there := Fholds_there.binds (ps := ["lot", "number"]) fun _ _ _ _ _ _ us hl => match us, hl with | [_, _], _ => rfl
  obtain ⟨fcounts_of, fdcounts_of, mcounts_of, kcounts_of, Fcounts_of⟩ := dcounts_of.use X G
  have bcounts_of := Fcounts_of.binds (ps := ["words"]) fun _ _ _ _ _ _ us hl => match us, hl with | [_], _ => rfl
  obtain ⟨fwrong_name, fdwrong_name, mwrong_name, kwrong_name, Fwrong_name⟩ := dwrong_name.use X G
  have bwrong_name := Fwrong_name.binds (ps := ["words", "known"]) fun _ _ _ _ _ _ us hl => match us, hl with | [_, _], _ => rfl
  obtain ⟨fkinds_of_parts, fdkinds_of_parts, mkinds_of_parts, kkinds_of_parts, Fkinds_of_parts⟩ := dkinds_of_parts.use X G
  have bkinds_of_parts := Fkinds_of_parts.binds (ps := ["words", "known"]) fun _ _ _ _ _ _ us hl => match us, hl with | [_, _], _ => rfl
  obtain ⟨fwrong_count, fdwrong_count, mwrong_count, kwrong_count, Fwrong_count⟩ := dwrong_count.use X G
  have bwrong_count := Fwrong_count.binds (ps := ["lot", "handed", "words"]) fun _ _ _ _ _ _ us hl => match us, hl with | [_, _, _], _ => rfl
  obtain ⟨ffault_there, fdfault_there, mfault_there, kfault_there, Ffault_there⟩ := dfault_there.use X G
  have bfault_there := Ffault_there.binds (ps := ["lot", "known", "handed", "words"]) fun _ _ _ _ _ _ us hl => match us, hl with | [_, _, _, _], _ => rfl
  obtain ⟨fare_named, fdare_named, mare_named, kare_named, Fare_named⟩ := dare_named.use X G
  have bare_named := Fare_named.binds (ps := ["thing", "most", "barred"]) fun _ _ _ _ _ _ us hl => match us, hl with | [_, _, _], _ => rfl
  obtain ⟨fcheck_handed, fdcheck_handed, mcheck_handed, kcheck_handed, Fcheck_handed⟩ := dcheck_handed.use X G
  have bcheck_handed := Fcheck_handed.binds (ps := ["book", "thing"]) fun _ _ _ _ _ _ us hl => match us, hl with | [_, _], _ => rfl
  obtain ⟨fknown_in, fdknown_in, mknown_in, kknown_in, Fknown_in⟩ := dknown_in.use X G
  have bknown_in := Fknown_in.binds (ps := ["book", "handed"]) fun _ _ _ _ _ _ us hl => match us, hl with | [_, _], _ => rfl
  obtain ⟨ffault_in, fdfault_in, mfault_in, kfault_in, Ffault_in⟩ := dfault_in.use X G
  have bfault_in := Ffault_in.binds (ps := ["book", "handed", "words"]) fun _ _ _ _ _ _ us hl => match us, hl with | [_, _, _], _ => rfl
  obtain ⟨ffault, fdfault, mfault, kfault, Ffault⟩ := dfault.use X G
  have bfault := Ffault.binds (ps := ["book", "handed", "program"]) fun _ _ _ _ _ _ us hl => match us, hl with | [_, _, _], _ => rfl
  obtain ⟨fcheck_right, fdcheck_right, mcheck_right, kcheck_right, Fcheck_right⟩ := dcheck_right.use X G
  have bcheck_right := Fcheck_right.binds (ps := ["book", "handed", "program"]) fun _ _ _ _ _ _ us hl => match us, hl with | [_, _, _], _ => rfl
  obtain ⟨fkind_there, fdkind_there, mkind_there, kkind_there, Fkind_there⟩ := dkind_there.use X G
  have bkind_there := Fkind_there.binds (ps := ["book", "handed", "words"]) fun _ _ _ _ _ _ us hl => match us, hl with | [_, _, _], _ => rfl
  obtain ⟨fkind_of, fdkind_of, mkind_of, kkind_of, Fkind_of⟩ := dkind_of.use X G
  have bkind_of := Fkind_of.binds (ps := ["book", "handed", "program"]) fun _ _ _ _ _ _ us hl => match us, hl with | [_, _, _], _ => rfl
  obtain ⟨f_law_hand, fd_law_hand, m_law_hand, k_law_hand, F_law_hand⟩ := d_law_hand.use X G
  have b_law_hand := F_law_hand.binds (ps := ["_law_script"]) fun _ _ _ _ _ _ us hl => match us, hl with | [_], _ => rfl
  obtain ⟨f_law_draw, fd_law_draw, m_law_draw, k_law_draw, F_law_draw⟩ := d_law_draw.use X G
  have b_law_draw := F_law_draw.binds (ps := ["_law_hand_here", "_law_many"]) fun _ _ _ _ _ _ us hl => match us, hl with | [_, _], _ => rfl
  obtain ⟨f_law_some, fd_law_some, m_law_some, k_law_some, F_law_some⟩ := d_law_some.use X G
  have b_law_some := F_law_some.binds (ps := ["_law_hand_here", "_law_things"]) fun _ _ _ _ _ _ us hl => match us, hl with | [_, _], _ => rfl
  obtain ⟨f_law_shuffled, fd_law_shuffled, m_law_shuffled, k_law_shuffled, F_law_shuffled⟩ := d_law_shuffled.use X G
  have b_law_shuffled := F_law_shuffled.binds (ps := ["_law_hand_here", "_law_things"]) fun _ _ _ _ _ _ us hl => match us, hl with | [_, _], _ => rfl
  obtain ⟨f_law_kind, fd_law_kind, m_law_kind, k_law_kind, F_law_kind⟩ := d_law_kind.use X G
  have b_law_kind := F_law_kind.binds (ps := ["_law_hand_here", "_law_deep"]) fun _ _ _ _ _ _ us hl => match us, hl with | [_, _], _ => rfl
  obtain ⟨f_law_ends, fd_law_ends, m_law_ends, k_law_ends, F_law_ends⟩ := d_law_ends.use X G
  have b_law_ends := F_law_ends.binds (ps := ["_law_kind_here"]) fun _ _ _ _ _ _ us hl => match us, hl with | [_], _ => rfl
  obtain ⟨f_law_sums, fd_law_sums, m_law_sums, k_law_sums, F_law_sums⟩ := d_law_sums.use X G
  have b_law_sums := F_law_sums.binds (ps := ["_law_makers", "_law_most"]) fun _ _ _ _ _ _ us hl => match us, hl with | [_, _], _ => rfl
  obtain ⟨f_law_told_numbers, fd_law_told_numbers, m_law_told_numbers, k_law_told_numbers, F_law_told_numbers⟩ := d_law_told_numbers.use X G
  have b_law_told_numbers := F_law_told_numbers.binds (ps := ["_law_spec", "_law_most"]) fun _ _ _ _ _ _ us hl => match us, hl with | [_, _], _ => rfl
  obtain ⟨f_law_lot_spec, fd_law_lot_spec, m_law_lot_spec, k_law_lot_spec, F_law_lot_spec⟩ := d_law_lot_spec.use X G
  have b_law_lot_spec := F_law_lot_spec.binds (ps := ["_law_hand_here"]) fun _ _ _ _ _ _ us hl => match us, hl with | [_], _ => rfl
  obtain ⟨f_law_raw_spec, fd_law_raw_spec, m_law_raw_spec, k_law_raw_spec, F_law_raw_spec⟩ := d_law_raw_spec.use X G
  have b_law_raw_spec := F_law_raw_spec.binds (ps := ["_law_hand_here"]) fun _ _ _ _ _ _ us hl => match us, hl with | [_], _ => rfl
  obtain ⟨f_law_known, fd_law_known, m_law_known, k_law_known, F_law_known⟩ := d_law_known.use X G
  have b_law_known := F_law_known.binds (ps := ["_law_hand_here", "_law_many"]) fun _ _ _ _ _ _ us hl => match us, hl with | [_, _], _ => rfl
  obtain ⟨f_law_heads, fd_law_heads, m_law_heads, k_law_heads, F_law_heads⟩ := d_law_heads.use X G
  have b_law_heads := F_law_heads.binds (ps := ["_law_inner", "_law_end", "_law_deep"]) fun _ _ _ _ _ _ us hl => match us, hl with | [_, _, _], _ => rfl
  obtain ⟨f_law_loose, fd_law_loose, m_law_loose, k_law_loose, F_law_loose⟩ := d_law_loose.use X G
  have b_law_loose := F_law_loose.binds (ps := ["_law_hand_here", "_law_names", "_law_deep"]) fun _ _ _ _ _ _ us hl => match us, hl with | [_, _, _], _ => rfl
  obtain ⟨f_law_fit, fd_law_fit, m_law_fit, k_law_fit, F_law_fit⟩ := d_law_fit.use X G
  have b_law_fit := F_law_fit.binds (ps := ["_law_hand_here", "_law_known_here", "_law_kind_here", "_law_deep"]) fun _ _ _ _ _ _ us hl => match us, hl with | [_, _, _, _], _ => rfl
  obtain ⟨f_law_some_program, fd_law_some_program, m_law_some_program, k_law_some_program, F_law_some_program⟩ := d_law_some_program.use X G
  have b_law_some_program := F_law_some_program.binds (ps := ["_law_hand_here", "_law_known_here", "_law_deep"]) fun _ _ _ _ _ _ us hl => match us, hl with | [_, _, _], _ => rfl
  obtain ⟨f_law_spans, fd_law_spans, m_law_spans, k_law_spans, F_law_spans⟩ := d_law_spans.use X G
  have b_law_spans := F_law_spans.binds (ps := ["_law_words"]) fun _ _ _ _ _ _ us hl => match us, hl with | [_], _ => rfl
  obtain ⟨f_law_is_open, fd_law_is_open, m_law_is_open, k_law_is_open, F_law_is_open⟩ := d_law_is_open.use X G
  have b_law_is_open := F_law_is_open.binds (ps := ["_law_words", "_law_owners_here", "_law_place"]) fun _ _ _ _ _ _ us hl => match us, hl with | [_, _, _], _ => rfl
  obtain ⟨f_law_takes, fd_law_takes, m_law_takes, k_law_takes, F_law_takes⟩ := d_law_takes.use X G
  have b_law_takes := F_law_takes.binds (ps := ["_law_words"]) fun _ _ _ _ _ _ us hl => match us, hl with | [_], _ => rfl
  obtain ⟨f_law_owners, fd_law_owners, m_law_owners, k_law_owners, F_law_owners⟩ := d_law_owners.use X G
  have b_law_owners := F_law_owners.binds (ps := ["_law_words"]) fun _ _ _ _ _ _ us hl => match us, hl with | [_], _ => rfl
  obtain ⟨f_law_kinds, fd_law_kinds, m_law_kinds, k_law_kinds, F_law_kinds⟩ := d_law_kinds.use X G
  have b_law_kinds := F_law_kinds.binds (ps := ["_law_words", "_law_known_here"]) fun _ _ _ _ _ _ us hl => match us, hl with | [_, _], _ => rfl
  obtain ⟨f_law_standing, fd_law_standing, m_law_standing, k_law_standing, F_law_standing⟩ := d_law_standing.use X G
  have b_law_standing := F_law_standing.binds (ps := ["_law_words", "_law_name"]) fun _ _ _ _ _ _ us hl => match us, hl with | [_, _], _ => rfl
  obtain ⟨f_law_open, fd_law_open, m_law_open, k_law_open, F_law_open⟩ := d_law_open.use X G
  have b_law_open := F_law_open.binds (ps := ["_law_words"]) fun _ _ _ _ _ _ us hl => match us, hl with | [_], _ => rfl
  obtain ⟨f_law_judged, fd_law_judged, m_law_judged, k_law_judged, F_law_judged⟩ := d_law_judged.use X G
  have b_law_judged := F_law_judged.binds (ps := ["_law_spec", "_law_tools", "_law_handed", "_law_words"]) fun _ _ _ _ _ _ us hl => match us, hl with | [_, _, _, _], _ => rfl
  obtain ⟨f_law_named, fd_law_named, m_law_named, k_law_named, F_law_named⟩ := d_law_named.use X G
  have b_law_named := F_law_named.binds (ps := ["_law_words", "_law_names"]) fun _ _ _ _ _ _ us hl => match us, hl with | [_, _], _ => rfl
  obtain ⟨f_law_any_lot, fd_law_any_lot, m_law_any_lot, k_law_any_lot, F_law_any_lot⟩ := d_law_any_lot.use X G
  have b_law_any_lot := F_law_any_lot.binds (ps := ["_law_spec"]) fun _ _ _ _ _ _ us hl => match us, hl with | [_], _ => rfl
  obtain ⟨f_law_standard, fd_law_standard, m_law_standard, k_law_standard, F_law_standard⟩ := d_law_standard.use X G
  have b_law_standard := F_law_standard.binds (ps := ["_law_words"]) fun _ _ _ _ _ _ us hl => match us, hl with | [_], _ => rfl
  obtain ⟨f_law_told_kind, fd_law_told_kind, m_law_told_kind, k_law_told_kind, F_law_told_kind⟩ := d_law_told_kind.use X G
  have b_law_told_kind := F_law_told_kind.binds (ps := ["_law_book", "_law_handed", "_law_words"]) fun _ _ _ _ _ _ us hl => match us, hl with | [_, _, _], _ => rfl
  obtain ⟨f_law_is, fd_law_is, m_law_is, k_law_is, F_law_is⟩ := d_law_is.use X G
  have b_law_is := F_law_is.binds (ps := ["_law_told", "_law_due"]) fun _ _ _ _ _ _ us hl => match us, hl with | [_, _], _ => rfl
  obtain ⟨flaw, fdlaw, mlaw, klaw, Flaw⟩ := dlaw.use X G
  have blaw := Flaw.binds (ps := ["_law_script"]) fun _ _ _ _ _ _ us hl => match us, hl with | [_], _ => rfl
  obtain ⟨fLk, fdLk, h1Lk, h2Lk, h3Lk, FLk⟩ := dLk.use
  have bLk := FLk.binds (ps := ["self", "word", "makers"]) fun _ _ _ _ _ _ us hl => match us, hl with | [_, _, _], _ => rfl
  obtain ⟨fLi, fdLi, h1Li, h2Li, h3Li, FLi⟩ := dLi.use
  have bLi := FLi.binds (ps := ["self", "word", "makers"]) fun _ _ _ _ _ _ us hl => match us, hl with | [_, _, _], _ => rfl
  obtain ⟨fRi, fdRi, h1Ri, h2Ri, h3Ri, FRi⟩ := dRi.use
  have bRi := FRi.binds (ps := ["self", "heads", "rounds"]) fun _ _ _ _ _ _ us hl => match us, hl with | [_, _, _], _ => rfl
  obtain ⟨fBi, fdBi, h1Bi, h2Bi, h3Bi, FBi⟩ := dBi.use
  have bBi := FBi.binds (ps := ["self", "lot", "tools"]) fun _ _ _ _ _ _ us hl => match us, hl with | [_, _, _], _ => rfl
  have meLk : Meth K CL "keep" fLk := ⟨h1Lk, h2Lk, h3Lk⟩
  have mkL : Mk K CL fLi := ⟨makL, h1Li, h2Li, kpL⟩
  have mkR : Mk K CR fRi := ⟨makR, h1Ri, h2Ri, kpR⟩
  have mkB : Mk K CB fBi := ⟨makB, h1Bi, h2Bi, kpB⟩
  have efa : fa = flaw := by
    have := hfa.symm.trans mlaw
    cases this
    rfl
  subst efa
  refine ⟨fdlaw, ?_, fun base _ _ => ?_⟩
  · obtain ⟨oc, od, kV, doc, pm, an, cdv, ct, osl, rfl, lk, hcd⟩ := Flaw.ex
    exact fun s u => .of_eq rfl
  · have hPw : P = P := rfl
    have c_is_integer : Cl P w K mg base "is_integer" 1 ["thing"] sp_is_integer := ⟨_, _, mis_integer, kis_integer, bis_integer, ok_is_integer T Fis_integer⟩
    have c_is_within : Cl P w K mg base "is_within" 2 ["thing", "least", "most"] sp_is_within := ⟨_, _, mis_within, kis_within, bis_within, ok_is_within c_is_integer Fis_within⟩
    have c_is_pair : Cl P w K mg base "is_pair" 1 ["thing"] sp_is_pair := ⟨_, _, mis_pair, kis_pair, bis_pair, ok_is_pair T Fis_pair⟩
    have c_is_name : Cl P w K mg base "is_name" 1 ["thing"] sp_is_name := ⟨_, _, mis_name, kis_name, bis_name, ok_is_name T Fis_name⟩
    have c_is_kind_of_any_size : Cl P w K mg base "is_kind_of_any_size" 3 ["thing"] sp_is_kind_of_any_size := ⟨_, _, mis_kind_of_any_size, kis_kind_of_any_size, bis_kind_of_any_size, ok_is_kind_of_any_size T c_is_pair c_is_within Fis_kind_of_any_size⟩
    have c_is_take : Cl P w K mg base "is_take" 1 ["word"] sp_is_take := ⟨_, _, mis_take, kis_take, bis_take, ok_is_take T Fis_take⟩
    have c_is_word : Cl P w K mg base "is_word" 4 ["thing"] sp_is_word := ⟨_, _, mis_word, kis_word, bis_word, ok_is_word T c_is_pair c_is_name c_is_kind_of_any_size Fis_word⟩
    have c_is_whole : Cl P w K mg base "is_whole" 2 ["words"] sp_is_whole := ⟨_, _, mis_whole, kis_whole, bis_whole, ok_is_whole T c_is_take Fis_whole⟩
    have c_check_program : Cl P w K mg base "check_program" 5 ["thing"] sp_check_program := ⟨_, _, mcheck_program, kcheck_program, bcheck_program, ok_check_program T c_is_word c_is_whole Fcheck_program⟩
    have c_is_open_at : Cl P w K mg base "is_open_at" 2 ["words", "takers", "place"] sp_is_open_at := ⟨_, _, mis_open_at, kis_open_at, bis_open_at, ok_is_open_at T c_is_take Fis_open_at⟩
    have c_ends_of : Cl P w K mg base "ends_of" 2 ["words"] sp_ends_of := ⟨_, _, mends_of, kends_of, bends_of, ok_ends_of T c_is_take Fends_of⟩
    have c_takers_of : Cl P w K mg base "takers_of" 3 ["words"] sp_takers_of := ⟨_, _, mtakers_of, ktakers_of, btakers_of, ok_takers_of T c_is_take c_ends_of Ftakers_of⟩
    have c_leasts_of : Cl P w K mg base "leasts_of" 1 ["makers"] sp_leasts_of := ⟨_, _, mleasts_of, kleasts_of, bleasts_of, ok_leasts_of T Fleasts_of⟩
    have c_is_sum : Cl P w K mg base "is_sum" 1 ["leasts", "number"] sp_is_sum := ⟨_, _, mis_sum, kis_sum, bis_sum, ok_is_sum T Fis_sum⟩
    have c_needed_makers : Cl P w K mg base "needed_makers" 2 ["makers"] sp_needed_makers := ⟨_, _, mneeded_makers, kneeded_makers, bneeded_makers, ok_needed_makers T c_is_sum c_leasts_of Fneeded_makers⟩
    have c_are_makers : Cl P w K mg base "are_makers" 2 ["thing", "most"] sp_are_makers := ⟨_, _, mare_makers, kare_makers, bare_makers, ok_are_makers T c_is_integer Fare_makers⟩
    have c_are_flags : Cl P w K mg base "are_flags" 1 ["thing"] sp_are_flags := ⟨_, _, mare_flags, kare_flags, bare_flags, ok_are_flags T Fare_flags⟩
    have m_keep : C8.Met P w K mg base 3 CL "keep" (sp_Lot_keep CL) [] := ⟨fLk, fdLk, ["self", "word", "makers"], [], C.cL, meLk, ok_Lot_keep T C c_needed_makers c_leasts_of FLk, bLk, .nil⟩
    have c_Lot : C8.Mak P w K mg base 4 "Lot" CL (sp_Lot_init CL) [] := ⟨fLi, fdLi, ["self", "word", "makers"], [], mkL, ok_Lot_init T C c_are_makers m_keep FLi, C.gL, bLi, .nil⟩
    have c_holds_raw : Cl P w K mg base "holds_raw" 1 ["raw", "number"] (sp_holds_raw CR) := ⟨_, _, mholds_raw, kholds_raw, bholds_raw, ok_holds_raw T C Fholds_raw⟩
    have c_RawLot : C8.Mak P w K mg base 2 "RawLot" CR (sp_RawLot_init CR) [] := ⟨fRi, fdRi, ["self", "heads", "rounds"], [], mkR, ok_RawLot_init T C c_are_flags c_holds_raw FRi, C.gR, bRi, .nil⟩
    have c_holds_there : Cl P w K mg base "holds_there" 2 ["lot", "number"] (sp_holds_there CL CR) := ⟨_, _, mholds_there, kholds_there, bholds_there, ok_holds_there T C c_holds_raw c_is_sum Fholds_there⟩
    have c_counts_of : Cl P w K mg base "counts_of" 4 ["words"] sp_counts_of := ⟨_, _, mcounts_of, kcounts_of, bcounts_of, ok_counts_of T c_takers_of c_is_take c_is_open_at Fcounts_of⟩
    have c_wrong_name : Cl P w K mg base "wrong_name" 4 ["words", "known"] sp_wrong_name := ⟨_, _, mwrong_name, kwrong_name, bwrong_name, ok_wrong_name T c_takers_of c_is_open_at Fwrong_name⟩
    have c_kinds_of_parts : Cl P w K mg base "kinds_of_parts" 4 ["words", "known"] sp_kinds_of_parts := ⟨_, _, mkinds_of_parts, kkinds_of_parts, bkinds_of_parts, ok_kinds_of_parts T c_takers_of c_ends_of c_is_take Fkinds_of_parts⟩
    have c_wrong_count : Cl P w K mg base "wrong_count" 5 ["lot", "handed", "words"] (sp_wrong_count CL CR) := ⟨_, _, mwrong_count, kwrong_count, bwrong_count, ok_wrong_count T c_counts_of c_holds_there c_is_take Fwrong_count⟩
    have c_fault_there : Cl P w K mg base "fault_there" 6 ["lot", "known", "handed", "words"] (sp_fault_there CL CR) := ⟨_, _, mfault_there, kfault_there, bfault_there, ok_fault_there T c_wrong_name c_kinds_of_parts c_wrong_count Ffault_there⟩
    have c_are_named : Cl P w K mg base "are_named" 4 ["thing", "most", "barred"] sp_are_named := ⟨_, _, mare_named, kare_named, bare_named, ok_are_named T c_is_pair c_is_name c_is_kind_of_any_size Fare_named⟩
    have c_Book : C8.Mak P w K mg base 5 "Book" CB (sp_Book_init CL CR CB) [] := ⟨fBi, fdBi, ["self", "lot", "tools"], [], mkB, ok_Book_init T C c_are_named FBi, C.gB, bBi, .nil⟩
    have c_check_handed : Cl P w K mg base "check_handed" 5 ["book", "thing"] (sp_check_handed CL CR CB) := ⟨_, _, mcheck_handed, kcheck_handed, bcheck_handed, ok_check_handed T C c_are_named Fcheck_handed⟩
    have c_known_in : Cl P w K mg base "known_in" 1 ["book", "handed"] (sp_known_in CL CR CB) := ⟨_, _, mknown_in, kknown_in, bknown_in, ok_known_in T C Fknown_in⟩
    have c_fault_in : Cl P w K mg base "fault_in" 7 ["book", "handed", "words"] (sp_fault_in CL CR CB) := ⟨_, _, mfault_in, kfault_in, bfault_in, ok_fault_in T C c_fault_there c_known_in Ffault_in⟩
    have c_fault : Cl P w K mg base "fault" 8 ["book", "handed", "program"] (sp_fault_in CL CR CB) := ⟨_, _, mfault, kfault, bfault, ok_fault T c_check_handed c_check_program c_fault_in Ffault⟩
    have c_check_right : ClX P w K mg base "check_right" 8 ["book", "handed", "program"] (sp_check_right CL CR CB CF) := ⟨_, _, mcheck_right, kcheck_right, bcheck_right, ok_check_right T TF c_check_handed c_check_program c_fault_in Fcheck_right⟩
    have c_kind_there : Cl P w K mg base "kind_there" 5 ["book", "handed", "words"] (sp_kind_there CL CR CB) := ⟨_, _, mkind_there, kkind_there, bkind_there, ok_kind_there T c_kinds_of_parts c_known_in Fkind_there⟩
    have c_kind_of : ClX P w K mg base "kind_of" 9 ["book", "handed", "program"] (sp_kind_of CL CR CB CF) := ⟨_, _, mkind_of, kkind_of, bkind_of, ok_kind_of T c_check_right c_kind_there Fkind_of⟩
    have c_law_hand : Cl P w K mg base "_law_hand" 1 ["_law_script"] (sp_law_hand K) := ⟨_, _, m_law_hand, k_law_hand, b_law_hand, ok_law_hand T F_law_hand⟩
    have c_law_draw : Cl P w K mg base "_law_draw" 1 ["_law_hand_here", "_law_many"] sp_law_draw := ⟨_, _, m_law_draw, k_law_draw, b_law_draw, ok_law_draw T F_law_draw⟩
    have c_law_some : Cl P w K mg base "_law_some" 2 ["_law_hand_here", "_law_things"] sp_law_some := ⟨_, _, m_law_some, k_law_some, b_law_some, ok_law_some T c_law_draw F_law_some⟩
    have c_law_shuffled : Cl P w K mg base "_law_shuffled" 2 ["_law_hand_here", "_law_things"] sp_law_shuffled := ⟨_, _, m_law_shuffled, k_law_shuffled, b_law_shuffled, ok_law_shuffled T c_law_draw F_law_shuffled⟩
    have c_k0 : Cl P w K mg base "_law_kind" 2 ["_law_hand_here", "_law_deep"] (sp_law_kind 0) := ⟨_, _, m_law_kind, k_law_kind, b_law_kind, ok_law_kind0 T c_law_draw F_law_kind⟩
    have c_k1 : Cl P w K mg base "_law_kind" 3 ["_law_hand_here", "_law_deep"] (sp_law_kind 1) := ⟨_, _, m_law_kind, k_law_kind, b_law_kind, ok_law_kindS T 0 c_law_draw c_k0 F_law_kind⟩
    have c_law_kind : Cl P w K mg base "_law_kind" 4 ["_law_hand_here", "_law_deep"] (sp_law_kind 2) := ⟨_, _, m_law_kind, k_law_kind, b_law_kind, ok_law_kindS T 1 c_law_draw c_k1 F_law_kind⟩
    have c_law_ends : Cl P w K mg base "_law_ends" 1 ["_law_kind_here"] sp_law_ends := ⟨_, _, m_law_ends, k_law_ends, b_law_ends, ok_law_ends T F_law_ends⟩
    have c_law_sums : Cl P w K mg base "_law_sums" 1 ["_law_makers", "_law_most"] sp_law_sums := ⟨_, _, m_law_sums, k_law_sums, b_law_sums, ok_law_sums T F_law_sums⟩
    have c_law_told_numbers : Cl P w K mg base "_law_told_numbers" 2 ["_law_spec", "_law_most"] sp_law_told_numbers := ⟨_, _, m_law_told_numbers, k_law_told_numbers, b_law_told_numbers, ok_law_told_numbers T c_law_sums F_law_told_numbers⟩
    have c_law_lot_spec : Cl P w K mg base "_law_lot_spec" 3 ["_law_hand_here"] sp_law_lot_spec := ⟨_, _, m_law_lot_spec, k_law_lot_spec, b_law_lot_spec, ok_law_lot_spec T c_law_draw c_law_some F_law_lot_spec⟩
    have c_law_raw_spec : Cl P w K mg base "_law_raw_spec" 4 ["_law_hand_here"] sp_law_lot_spec := ⟨_, _, m_law_raw_spec, k_law_raw_spec, b_law_raw_spec, ok_law_raw_spec T c_law_draw c_law_lot_spec c_law_told_numbers F_law_raw_spec⟩
    have c_law_known : Cl P w K mg base "_law_known" 5 ["_law_hand_here", "_law_many"] sp_law_known := ⟨_, _, m_law_known, k_law_known, b_law_known, ok_law_known T c_law_shuffled c_law_kind F_law_known⟩
    have c_law_heads : Cl P w K mg base "_law_heads" 2 ["_law_inner", "_law_end", "_law_deep"] sp_law_heads := ⟨_, _, m_law_heads, k_law_heads, b_law_heads, ok_law_heads T c_law_ends F_law_heads⟩
    have law_loose0 : Cl P w K mg base "_law_loose" 4 ["_law_hand_here", "_law_names", "_law_deep"] (sp_law_loose 0) := ⟨_, _, m_law_loose, k_law_loose, b_law_loose, FnOk.never (fun vs H Q E ⟨_, _, _, _, _, _, _, _, _, _, _, _, h, _⟩ => Nat.not_lt_zero _ h)⟩
    have law_loose1 : Cl P w K mg base "_law_loose" 5 ["_law_hand_here", "_law_names", "_law_deep"] (sp_law_loose 1) := ⟨_, _, m_law_loose, k_law_loose, b_law_loose, ok_law_loose T 0 c_law_draw c_law_some c_law_kind law_loose0 F_law_loose⟩
    have law_loose2 : Cl P w K mg base "_law_loose" 6 ["_law_hand_here", "_law_names", "_law_deep"] (sp_law_loose 2) := ⟨_, _, m_law_loose, k_law_loose, b_law_loose, ok_law_loose T 1 c_law_draw c_law_some c_law_kind law_loose1 F_law_loose⟩
    have law_loose3 : Cl P w K mg base "_law_loose" 7 ["_law_hand_here", "_law_names", "_law_deep"] (sp_law_loose 3) := ⟨_, _, m_law_loose, k_law_loose, b_law_loose, ok_law_loose T 2 c_law_draw c_law_some c_law_kind law_loose2 F_law_loose⟩
    have c_law_loose : Cl P w K mg base "_law_loose" 8 ["_law_hand_here", "_law_names", "_law_deep"] (sp_law_loose 4) := ⟨_, _, m_law_loose, k_law_loose, b_law_loose, ok_law_loose T 3 c_law_draw c_law_some c_law_kind law_loose3 F_law_loose⟩
    have law_fit0 : Cl P w K mg base "_law_fit" 4 ["_law_hand_here", "_law_known_here", "_law_kind_here", "_law_deep"] (sp_law_fit 0) := ⟨_, _, m_law_fit, k_law_fit, b_law_fit, FnOk.never (fun vs H Q E ⟨_, _, _, _, _, _, _, _, _, _, _, _, _, h, _⟩ => Nat.not_lt_zero _ h)⟩
    have law_fit1 : Cl P w K mg base "_law_fit" 5 ["_law_hand_here", "_law_known_here", "_law_kind_here", "_law_deep"] (sp_law_fit 1) := ⟨_, _, m_law_fit, k_law_fit, b_law_fit, ok_law_fit T 0 c_law_draw c_law_some c_law_kind c_law_ends c_law_heads law_fit0 F_law_fit⟩
    have law_fit2 : Cl P w K mg base "_law_fit" 6 ["_law_hand_here", "_law_known_here", "_law_kind_here", "_law_deep"] (sp_law_fit 2) := ⟨_, _, m_law_fit, k_law_fit, b_law_fit, ok_law_fit T 1 c_law_draw c_law_some c_law_kind c_law_ends c_law_heads law_fit1 F_law_fit⟩
    have law_fit3 : Cl P w K mg base "_law_fit" 7 ["_law_hand_here", "_law_known_here", "_law_kind_here", "_law_deep"] (sp_law_fit 3) := ⟨_, _, m_law_fit, k_law_fit, b_law_fit, ok_law_fit T 2 c_law_draw c_law_some c_law_kind c_law_ends c_law_heads law_fit2 F_law_fit⟩
    have c_law_fit : Cl P w K mg base "_law_fit" 8 ["_law_hand_here", "_law_known_here", "_law_kind_here", "_law_deep"] (sp_law_fit 4) := ⟨_, _, m_law_fit, k_law_fit, b_law_fit, ok_law_fit T 3 c_law_draw c_law_some c_law_kind c_law_ends c_law_heads law_fit3 F_law_fit⟩
    have c_law_some_program : Cl P w K mg base "_law_some_program" 9 ["_law_hand_here", "_law_known_here", "_law_deep"] sp_law_some_program := ⟨_, _, m_law_some_program, k_law_some_program, b_law_some_program, ok_law_some_program T c_law_draw c_law_kind c_law_fit c_law_loose F_law_some_program⟩
    have c_law_spans : Cl P w K mg base "_law_spans" 1 ["_law_words"] sp_ends_of := ⟨_, _, m_law_spans, k_law_spans, b_law_spans, ok_law_spans T F_law_spans⟩
    have c_law_is_open : Cl P w K mg base "_law_is_open" 1 ["_law_words", "_law_owners_here", "_law_place"] sp_is_open_at := ⟨_, _, m_law_is_open, k_law_is_open, b_law_is_open, ok_law_is_open T F_law_is_open⟩
    have c_law_takes : Cl P w K mg base "_law_takes" 1 ["_law_words"] sp_law_takes := ⟨_, _, m_law_takes, k_law_takes, b_law_takes, ok_law_takes T F_law_takes⟩
    have c_law_owners : Cl P w K mg base "_law_owners" 2 ["_law_words"] sp_takers_of := ⟨_, _, m_law_owners, k_law_owners, b_law_owners, ok_law_owners T c_law_spans F_law_owners⟩
    have c_law_kinds : Cl P w K mg base "_law_kinds" 3 ["_law_words", "_law_known_here"] sp_kinds_of_parts := ⟨_, _, m_law_kinds, k_law_kinds, b_law_kinds, ok_law_kinds T c_law_spans c_law_owners F_law_kinds⟩
    have c_law_standing : Cl P w K mg base "_law_standing" 3 ["_law_words", "_law_name"] sp_law_standing := ⟨_, _, m_law_standing, k_law_standing, b_law_standing, ok_law_standing T c_law_owners c_law_is_open F_law_standing⟩
    have c_law_open : Cl P w K mg base "_law_open" 3 ["_law_words"] sp_law_open := ⟨_, _, m_law_open, k_law_open, b_law_open, ok_law_open T c_law_owners c_law_is_open F_law_open⟩
    have c_law_judged : Cl P w K mg base "_law_judged" 4 ["_law_spec", "_law_tools", "_law_handed", "_law_words"] sp_law_judged := ⟨_, _, m_law_judged, k_law_judged, b_law_judged, ok_law_judged T c_law_owners c_law_is_open c_law_kinds c_law_told_numbers c_law_standing F_law_judged⟩
    have c_law_named : Cl P w K mg base "_law_named" 3 ["_law_words", "_law_names"] sp_law_named := ⟨_, _, m_law_named, k_law_named, b_law_named, ok_law_named T c_law_owners F_law_named⟩
    have c_law_any_lot : Cl P w K mg base "_law_any_lot" 6 ["_law_spec"] (sp_law_any_lot CL CR) := ⟨_, _, m_law_any_lot, k_law_any_lot, b_law_any_lot, ok_law_any_lot T c_Lot c_RawLot F_law_any_lot⟩
    have c_law_standard : Cl P w K mg base "_law_standard" 4 ["_law_words"] sp_law_standard := ⟨_, _, m_law_standard, k_law_standard, b_law_standard, ok_law_standard T c_law_open c_law_takes c_law_named F_law_standard⟩
    have c_law_told_kind : Cl P w K mg base "_law_told_kind" 10 ["_law_book", "_law_handed", "_law_words"] (sp_law_told_kind CL CR CB) := ⟨_, _, m_law_told_kind, k_law_told_kind, b_law_told_kind, ok_law_told_kind T TK c_kind_of F_law_told_kind⟩
    have c_is : ∀ D, Cl P w K mg base "_law_is" D ["_law_told", "_law_due"] (sp_law_is D) := fun D => by
      induction D with
      | zero => exact ⟨_, _, m_law_is, k_law_is, b_law_is, FnOk.never (fun vs H Q E ⟨_, _, _, _, h, _⟩ => Nat.not_lt_zero _ h)⟩
      | succ D ih => exact ⟨_, _, m_law_is, k_law_is, b_law_is, ok_law_is T D ih F_law_is⟩
    exact ok_law T c_law_hand c_law_draw c_law_some c_law_raw_spec c_law_lot_spec c_law_known c_law_any_lot c_Book c_law_some_program c_law_judged (c_is 70) c_fault c_law_told_kind c_law_standard Flaw
end K8
namespace K8
open PySem PySem.Spec PyProof.Rows L2
section
variable {P : Program} {K : PySem.W.Frag} {h : Heap} {mg : Str → Option Value} {C CL CR CB CF CE fI : Addr}
theorem txt_mk (X : K.In h) (G : h.Ns mainGlobals mg)
    (n_len : PySem.W.nsIn K mainGlobals "len" = some none) (n_range : PySem.W.nsIn K mainGlobals "range" = some none) (n_isinstance : PySem.W.nsIn K mainGlobals "isinstance" = some none) (n_set : PySem.W.nsIn K mainGlobals "set" = some none) (n_sorted : PySem.W.nsIn K mainGlobals "sorted" = some none) (n_enumerate : PySem.W.nsIn K mainGlobals "enumerate" = some none) (n_int : PySem.W.nsIn K mainGlobals "int" = some none) (n_bool : PySem.W.nsIn K mainGlobals "bool" = some none) (n_str : PySem.W.nsIn K mainGlobals "str" = some none) (n_tuple : PySem.W.nsIn K mainGlobals "tuple" = some none) (n_list : PySem.W.nsIn K mainGlobals "list" = some none) (n_dict : PySem.W.nsIn K mainGlobals "dict" = some none) (n_abs : PySem.W.nsIn K mainGlobals "abs" = some none) (n_min : PySem.W.nsIn K mainGlobals "min" = some none) (n_max : PySem.W.nsIn K mainGlobals "max" = some none) (n_all : PySem.W.nsIn K mainGlobals "all" = some none) (n_any : PySem.W.nsIn K mainGlobals "any" = some none) (n_ValueError : PySem.W.nsIn K mainGlobals "ValueError" = some none)
    {t_cSMALL : Tok} (cSMALL : PySem.W.nsIn K mainGlobals "SMALL" = some (some (.str "abcdefghijklmnopqrstuvwxyz" t_cSMALL))) {t_cMOST_SIGNS : Tok} (cMOST_SIGNS : PySem.W.nsIn K mainGlobals "MOST_SIGNS" = some (some (.int 8 t_cMOST_SIGNS))) {t_cLAST_LETTER : Tok} (cLAST_LETTER : PySem.W.nsIn K mainGlobals "LAST_LETTER" = some (some (.int 25 t_cLAST_LETTER))) {t_cONCE : Tok} (cONCE : PySem.W.nsIn K mainGlobals "ONCE" = some (some (.str "once" t_cONCE))) {t_cLOAN : Tok} (cLOAN : PySem.W.nsIn K mainGlobals "LOAN" = some (some (.str "loan" t_cLOAN))) {t_cFREE : Tok} (cFREE : PySem.W.nsIn K mainGlobals "FREE" = some (some (.str "free" t_cFREE))) {t_cMORE : Tok} (cMORE : PySem.W.nsIn K mainGlobals "MORE" = some (some (.str "more" t_cMORE))) {t_cMOST_MAKERS : Tok} (cMOST_MAKERS : PySem.W.nsIn K mainGlobals "MOST_MAKERS" = some (some (.int 4 t_cMOST_MAKERS))) {t_cMOST_MAKER : Tok} (cMOST_MAKER : PySem.W.nsIn K mainGlobals "MOST_MAKER" = some (some (.int 12 t_cMOST_MAKER))) {t_cMOST_HEADS : Tok} (cMOST_HEADS : PySem.W.nsIn K mainGlobals "MOST_HEADS" = some (some (.int 8 t_cMOST_HEADS))) {t_cMOST_ROUNDS : Tok} (cMOST_ROUNDS : PySem.W.nsIn K mainGlobals "MOST_ROUNDS" = some (some (.int 6 t_cMOST_ROUNDS))) {t_cUSE : Tok} (cUSE : PySem.W.nsIn K mainGlobals "USE" = some (some (.str "@" t_cUSE))) {t_cMOST_TOOLS : Tok} (cMOST_TOOLS : PySem.W.nsIn K mainGlobals "MOST_TOOLS" = some (some (.int 8 t_cMOST_TOOLS))) {t_cMOST_HANDED : Tok} (cMOST_HANDED : PySem.W.nsIn K mainGlobals "MOST_HANDED" = some (some (.int 6 t_cMOST_HANDED))) : Txt mg :=
  { len := PySem.W.mg_none_of X G n_len, range := PySem.W.mg_none_of X G n_range, isinstance := PySem.W.mg_none_of X G n_isinstance, set := PySem.W.mg_none_of X G n_set, sorted := PySem.W.mg_none_of X G n_sorted, enumerate := PySem.W.mg_none_of X G n_enumerate, int := PySem.W.mg_none_of X G n_int, bool := PySem.W.mg_none_of X G n_bool, str := PySem.W.mg_none_of X G n_str, tuple := PySem.W.mg_none_of X G n_tuple, list := PySem.W.mg_none_of X G n_list, dict := PySem.W.mg_none_of X G n_dict, abs := PySem.W.mg_none_of X G n_abs, min := PySem.W.mg_none_of X G n_min, max := PySem.W.mg_none_of X G n_max, all := PySem.W.mg_none_of X G n_all, any := PySem.W.mg_none_of X G n_any, ValueError := PySem.W.mg_none_of X G n_ValueError, cSMALL := ⟨_, PySem.W.mg_of X G cSMALL⟩, cMOST_SIGNS := ⟨_, PySem.W.mg_of X G cMOST_SIGNS⟩, cLAST_LETTER := ⟨_, PySem.W.mg_of X G cLAST_LETTER⟩, cONCE := ⟨_, PySem.W.mg_of X G cONCE⟩, cLOAN := ⟨_, PySem.W.mg_of X G cLOAN⟩, cFREE := ⟨_, PySem.W.mg_of X G cFREE⟩, cMORE := ⟨_, PySem.W.mg_of X G cMORE⟩, cMOST_MAKERS := ⟨_, PySem.W.mg_of X G cMOST_MAKERS⟩, cMOST_MAKER := ⟨_, PySem.W.mg_of X G cMOST_MAKER⟩, cMOST_HEADS := ⟨_, PySem.W.mg_of X G cMOST_HEADS⟩, cMOST_ROUNDS := ⟨_, PySem.W.mg_of X G cMOST_ROUNDS⟩, cUSE := ⟨_, PySem.W.mg_of X G cUSE⟩, cMOST_TOOLS := ⟨_, PySem.W.mg_of X G cMOST_TOOLS⟩, cMOST_HANDED := ⟨_, PySem.W.mg_of X G cMOST_HANDED⟩ }
theorem cls_mk (pg : PySem.W.plainGet K C Str.empty = true) (hd : PySem.W.hasDictIn K C = true) (po : PySem.W.plainOver K C = true) (sa : PySem.W.findIn K (.ref C) "__setattr__" = some (some (.builtin "object.__setattr__"))) : Cls K C := ⟨pg, hd, po, sa⟩
theorem kit_other {A B : Addr} {b : Bool} (hne : (Value.ref A == Value.ref B) = false) (h2 : PySem.W.isClsIn K B = true) (h3 : PySem.W.typeIn K (.ref B) = some (.type "type")) (h4 : PySem.W.subIn K (.ref A) (.ref B) = some b) : PySem.W.kitOne K (.ref A) (.ref B) = some b := by
  have e2 : ((PySem.W.clsIn K B).isSome && PySem.W.typeIn K (.ref B) == some (.type "type")) = true := by
    have h2' : (PySem.W.clsIn K B).isSome = true := h2
    rw [h2', h3] <;> rfl
  show (if (Value.ref A == Value.ref B) = true then some true else (if ((PySem.W.clsIn K B).isSome && PySem.W.typeIn K (.ref B) == some (.type "type")) = true then PySem.W.subIn K (.ref A) (.ref B) else none)) = some b
  rw [if_neg (by rw [hne]; exact Bool.false_ne_true), if_pos e2]
  exact h4
theorem kit_self {A : Addr} : PySem.W.kitOne K (.ref A) (.ref A) = some true := by
  show (if (Value.ref A == Value.ref A) = true then some true else PySem.W.kitCls K (.ref A) (.ref A)) = some true
  rw [if_pos (beq_self_eq_true _)]
theorem kit_ve {A : Addr} {b : Bool} (h4 : PySem.W.subIn K (.ref A) (.type "ValueError") = some b) : PySem.W.kitOne K (.ref A) (.type "ValueError") = some b := by
  show (if (Value.ref A == Value.type "ValueError") = true then some true else (if PySem.W.kitMeta "ValueError" = true then PySem.W.subIn K (.ref A) (.type "ValueError") else none)) = some b
  rw [if_neg (by intro z; have := eq_of_beq z; cases this), if_pos (by decide +kernel)]
  exact h4
theorem exm_mk {A B : Addr} {b : Bool} (h1 : PySem.W.subIn K (.ref B) (.type "BaseException") = some true) (h2 : PySem.W.isClsIn K B = true) (h3 : PySem.W.typeIn K (.ref B) = some (.type "type")) (h4 : PySem.W.subIn K (.ref A) (.ref B) = some b) : PySem.W.exmOne K (.ref A) (.ref B) = some b := by
  have e1 : (PySem.W.subIn K (.ref B) (.type "BaseException") == some true) = true := by rw [h1] <;> rfl
  have e2 : ((PySem.W.clsIn K B).isSome && PySem.W.typeIn K (.ref B) == some (.type "type")) = true := by
    have h2' : (PySem.W.clsIn K B).isSome = true := h2
    rw [h2', h3] <;> rfl
  show (if (PySem.W.subIn K (.ref B) (.type "BaseException") == some true) = true then (if ((PySem.W.clsIn K B).isSome && PySem.W.typeIn K (.ref B) == some (.type "type")) = true then PySem.W.subIn K (.ref A) (.ref B) else none) else none) = some b
  rw [if_pos e1, if_pos e2]
  exact h4
theorem any_of {A B D : Addr} {b1 b2 : Bool} (h1 : PySem.W.kitOne K (.ref A) (.ref B) = some b1) (h2 : PySem.W.kitOne K (.ref A) (.ref D) = some b2) (hb : (b1 || b2) = true) : PySem.W.kitAny K (.ref A) [.ref B, .ref D] = some true := by
  refine kitAny_cons h1 (fun e => ?_) (fun e => rfl)
  refine kitAny_cons h2 (fun e2 => ?_) (fun e2 => rfl)
  rw [e, e2] at hb
  cases hb
theorem is_mk (ha : PySem.W.findIn K (.ref C) "__class__" = some (some (.builtin "object.__class__"))) (hn : PySem.W.specialIn K (.builtin "object.__class__") "__get__" = some (some (.builtin "getset_descriptor.__get__"))) (ht : PySem.W.takesIn K (.builtin "object.__class__") = some true) (hm : PySem.W.mroIn K C (.type "object") = some true) : ClsIs K C := ⟨ha, hn, ht, hm⟩
theorem ctxt_mk (X : K.In h) (G : h.Ns mainGlobals mg) (aL : PySem.W.nsIn K mainGlobals "Lot" = some (some (.ref CL))) (aR : PySem.W.nsIn K mainGlobals "RawLot" = some (some (.ref CR))) (aB : PySem.W.nsIn K mainGlobals "Book" = some (some (.ref CB))) (cL : Cls K CL) (cR : Cls K CR) (cB : Cls K CB)
    (l1 : PySem.W.findIn K (.ref CL) "word" = some none) (l2 : PySem.W.findIn K (.ref CL) "makers" = some none) (l3 : PySem.W.findIn K (.ref CL) "leasts" = some none) (r1 : PySem.W.findIn K (.ref CR) "heads" = some none) (r2 : PySem.W.findIn K (.ref CR) "rounds" = some none) (b1 : PySem.W.findIn K (.ref CB) "lot" = some none) (b2 : PySem.W.findIn K (.ref CB) "tools" = some none)
    (iL : ClsIs K CL) (iR : ClsIs K CR) (ne1 : (Value.ref CL == Value.ref CR) = false) (ne2 : (Value.ref CR == Value.ref CL) = false) (k1 : PySem.W.isClsIn K CR = true) (k2 : PySem.W.typeIn K (.ref CR) = some (.type "type")) (k3 : PySem.W.subIn K (.ref CL) (.ref CR) = some false)
    (k4 : PySem.W.isClsIn K CL = true) (k5 : PySem.W.typeIn K (.ref CL) = some (.type "type")) (k6 : PySem.W.subIn K (.ref CR) (.ref CL) = some false) : CTxt K mg CL CR CB :=
  { gL := PySem.W.mg_of X G aL, gR := PySem.W.mg_of X G aR, gB := PySem.W.mg_of X G aB, cL := cL, cR := cR, cB := cB, lWord := l1, lMakers := l2, lLeasts := l3, rHeads := r1, rRounds := r2, bLot := b1, bTools := b2, iL := iL, iR := iR,
    kLR := kit_other ne1 k1 k2 k3, kRR := kit_self, kL := any_of kit_self (kit_other ne1 k1 k2 k3) rfl, kR := any_of (kit_other ne2 k4 k5 k6) kit_self rfl }
theorem fa_mk (X : K.In h) (G : h.Ns mainGlobals mg) (aF : PySem.W.nsIn K mainGlobals "Faulty" = some (some (.ref CF))) (nS : PySem.W.nsIn K mainGlobals "super" = some none)
    {nm q : Str} {N : Addr} {bs bm : List Value} {sn : List Str} {sub : List Value} {ab : Bool} {col : Option Bool} {dd : Option Addr} {k0 k1 k2 k3 k5 : Option Value}
    (xL : K.lookup CF = some (excClassObj nm q CF N bs bm true sn sub ab col dd k0 k1 k2 k3 k5 "ValueError.__new__")) (xv : PySem.HandSPX.refsVE bm = true)
    (sa : PySem.W.findIn K (.ref CF) "__setattr__" = some (some (.builtin "object.__setattr__"))) (noN : PySem.W.findIn K (.ref CF) "fault" = some none) (iC : PySem.W.findIn K (.ref CF) "__init__" = some (some (.ref fI))) (tC : PySem.W.typeIn K (.ref fI) = some (.type "function")) (kC : PySem.W.keepIn K (.ref CF) = true)
    (exC : PySem.W.subIn K (.ref CF) (.type "BaseException") = some true) (tyC : PySem.W.typeIn K (.ref CF) = some (.type "type")) (sup : PySem.W.ks_superIn K CF CF "__init__" = some (some (.builtin "ValueError.__init__"))) (ve : PySem.W.subIn K (.ref CF) (.type "ValueError") = some true) (mro : PySem.W.mroIn K CF (.ref CF) = some true)
    (opq : PySem.W.nsIn K cStatics "thirdparty.any" = some none) (top : (P.main.scope.names.lookup ("super" : Str)).isSome = false)
    {oc : Value} {od : Option Addr} {doc pm : Value} {an : Option Addr} {cda : Addr} {ct : Value} {cc : Addr} {osl : Array (Option Value)} {ccl : Value} {cdd : Option Addr} {vs : Array Value} {ccs : Array (Option Value)} {file : Str} {tf : Tok} {cl : Value} {cld : Option Addr} {csl : Array (Option Value)}
    (y1 : K.lookup fI = some ⟨oc, od, .func (PySem.W.ksFn "__init__" "Faulty.__init__" K8X.iA K8X.iB K8X.iS .none .none doc pm an (.ref cda) ct cc), osl⟩) (y2 : PySem.W.codeIn K (.ref cda) "Faulty.__init__" = true)
    (y3 : K.lookup cda = some ⟨ccl, cdd, .fields vs, ccs⟩) (y4 : vs[2]? = some (.str file tf)) (y5 : ((P.main.file : Str) == file) = true) (y6 : K.lookup cc = some ⟨cl, cld, .cell (some (.ref CF)), csl⟩) : K8X.FaTxt P K mg CF fI :=
  { gC := PySem.W.mg_of X G aF, gs := PySem.W.mg_none_of X G nS, cls := ⟨nm, q, N, bs, bm, sn, sub, ab, col, dd, k0, k1, k2, k3, k5, xL, xv⟩, sa := sa, noN := noN, iC := iC, tC := tC, kC := kC, exC := exC, tyC := tyC, sup := sup, ve := ve, mro := mro, opq := opq, top := top,
    fn := ⟨oc, od, doc, pm, an, cda, ct, cc, osl, ccl, cdd, vs, ccs, file, tf, cl, cld, csl, y1, y2, y3, y4, y5, y6⟩ }
theorem tk_mk (X : K.In h) (G : h.Ns mainGlobals mg) (aF : PySem.W.nsIn K mainGlobals "Faulty" = some (some (.ref CF))) (aE : PySem.W.nsIn K mainGlobals "CountsError" = some (some (.ref CE)))
    (h1 : PySem.W.subIn K (.ref CE) (.type "BaseException") = some true) (h2 : PySem.W.isClsIn K CE = true) (h3 : PySem.W.typeIn K (.ref CE) = some (.type "type")) (h4 : PySem.W.subIn K (.ref CF) (.ref CE) = some true)
    (ga : PySem.W.findIn K (.ref CF) "__getattribute__" = some (some (.builtin "BaseException.__getattribute__"))) (gg : PySem.W.findIn K (.ref CF) "__getattr__" = some none) (exC : PySem.W.subIn K (.ref CF) (.type "BaseException") = some true) (hd : PySem.W.hasDictIn K CF = true)
    (ha : PySem.W.findIn K (.ref CF) "__class__" = some (some (.builtin "object.__class__"))) (hn : PySem.W.specialIn K (.builtin "object.__class__") "__get__" = some (some (.builtin "getset_descriptor.__get__"))) (ht : PySem.W.takesIn K (.builtin "object.__class__") = some true) (hm : PySem.W.mroIn K CF (.type "object") = some true)
    (noN : PySem.W.findIn K (.ref CF) "fault" = some none) (ve : PySem.W.subIn K (.ref CF) (.type "ValueError") = some true) : TkTxt K mg CF CE :=
  { gE := PySem.W.mg_of X G aE, gF := PySem.W.mg_of X G aF, ex := exm_mk h1 h2 h3 h4, xc := ⟨ga, gg, exC, hd, ha, hn, ht, hm⟩, xf := ⟨ga, gg, exC, hd⟩, noN := noN, k1 := kit_self, k2 := kit_ve ve }
theorem df_mk {x : Str} {st : Stmt} {f : Addr} {oc kV dc pm cd ct : Value} {od an : Option Addr} {sl : Array (Option Value)} (h1 : PySem.W.nsIn K mainGlobals x = some (some (.ref f))) (h2 : K.lookup f = some ⟨oc, od, .func (PySem.W.fnOf x x (defArgs st) (defBody st) (defScope st) .none kV dc pm an cd ct), sl⟩)
    (h3 : PySem.W.codeIn K cd x = true) (h4 : PySem.W.keepIn K (.ref f) = true) : DF K x st := ⟨⟨f, oc, kV, dc, pm, cd, ct, od, an, sl, h1, h2, h3, h4⟩⟩
theorem dm_mk {m q : Str} {st : Stmt} {f : Addr} {oc kV dc pm cd ct : Value} {od an : Option Addr} {sl : Array (Option Value)} (h1 : PySem.W.findIn K (.ref C) m = some (some (.ref f))) (h2 : PySem.W.isFn K (.ref f) = true) (h3 : K.lookup f = some ⟨oc, od, .func (PySem.W.fnOf m q (defArgs st) (defBody st) (defScope st) .none kV dc pm an cd ct), sl⟩)
    (h4 : PySem.W.codeIn K cd q = true) (h5 : PySem.W.keepIn K (.ref f) = true) : DM K C m q st := ⟨⟨f, oc, kV, dc, pm, cd, ct, od, an, sl, h1, h2, h3, h4, h5⟩⟩
end
end K8
open PySem PySem.W PyProof.Rows
set_option maxHeartbeats 0 in
theorem PySem.Challenge.cw_usecounts_k08_whole_faults_and_kinds_holds : PySem.Challenge.rw_usecounts_k08_whole_faults_and_kinds.Holds := by
  w_on; o_law; k_head; (case hw => w_witness2)
  k_fill
  refine L2.walk_ofK (l := PySem.Challenge.rw_usecounts_k08_whole_faults_and_kinds) (n := 63) (k := 71) (x := "_law_script") (CX := L2.CX0) (sp := K8.sp_law) rfl (by decide) rfl ⟨rfl, by decide, by decide⟩ (fun w h Y => PySem.W.kIn_of Y) ?F (fun K H a ns hl _ hS => ⟨a, ns, rfl, hS, by omega, fun _ => rfl⟩) (fun _ _ _ _ z => z)
  case F =>
    intro w mg fa h KX G hmg
    refine' K8.all_ok KX G hmg (K8.txt_mk KX G ?n_len ?n_range ?n_isinstance ?n_set ?n_sorted ?n_enumerate ?n_int ?n_bool ?n_str ?n_tuple ?n_list ?n_dict ?n_abs ?n_min ?n_max ?n_all ?n_any ?n_ValueError ?cSMALL ?cMOST_SIGNS ?cLAST_LETTER ?cONCE ?cLOAN ?cFREE ?cMORE ?cMOST_MAKERS ?cMOST_MAKER ?cMOST_HEADS ?cMOST_ROUNDS ?cUSE ?cMOST_TOOLS ?cMOST_HANDED) (K8.ctxt_mk KX G ?aL ?aR ?aB (K8.cls_mk ?pgL ?hdL ?poL ?saL) (K8.cls_mk ?pgR ?hdR ?poR ?saR) (K8.cls_mk ?pgB ?hdB ?poB ?saB) ?l1 ?l2 ?l3 ?r1 ?r2 ?b1 ?b2 (K8.is_mk ?ha ?hn ?ht ?hm) (K8.is_mk ?haR ?hnR ?htR ?hmR) ?ne1 ?ne2 ?k1 ?k2 ?k3 ?k4 ?k5 ?k6) (K8.fa_mk KX G ?aF ?nS ?xL ?xv ?sa ?noN ?iC ?tC ?kC ?exC ?tyC ?sup ?ve ?mro ?opq ?top ?y1 ?y2 ?y3 ?y4 ?y5 ?y6) (K8.tk_mk KX G ?aF2 ?aE ?e1 ?e2 ?e3 ?e4 ?ga ?gg ?exC2 ?hdF ?haF ?hnF ?htF ?hmF ?noN2 ?ve2) ?makL ?makR ?makB ?kpL ?kpR ?kpB (K8.dm_mk ?Lk1 ?Lk2 ?Lk3 ?Lk4 ?Lk5) (K8.dm_mk ?Li1 ?Li2 ?Li3 ?Li4 ?Li5) (K8.dm_mk ?Ri1 ?Ri2 ?Ri3 ?Ri4 ?Ri5) (K8.dm_mk ?Bi1 ?Bi2 ?Bi3 ?Bi4 ?Bi5) (K8.df_mk ?d0a ?d0b ?d0c ?d0e) (K8.df_mk ?d1a ?d1b ?d1c ?d1e) (K8.df_mk ?d2a ?d2b ?d2c ?d2e) (K8.df_mk ?d3a ?d3b ?d3c ?d3e) (K8.df_mk ?d4a ?d4b ?d4c ?d4e) (K8.df_mk ?d5a ?d5b ?d5c ?d5e) (K8.df_mk ?d6a ?d6b ?d6c ?d6e) (K8.df_mk ?d7a ?d7b ?d7c ?d7e) (K8.df_mk ?d8a ?d8b ?d8c ?d8e) (K8.df_mk ?d9a ?d9b ?d9c ?d9e) (K8.df_mk ?d10a ?d10b ?d10c ?d10e) (K8.df_mk ?d11a ?d11b ?d11c ?d11e) (K8.df_mk ?d12a ?d12b ?d12c ?d12e) (K8.df_mk ?d13a ?d13b ?d13c ?d13e) (K8.df_mk ?d14a ?d14b ?d14c ?d14e) (K8.df_mk ?d15a ?d15b ?d15c ?d15e) (K8.df_mk ?d16a ?d16b ?d16c ?d16e) (K8.df_mk ?d17a ?d17b ?d17c ?d17e) (K8.df_mk ?d18a ?d18b ?d18c ?d18e) (K8.df_mk ?d19a ?d19b ?d19c ?d19e) (K8.df_mk ?d20a ?d20b ?d20c ?d20e) (K8.df_mk ?d21a ?d21b ?d21c ?d21e) (K8.df_mk ?d22a ?d22b ?d22c ?d22e) (K8.df_mk ?d23a ?d23b ?d23c ?d23e) (K8.df_mk ?d24a ?d24b ?d24c ?d24e) (K8.df_mk ?d25a ?d25b ?d25c ?d25e) (K8.df_mk ?d26a ?d26b ?d26c ?d26e) (K8.df_mk ?d27a ?d27b ?d27c ?d27e) (K8.df_mk ?d28a ?d28b ?d28c ?d28e) (K8.df_mk ?d29a ?d29b ?d29c ?d29e) (K8.df_mk ?d30a ?d30b ?d30c ?d30e) (K8.df_mk ?d31a ?d31b ?d31c ?d31e) (K8.df_mk ?d32a ?d32b ?d32c ?d32e) (K8.df_mk ?d33a ?d33b ?d33c ?d33e) (K8.df_mk ?d34a ?d34b ?d34c ?d34e) (K8.df_mk ?d35a ?d35b ?d35c ?d35e) (K8.df_mk ?d36a ?d36b ?d36c ?d36e) (K8.df_mk ?d37a ?d37b ?d37c ?d37e) (K8.df_mk ?d38a ?d38b ?d38c ?d38e) (K8.df_mk ?d39a ?d39b ?d39c ?d39e) (K8.df_mk ?d40a ?d40b ?d40c ?d40e) (K8.df_mk ?d41a ?d41b ?d41c ?d41e) (K8.df_mk ?d42a ?d42b ?d42c ?d42e) (K8.df_mk ?d43a ?d43b ?d43c ?d43e) (K8.df_mk ?d44a ?d44b ?d44c ?d44e) (K8.df_mk ?d45a ?d45b ?d45c ?d45e) (K8.df_mk ?d46a ?d46b ?d46c ?d46e) (K8.df_mk ?d47a ?d47b ?d47c ?d47e) (K8.df_mk ?d48a ?d48b ?d48c ?d48e) (K8.df_mk ?d49a ?d49b ?d49c ?d49e) (K8.df_mk ?d50a ?d50b ?d50c ?d50e) (K8.df_mk ?d51a ?d51b ?d51c ?d51e) (K8.df_mk ?d52a ?d52b ?d52c ?d52e) (K8.df_mk ?d53a ?d53b ?d53c ?d53e) (K8.df_mk ?d54a ?d54b ?d54c ?d54e) (K8.df_mk ?d55a ?d55b ?d55c ?d55e) (K8.df_mk ?d56a ?d56b ?d56c ?d56e) (K8.df_mk ?d57a ?d57b ?d57c ?d57e) (K8.df_mk ?d58a ?d58b ?d58c ?d58e) (K8.df_mk ?d59a ?d59b ?d59c ?d59e) (K8.df_mk ?d60a ?d60b ?d60c ?d60e)
    (case n_len => k_is); (case n_range => k_is); (case n_isinstance => k_is); (case n_set => k_is); (case n_sorted => k_is); (case n_enumerate => k_is)
    (case n_int => k_is); (case n_bool => k_is); (case n_str => k_is); (case n_tuple => k_is); (case n_list => k_is); (case n_dict => k_is)
    (case n_abs => k_is); (case n_min => k_is); (case n_max => k_is); (case n_all => k_is); (case n_any => k_is); (case n_ValueError => k_is)
    (case cSMALL => k_is); (case cMOST_SIGNS => k_is); (case cLAST_LETTER => k_is); (case cONCE => k_is); (case cLOAN => k_is); (case cFREE => k_is)
    (case cMORE => k_is); (case cMOST_MAKERS => k_is); (case cMOST_MAKER => k_is); (case cMOST_HEADS => k_is); (case cMOST_ROUNDS => k_is); (case cUSE => k_is)
    (case cMOST_TOOLS => k_is); (case cMOST_HANDED => k_is); (case aL => k_is); (case aR => k_is); (case aB => k_is); (case pgL => k_is)
    (case hdL => k_is); (case poL => k_is); (case saL => k_is); (case pgR => k_is); (case hdR => k_is); (case poR => k_is)
    (case saR => k_is); (case pgB => k_is); (case hdB => k_is); (case poB => k_is); (case saB => k_is); (case l1 => k_is)
    (case l2 => k_is); (case l3 => k_is); (case r1 => k_is); (case r2 => k_is); (case b1 => k_is); (case b2 => k_is)
    (case ha => k_is); (case hn => k_is); (case ht => k_is); (case hm => k_is); (case haR => k_is); (case hnR => k_is)
    (case htR => k_is); (case hmR => k_is); (case ne1 => first | k_is | rfl | decide +kernel); (case ne2 => first | k_is | rfl | decide +kernel); (case k1 => k_is); (case k2 => k_is)
    (case k3 => k_is); (case k4 => k_is); (case k5 => k_is); (case k6 => k_is); (case aF => k_is); (case nS => k_is)
    (case xL => k_is); (case xv => first | rfl | decide +kernel); (case sa => k_is); (case noN => k_is); (case iC => k_is); (case tC => k_is)
    (case kC => k_is); (case exC => k_is); (case tyC => k_is); (case sup => ks_is); (case ve => k_is); (case mro => k_is)
    (case opq => k_is); (case top => first | rfl | decide +kernel); (case y1 => k_is); (case y2 => k_is); (case y3 => k_is); (case y4 => first | rfl | decide +kernel)
    (case y5 => first | rfl | decide +kernel); (case y6 => k_is); (case aF2 => first | k_is | rfl | decide +kernel); (case aE => first | k_is | rfl | decide +kernel); (case e1 => first | k_is | rfl | decide +kernel); (case e2 => first | k_is | rfl | decide +kernel)
    (case e3 => first | k_is | rfl | decide +kernel); (case e4 => first | k_is | rfl | decide +kernel); (case ga => first | k_is | rfl | decide +kernel); (case gg => first | k_is | rfl | decide +kernel); (case exC2 => first | k_is | rfl | decide +kernel); (case hdF => first | k_is | rfl | decide +kernel)
    (case haF => first | k_is | rfl | decide +kernel); (case hnF => first | k_is | rfl | decide +kernel); (case htF => first | k_is | rfl | decide +kernel); (case hmF => first | k_is | rfl | decide +kernel); (case noN2 => first | k_is | rfl | decide +kernel); (case ve2 => first | k_is | rfl | decide +kernel)
    (case makL => k_is); (case makR => k_is); (case makB => k_is); (case kpL => k_is); (case kpR => k_is); (case kpB => k_is)
    (case Lk1 => k_is); (case Lk2 => k_is); (case Lk3 => k_is); (case Lk4 => k_is); (case Lk5 => k_is); (case Li1 => k_is)
    (case Li2 => k_is); (case Li3 => k_is); (case Li4 => k_is); (case Li5 => k_is); (case Ri1 => k_is); (case Ri2 => k_is)
    (case Ri3 => k_is); (case Ri4 => k_is); (case Ri5 => k_is); (case Bi1 => k_is); (case Bi2 => k_is); (case Bi3 => k_is)
    (case Bi4 => k_is); (case Bi5 => k_is); (case d0a => k_is); (case d0b => k_is); (case d0c => k_is); (case d0e => k_is)
    (case d1a => k_is); (case d1b => k_is); (case d1c => k_is); (case d1e => k_is); (case d2a => k_is); (case d2b => k_is)
    (case d2c => k_is); (case d2e => k_is); (case d3a => k_is); (case d3b => k_is); (case d3c => k_is); (case d3e => k_is)
    (case d4a => k_is); (case d4b => k_is); (case d4c => k_is); (case d4e => k_is); (case d5a => k_is); (case d5b => k_is)
    (case d5c => k_is); (case d5e => k_is); (case d6a => k_is); (case d6b => k_is); (case d6c => k_is); (case d6e => k_is)
    (case d7a => k_is); (case d7b => k_is); (case d7c => k_is); (case d7e => k_is); (case d8a => k_is); (case d8b => k_is)
    (case d8c => k_is); (case d8e => k_is); (case d9a => k_is); (case d9b => k_is); (case d9c => k_is); (case d9e => k_is)
    (case d10a => k_is); (case d10b => k_is); (case d10c => k_is); (case d10e => k_is); (case d11a => k_is); (case d11b => k_is)
    (case d11c => k_is); (case d11e => k_is); (case d12a => k_is); (case d12b => k_is); (case d12c => k_is); (case d12e => k_is)
    (case d13a => k_is); (case d13b => k_is); (case d13c => k_is); (case d13e => k_is); (case d14a => k_is); (case d14b => k_is)
    (case d14c => k_is); (case d14e => k_is); (case d15a => k_is); (case d15b => k_is); (case d15c => k_is); (case d15e => k_is)
    (case d16a => k_is); (case d16b => k_is); (case d16c => k_is); (case d16e => k_is); (case d17a => k_is); (case d17b => k_is)
    (case d17c => k_is); (case d17e => k_is); (case d18a => k_is); (case d18b => k_is); (case d18c => k_is); (case d18e => k_is)
    (case d19a => k_is); (case d19b => k_is); (case d19c => k_is); (case d19e => k_is); (case d20a => k_is); (case d20b => k_is)
    (case d20c => k_is); (case d20e => k_is); (case d21a => k_is); (case d21b => k_is); (case d21c => k_is); (case d21e => k_is)
    (case d22a => k_is); (case d22b => k_is); (case d22c => k_is); (case d22e => k_is); (case d23a => k_is); (case d23b => k_is)
    (case d23c => k_is); (case d23e => k_is); (case d24a => k_is); (case d24b => k_is); (case d24c => k_is); (case d24e => k_is)
    (case d25a => k_is); (case d25b => k_is); (case d25c => k_is); (case d25e => k_is); (case d26a => k_is); (case d26b => k_is)
    (case d26c => k_is); (case d26e => k_is); (case d27a => k_is); (case d27b => k_is); (case d27c => k_is); (case d27e => k_is)
    (case d28a => k_is); (case d28b => k_is); (case d28c => k_is); (case d28e => k_is); (case d29a => k_is); (case d29b => k_is)
    (case d29c => k_is); (case d29e => k_is); (case d30a => k_is); (case d30b => k_is); (case d30c => k_is); (case d30e => k_is)
    (case d31a => k_is); (case d31b => k_is); (case d31c => k_is); (case d31e => k_is); (case d32a => k_is); (case d32b => k_is)
    (case d32c => k_is); (case d32e => k_is); (case d33a => k_is); (case d33b => k_is); (case d33c => k_is); (case d33e => k_is)
    (case d34a => k_is); (case d34b => k_is); (case d34c => k_is); (case d34e => k_is); (case d35a => k_is); (case d35b => k_is)
    (case d35c => k_is); (case d35e => k_is); (case d36a => k_is); (case d36b => k_is); (case d36c => k_is); (case d36e => k_is)
    (case d37a => k_is); (case d37b => k_is); (case d37c => k_is); (case d37e => k_is); (case d38a => k_is); (case d38b => k_is)
    (case d38c => k_is); (case d38e => k_is); (case d39a => k_is); (case d39b => k_is); (case d39c => k_is); (case d39e => k_is)
    (case d40a => k_is); (case d40b => k_is); (case d40c => k_is); (case d40e => k_is); (case d41a => k_is); (case d41b => k_is)
    (case d41c => k_is); (case d41e => k_is); (case d42a => k_is); (case d42b => k_is); (case d42c => k_is); (case d42e => k_is)
    (case d43a => k_is); (case d43b => k_is); (case d43c => k_is); (case d43e => k_is); (case d44a => k_is); (case d44b => k_is)
    (case d44c => k_is); (case d44e => k_is); (case d45a => k_is); (case d45b => k_is); (case d45c => k_is); (case d45e => k_is)
    (case d46a => k_is); (case d46b => k_is); (case d46c => k_is); (case d46e => k_is); (case d47a => k_is); (case d47b => k_is)
    (case d47c => k_is); (case d47e => k_is); (case d48a => k_is); (case d48b => k_is); (case d48c => k_is); (case d48e => k_is)
    (case d49a => k_is); (case d49b => k_is); (case d49c => k_is); (case d49e => k_is); (case d50a => k_is); (case d50b => k_is)
    (case d50c => k_is); (case d50e => k_is); (case d51a => k_is); (case d51b => k_is); (case d51c => k_is); (case d51e => k_is)
    (case d52a => k_is); (case d52b => k_is); (case d52c => k_is); (case d52e => k_is); (case d53a => k_is); (case d53b => k_is)
    (case d53c => k_is); (case d53e => k_is); (case d54a => k_is); (case d54b => k_is); (case d54c => k_is); (case d54e => k_is)
    (case d55a => k_is); (case d55b => k_is); (case d55c => k_is); (case d55e => k_is); (case d56a => k_is); (case d56b => k_is)
    (case d56c => k_is); (case d56e => k_is); (case d57a => k_is); (case d57b => k_is); (case d57c => k_is); (case d57e => k_is)
    (case d58a => k_is); (case d58b => k_is); (case d58c => k_is); (case d58e => k_is); (case d59a => k_is); (case d59b => k_is)
    (case d59c => k_is); (case d59e => k_is); (case d60a => k_is); (case d60b => k_is); (case d60c => k_is); (case d60e => k_is)
