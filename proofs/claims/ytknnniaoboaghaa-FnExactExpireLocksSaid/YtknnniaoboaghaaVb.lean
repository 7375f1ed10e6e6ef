/- A logic over abstract states: what an operation does, and a region's operations in the text's order or in whatever order its edges allow. No conditions. -/
import Derived.Test.YtknnniaoboaghaaVa
namespace Go.V
open Go.RowKit (Below)
set_option linter.unusedSimpArgs false
set_option linter.unusedVariables false

def app : List (Nat × Option Blk) → Heap → Heap
  | [], h => h
  | (id, b) :: r, h => app r (upd h id b)

/-- What an operation does, whatever else has been done: in each context in which the blocks that it reads ('rd') are as in h. 'tot': it wants the whole heap as it is. Its names are from n on, below n'. -/
def OpOK (E : Env) (o : Oper) (t : Nat → V) (h : Heap) (n : Nat) (rd : List Nat) (tot : Bool) (v : V) (wr : List (Nat × Option Blk)) (n' : Nat) : Prop :=
  ∀ (c : Cx) (a : Act) (h2 : Heap) (K : Act → World → Prop) (Q : Exit → Act → World → Prop), a.defers = [] →
    (∀ x ∈ o.op.operands, VR c (E.eval t x) (a.eval x)) → Good E c h2 → (∀ id ∈ rd, h2 id = h id) → (tot = true → h2 = h ∧ ∀ id, n ≤ id → c.ρ id = none) →
    (∀ id, n ≤ id → id < n' → c.ρ id = none) →
    (∀ c' v', Ext c c' → Good E c' (app wr h2) → (∀ id, c'.ρ id ≠ none → c.ρ id ≠ none ∨ (n ≤ id ∧ id < n')) → VR c' v v' → K (a.put o.dst v') c'.w) →
    o.wp E.P a c.w K Q

/-- Of an operation's guard: is it to run? -/
theorem VR.undef (c : Cx) : VR c (.tup []) undef := .tup [] #[] rfl (by simp)

def guardV (ops : Array Oper) (t : Nat → V) (o : Oper) : Option Bool :=
  match o.guard with
  | none => some true
  | some (g, want) => match (ops[g]?).bind (·.dst) with
    | some d => match t d with
      | .bool b => some (b == want)
      | .tup [] => some false
      | _ => none
    | none => some false

theorem guard_ok {ops : Array Oper} {sz : Nat} {t : Nat → V} {c : Cx} {a : Act} (hs : Slots sz t c a) {o : Oper} {b : Bool} (h : guardV ops t o = some b) :
    Region.wanted o (yielded ops a.tmps) = b := by
  unfold guardV at h
  unfold Region.wanted
  cases hg : o.guard with
  | none => simp [hg] at h; simp [h]
  | some gw =>
    obtain ⟨g, want⟩ := gw
    simp only [hg] at h
    cases hd : (ops[g]?).bind (·.dst) with
    | none =>
      simp only [hd, Option.some.injEq] at h
      subst h
      simp [yielded, hd]
    | some d =>
      simp only [hd] at h
      have hv := hs.tmps d
      cases ht : t d with
      | bool x =>
        simp only [ht, Option.some.injEq] at h
        subst h
        rw [ht] at hv
        generalize hz : a.tmps.getD d undef = z at hv
        cases hv
        have hlt : d < a.tmps.size := by
          rcases Nat.lt_or_ge d a.tmps.size with hlt | hge
          · exact hlt
          · simp [undef, hge] at hz
        have : a.tmps[d]? = some (.bool x) := by
          simp [hlt] at hz
          simp [hlt, hz]
        simp [yielded, hd, this]
      | tup cs =>
        cases cs with
        | cons x cs => simp [ht] at h
        | nil =>
          simp only [ht, Option.some.injEq] at h
          subst h
          rw [ht] at hv
          have : ∀ x, a.tmps[d]? ≠ some (.bool x) := by
            intro x hx
            have : a.tmps.getD d undef = .bool x := by simp [hx]
            rw [this] at hv
            nomatch hv
          have hn : yielded ops a.tmps g = none := by
            unfold yielded
            rw [hd]
            cases hx : a.tmps[d]? with
            | none => simp [hx]
            | some y =>
              cases y with
              | bool x => exact absurd hx (this x)
              | _ => simp [hx]
          simp [hn]
      | _ => simp [ht] at h

structure Ef where
  skip : Bool
  v : V
  rd : List Nat
  tot : Bool
  wr : List (Nat × Option Blk)
  n : Nat
  n' : Nat

def dstOK (sz : Nat) : Option Nat → Bool
  | some d => decide (d < sz)
  | none => true

/-- The operations of a region, in the text's order. -/
inductive Runs (E : Env) (sz : Nat) (ops : Array Oper) : List Oper → (Nat → V) → Heap → Nat → List Ef → (Nat → V) → Heap → Nat → Prop
  | nil (t : Nat → V) (h : Heap) (n : Nat) : Runs E sz ops [] t h n [] t h n
  | skip (o : Oper) (l : List Oper) (t : Nat → V) (h : Heap) (n : Nat) (es : List Ef) (t' : Nat → V) (h' : Heap) (n' : Nat) (hd : dstOK sz o.dst = true) (hg : guardV ops t o = some false)
      (hr : Runs E sz ops l (updO t o.dst (.tup [])) h n es t' h' n') : Runs E sz ops (o :: l) t h n (⟨true, .tup [], [], false, [], n, n⟩ :: es) t' h' n'
  | op (o : Oper) (l : List Oper) (t : Nat → V) (h : Heap) (n : Nat) (rd : List Nat) (tot : Bool) (v : V) (wr : List (Nat × Option Blk)) (n1 : Nat) (es : List Ef) (t' : Nat → V) (h' : Heap) (n' : Nat)
      (hd : dstOK sz o.dst = true) (hg : guardV ops t o = some true) (hop : OpOK E o t h n rd tot v wr n1) (hn : n ≤ n1) (hz : wr = [] → tot = false → n = n1)
      (hr : Runs E sz ops l (updO t o.dst v) (app wr h) n1 es t' h' n') : Runs E sz ops (o :: l) t h n (⟨false, v, rd, tot, wr, n, n1⟩ :: es) t' h' n'

theorem dstOK_spec {sz : Nat} {d : Option Nat} (h : dstOK sz d = true) : ∀ i, d = some i → i < sz := by
  intro i hi; subst hi; simpa [dstOK] using h

theorem Runs.le {E : Env} {sz : Nat} {ops : Array Oper} {l : List Oper} {t : Nat → V} {h : Heap} {n : Nat} {es : List Ef} {t' : Nat → V} {h' : Heap} {n' : Nat} (hr : Runs E sz ops l t h n es t' h' n') : n ≤ n' := by
  induction hr with
  | nil => exact Nat.le_refl _
  | skip _ _ _ _ _ _ _ _ _ _ _ _ ih => exact ih
  | op _ _ _ _ _ _ _ _ _ _ _ _ _ _ _ _ _ hn _ _ ih => exact Nat.le_trans hn ih

/-- In the text's order. -/
theorem Runs.seq {E : Env} {sz : Nat} {ops : Array Oper} {l : List Oper} {t : Nat → V} {h : Heap} {n : Nat} {es : List Ef} {t' : Nat → V} {h' : Heap} {n' : Nat}
    (hr : Runs E sz ops l t h n es t' h' n') {Q : Exit → Act → World → Prop} :
    ∀ (c : Cx) (a : Act), Slots sz t c a → Good E c h → (∀ id, n ≤ id → c.ρ id = none) →
      (∀ c' a', Ext c c' → Slots sz t' c' a' → Good E c' h' → (∀ id, c'.ρ id ≠ none → c.ρ id ≠ none ∨ (n ≤ id ∧ id < n')) → Q .normal a' c'.w) → wpList E.P ops Q l a c.w := by
  induction hr with
  | nil t h n => intro c a hs hg hf hq; exact hq c a (Ext.refl c) hs hg (fun id h => .inl h)
  | skip o l t h n es t' h' n' hd hgd _ ih =>
    intro c a hs hg hf hq
    unfold wpList
    rw [if_neg (by rw [guard_ok hs hgd]; simp)]
    exact ih c _ (hs.put (dstOK_spec hd) (.undef _)) hg hf hq
  | op o l t h n rd tot v wr n1 es t' h' n' hd hgd hop hn _ hr ih =>
    intro c a hs hg hf hq
    unfold wpList
    rw [if_pos (guard_ok hs hgd)]
    refine .inl (hop c a h _ _ hs.defers (fun x _ => eval_ok hs hg x) hg (fun _ _ => rfl) (fun _ => ⟨rfl, hf⟩) (fun id h1 _ => hf id h1) ?_)
    intro c' v' he hg' hdom hv
    refine ih c' _ ((hs.mono he).put (dstOK_spec hd) hv) hg' (fun id hid => ?_) (fun c2 a2 he2 hs2 hg2 hd2 => hq c2 a2 (he.trans he2) hs2 hg2 (fun id hid => ?_))
    · cases hc : c'.ρ id with
      | none => rfl
      | some p =>
        rcases hdom id (by simp [hc]) with h1 | h1
        · exact absurd (hf id (by omega)) h1
        · omega
    · have := hr.le
      rcases hd2 id hid with h1 | h1
      · rcases hdom id h1 with h2 | h2
        · exact .inl h2
        · exact .inr (by omega)
      · exact .inr (by omega)

/-! The orders. -/

def foldT : List (Option Nat × Ef) → (Nat → Bool) → (Nat → V) → Nat → V
  | [], _, t => t
  | (d, e) :: r, S, t => foldT r (fun j => S (j + 1)) (if S 0 then updO t d e.v else t)

def foldH : List (Option Nat × Ef) → (Nat → Bool) → Heap → Heap
  | [], _, h => h
  | (_, e) :: r, S, h => foldH r (fun j => S (j + 1)) (if S 0 then app e.wr h else h)

theorem updO_ne {α : Type} (f : Nat → α) {d : Option Nat} {i : Nat} (v : α) (h : d ≠ some i) : updO f d v i = f i := by
  cases d with
  | none => rfl
  | some d => exact upd_ne f v (fun e => h (by rw [e]))

theorem updO_eq {α : Type} (f g : Nat → α) {d : Option Nat} {i : Nat} (v : α) (h : d = some i) : updO f d v i = updO g d v i := by
  subst h; simp [updO]

theorem app_ne (wr : List (Nat × Option Blk)) : ∀ (h : Heap) (id : Nat), id ∉ wr.map (·.1) → app wr h id = h id := by
  induction wr with
  | nil => intro h id _; rfl
  | cons x r ih =>
    intro h id hid
    obtain ⟨i, b⟩ := x
    simp only [List.map_cons, List.mem_cons, not_or] at hid
    simp only [app]
    rw [ih _ _ hid.2, upd_ne _ _ hid.1]

theorem app_mem (wr : List (Nat × Option Blk)) : ∀ (h g : Heap) (id : Nat), id ∈ wr.map (·.1) → app wr h id = app wr g id := by
  induction wr with
  | nil => intro h g id hid; simp at hid
  | cons x r ih =>
    intro h g id hid
    obtain ⟨i, b⟩ := x
    simp only [app]
    by_cases hr : id ∈ r.map (·.1)
    · exact ih _ _ _ hr
    · simp only [List.map_cons, List.mem_cons, hr, or_false] at hid
      rw [app_ne _ _ _ hr, app_ne _ _ _ hr]
      simp [hid, upd]

theorem foldT_congr (l : List (Option Nat × Ef)) : ∀ (S S' : Nat → Bool) (t t' : Nat → V) (i : Nat), t i = t' i →
    (∀ j d e, l[j]? = some (d, e) → S j ≠ S' j → d ≠ some i) → foldT l S t i = foldT l S' t' i := by
  induction l with
  | nil => intro S S' t t' i h _; exact h
  | cons x r ih =>
    intro S S' t t' i h hd
    obtain ⟨d, e⟩ := x
    simp only [foldT]
    refine ih _ _ _ _ i ?_ (fun j d' e' hj hne => hd (j + 1) d' e' (by simpa using hj) hne)
    have h0 := hd 0 d e (by simp)
    by_cases hdi : d = some i
    · have : S 0 = S' 0 := by
        by_cases hh : S 0 = S' 0
        · exact hh
        · exact absurd hdi (h0 hh)
      rw [this]
      split
      · exact updO_eq _ _ _ hdi
      · exact h
    · split <;> split <;> simp [updO_ne _ _ hdi, h]

theorem foldH_congr (l : List (Option Nat × Ef)) : ∀ (S S' : Nat → Bool) (h h' : Heap) (i : Nat), h i = h' i →
    (∀ j d e, l[j]? = some (d, e) → S j ≠ S' j → i ∉ e.wr.map (·.1)) → foldH l S h i = foldH l S' h' i := by
  induction l with
  | nil => intro S S' t t' i h _; exact h
  | cons x r ih =>
    intro S S' t t' i h hd
    obtain ⟨d, e⟩ := x
    simp only [foldH]
    refine ih _ _ _ _ i ?_ (fun j d' e' hj hne => hd (j + 1) d' e' (by simpa using hj) hne)
    have h0 := hd 0 d e (by simp)
    by_cases hdi : i ∈ e.wr.map (·.1)
    · have : S 0 = S' 0 := by
        by_cases hh : S 0 = S' 0
        · exact hh
        · exact absurd hdi (h0 hh)
      rw [this]
      split
      · exact app_mem _ _ _ _ hdi
      · exact h
    · split <;> split <;> simp [app_ne _ _ _ hdi, h]

theorem foldT_hit (l : List (Option Nat × Ef)) : ∀ (S : Nat → Bool) (t s : Nat → V) (i k : Nat) (d : Option Nat) (e : Ef), l[k]? = some (d, e) → S k = true → d = some i →
    (∀ j d' e', l[j]? = some (d', e') → k < j → S j = true → d' ≠ some i) → foldT l S t i = updO s d e.v i := by
  induction l with
  | nil => intro S t s i k d e h; simp at h
  | cons x r ih =>
    intro S t s i k d e hk hS hd hj
    obtain ⟨d0, e0⟩ := x
    simp only [foldT]
    cases k with
    | zero =>
      simp only [List.getElem?_cons_zero, Option.some.injEq, Prod.mk.injEq] at hk
      obtain ⟨rfl, rfl⟩ := hk
      rw [hS, if_pos rfl, foldT_congr r _ (fun _ => false) _ (updO t d0 e0.v) i rfl]
      · have hc : ∀ (l : List (Option Nat × Ef)) (t : Nat → V), foldT l (fun _ => false) t = t := by
          intro l; induction l with
          | nil => intro t; rfl
          | cons y l ih => intro t; obtain ⟨_, _⟩ := y; simp only [foldT]; exact ih t
        rw [hc]
        exact updO_eq _ _ _ hd
      · intro j d' e' hj' hne
        refine hj (j + 1) d' e' (by simpa using hj') (by omega) ?_
        simpa using hne
    | succ k =>
      exact ih _ _ s i k d e (by simpa using hk) hS hd (fun j d' e' h1 h2 h3 => hj (j + 1) d' e' (by simpa using h1) (by omega) h3)

theorem foldH_hit (l : List (Option Nat × Ef)) : ∀ (S : Nat → Bool) (t s : Heap) (i k : Nat) (d : Option Nat) (e : Ef), l[k]? = some (d, e) → S k = true → i ∈ e.wr.map (·.1) →
    (∀ j d' e', l[j]? = some (d', e') → k < j → S j = true → i ∉ e'.wr.map (·.1)) → foldH l S t i = app e.wr s i := by
  induction l with
  | nil => intro S t s i k d e h; simp at h
  | cons x r ih =>
    intro S t s i k d e hk hS hd hj
    obtain ⟨d0, e0⟩ := x
    simp only [foldH]
    cases k with
    | zero =>
      simp only [List.getElem?_cons_zero, Option.some.injEq, Prod.mk.injEq] at hk
      obtain ⟨rfl, rfl⟩ := hk
      rw [hS, if_pos rfl, foldH_congr r _ (fun _ => false) _ (app e0.wr t) i rfl]
      · have hc : ∀ (l : List (Option Nat × Ef)) (t : Heap), foldH l (fun _ => false) t = t := by
          intro l; induction l with
          | nil => intro t; rfl
          | cons y l ih => intro t; obtain ⟨_, _⟩ := y; simp only [foldH]; exact ih t
        rw [hc]
        exact app_mem _ _ _ _ hd
      · intro j d' e' hj' hne
        refine hj (j + 1) d' e' (by simpa using hj') (by omega) ?_
        simpa using hne
    | succ k =>
      exact ih _ _ s i k d e (by simpa using hk) hS hd (fun j d' e' h1 h2 h3 => hj (j + 1) d' e' (by simpa using h1) (by omega) h3)

end Go.V
