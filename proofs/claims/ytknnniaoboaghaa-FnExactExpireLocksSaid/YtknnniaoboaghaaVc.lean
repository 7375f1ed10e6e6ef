/- A logic over abstract states: a region that draws its order comes to what the text's order comes to. No conditions. -/
import Derived.Test.YtknnniaoboaghaaVb
namespace Go.V
open Go.RowKit (Below)
set_option linter.unusedSimpArgs false
set_option linter.unusedVariables false

def maskOf (o : Oper) (bl : List Nat) : Nat :=
  o.after.toList.foldl (fun s e => if Region.binds .any e then s ||| 2 ^ e.on ||| bl.getD e.on 0 else s) 0

def statOK (ops : Array Oper) (bl : List Nat) : Bool :=
  (List.range ops.size).all fun j => match ops[j]? with
    | none => true
    | some o => bl.getD j 0 == maskOf o bl && (o.after.toList.all fun e => !Region.binds .any e || decide (e.on < j)) && (match o.op with | .select .. => false | _ => true) &&
      (List.range j).all fun i => (bl.getD j 0).testBit i || (match ops[i]? with | some p => p.apart ops o | none => true)

/-- 0: touches no memory; 1: reads; 3: all else. -/
def Ef.cls (e : Ef) : Nat :=
  match e.tot, e.wr, e.rd with
  | false, [], [] => 0
  | false, [], _ => 1
  | _, _, _ => 3

def compat : Nat → Nat → Bool
  | 0, _ => true
  | _, 0 => true
  | 1, 1 => true
  | _, _ => false

def residE (size : Nat) (bl : List Nat) (es : List Ef) : List (Nat × Nat) :=
  (List.range size).flatMap fun j => (List.range j).filterMap fun i =>
    if (bl.getD j 0).testBit i then none else
    match es[i]?, es[j]? with
    | some e, some f => if compat e.cls f.cls then none else some (i, j)
    | _, _ => none

def ids (wr : List (Nat × Option Blk)) : List Nat := wr.map (·.1)

structure NoClash (e f : Ef) : Prop where
  wr : ∀ x ∈ ids e.wr, x ∉ f.rd ∧ x ∉ ids f.wr
  wl : ∀ x ∈ ids f.wr, x ∉ e.rd
  tr : e.tot = true → f.wr = [] ∧ f.tot = false
  tl : f.tot = true → e.wr = [] ∧ e.tot = false

theorem NoClash.symm {e f : Ef} (h : NoClash e f) : NoClash f e :=
  ⟨fun x hx => ⟨h.wl x hx, fun hy => (h.wr x hy).2 hx⟩, fun x hx => (h.wr x hx).1, h.tl, h.tr⟩

def ClearL (es : List Ef) : List (Nat × Nat) → Prop
  | [] => True
  | (i, j) :: r => (match es[i]?, es[j]? with
      | some e, some f => (e.tot = true → f.wr = [] ∧ f.tot = false) ∧ (f.tot = true → e.wr = [] ∧ e.tot = false) ∧ (∀ x ∈ ids e.wr, x ∉ f.rd ∧ x ∉ ids f.wr) ∧ (∀ x ∈ ids f.wr, x ∉ e.rd)
      | _, _ => True) ∧ ClearL es r

theorem ClearL.spec {es : List Ef} {rs : List (Nat × Nat)} (h : ClearL es rs) {i j : Nat} (hm : (i, j) ∈ rs) {e f : Ef} (he : es[i]? = some e) (hf : es[j]? = some f) : NoClash e f := by
  induction rs with
  | nil => simp at hm
  | cons x r ih =>
    obtain ⟨a, b⟩ := x
    obtain ⟨h1, h2⟩ := h
    simp only [List.mem_cons, Prod.mk.injEq] at hm
    rcases hm with ⟨rfl, rfl⟩ | hm
    · simp only [he, hf] at h1
      exact ⟨h1.2.2.1, h1.2.2.2, h1.1, h1.2.1⟩
    · exact ih h2 hm

theorem compat_clash {e f : Ef} (h : compat e.cls f.cls = true) : NoClash e f := by
  unfold Ef.cls at h
  obtain ⟨es, ev, erd, et, ewr, en, en'⟩ := e
  obtain ⟨fs, fv, frd, ft, fwr, fn, fn'⟩ := f
  cases et <;> cases ewr <;> cases erd <;> cases ft <;> cases fwr <;> cases frd <;> first
    | (simp [compat] at h; done)
    | (constructor <;> simp [ids]; done)

/-- The pairs that no edge orders. -/
def Un (bl : List Nat) (i j : Nat) : Prop := (i < j ∧ (bl.getD j 0).testBit i = false) ∨ (j < i ∧ (bl.getD i 0).testBit j = false)

theorem Un.clash {size : Nat} {bl : List Nat} {es : List Ef} {rs : List (Nat × Nat)} (hres : residE size bl es = rs) (hcl : ClearL es rs) {i j : Nat} (hi : i < size) (hj : j < size)
    (hu : Un bl i j) {e f : Ef} (he : es[i]? = some e) (hf : es[j]? = some f) : NoClash e f := by
  have key : ∀ a b (x y : Ef), a < b → b < size → (bl.getD b 0).testBit a = false → es[a]? = some x → es[b]? = some y → NoClash x y := by
    intro a b x y hab hb ht hx hy
    cases hc : compat x.cls y.cls with
    | true => exact compat_clash hc
    | false =>
      refine hcl.spec (i := a) (j := b) ?_ hx hy
      rw [← hres]
      unfold residE
      refine List.mem_flatMap.2 ⟨b, List.mem_range.2 hb, List.mem_filterMap.2 ⟨a, List.mem_range.2 hab, ?_⟩⟩
      rw [if_neg (by rw [ht]; simp), hx, hy]
      simp [hc]
  rcases hu with ⟨h1, h2⟩ | ⟨h1, h2⟩
  · exact key i j e f h1 hj h2 he hf
  · exact (key j i f e h1 hi h2 hf he).symm

theorem testBit_fold (l : List Edge) (bl : List Nat) : ∀ (s k : Nat), (l.foldl (fun s e => if Region.binds .any e then s ||| 2 ^ e.on ||| bl.getD e.on 0 else s) s).testBit k = true →
    s.testBit k = true ∨ ∃ e ∈ l, Region.binds .any e = true ∧ (e.on = k ∨ (bl.getD e.on 0).testBit k = true) := by
  induction l with
  | nil => intro s k h; exact .inl h
  | cons e r ih =>
    intro s k h
    simp only [List.foldl_cons] at h
    rcases ih _ k h with h1 | ⟨e', he', h2⟩
    · split at h1
      · rename_i hb
        simp only [Nat.testBit_or, Bool.or_eq_true, Nat.testBit_two_pow, decide_eq_true_eq] at h1
        rcases h1 with (h1 | h1) | h1
        · exact .inl h1
        · exact .inr ⟨e, by simp, hb, .inl h1⟩
        · exact .inr ⟨e, by simp, hb, .inr h1⟩
      · exact .inl h1
    · exact .inr ⟨e', by simp [he'], h2⟩

theorem stat_spec {ops : Array Oper} {bl : List Nat} (h : statOK ops bl = true) {j : Nat} {o : Oper} (ho : ops[j]? = some o) :
    (∀ k, (bl.getD j 0).testBit k = true → ∃ e ∈ o.after, Region.binds .any e = true ∧ (e.on = k ∨ (bl.getD e.on 0).testBit k = true)) ∧
    (∀ e ∈ o.after, Region.binds .any e = true → e.on < j) ∧ (∀ cs b, o.op ≠ .select cs b) ∧
    (∀ i p, i < j → ops[i]? = some p → (bl.getD j 0).testBit i = false → p.apart ops o = true) := by
  have hj : j < ops.size := (Array.getElem?_eq_some_iff.1 ho).1
  have h1 := (List.all_eq_true.1 h) j (List.mem_range.2 hj)
  simp only [ho, Bool.and_eq_true, beq_iff_eq] at h1
  obtain ⟨⟨⟨h2, h3⟩, h4⟩, h5⟩ := h1
  refine ⟨fun k hk => ?_, fun e he hb => ?_, fun cs b hc => by simp [hc] at h4, fun i p hi hp ht => ?_⟩
  · rw [h2] at hk
    rcases testBit_fold _ _ _ _ hk with h6 | ⟨e, he, h6⟩
    · simp at h6
    · exact ⟨e, by simpa using he, h6⟩
  · have := (List.all_eq_true.1 h3) e (by simpa using he)
    simpa [hb] using this
  · have := (List.all_eq_true.1 h5) i (List.mem_range.2 hi)
    rw [ht, hp] at this
    simpa using this

theorem Un.apart {ops : Array Oper} {bl : List Nat} (h : statOK ops bl = true) {i j : Nat} {o p : Oper} (ho : ops[i]? = some o) (hp : ops[j]? = some p) (hu : Un bl i j) :
    (∀ d, p.dst = some d → d ∉ o.looksAt ops) ∧ (∀ d, p.dst = some d → o.dst ≠ some d) := by
  rcases hu with ⟨h1, h2⟩ | ⟨h1, h2⟩
  · have := Oper.apart_spec ((stat_spec h hp).2.2.2 i o h1 ho h2)
    exact ⟨this.2.2, fun d hd hd' => this.2.1 d hd' hd⟩
  · have := Oper.apart_spec ((stat_spec h ho).2.2.2 j p h1 hp h2)
    exact ⟨this.1, fun d hd hd' => this.2.1 d hd hd'⟩

/-! What a run in the text's order tells of each operation. -/

structure OpFact (E : Env) (sz : Nat) (ops : Array Oper) (o : Oper) (e : Ef) (t : Nat → V) (h : Heap) : Prop where
  dst : dstOK sz o.dst = true
  le : e.n ≤ e.n'
  same : e.wr = [] → e.tot = false → e.n = e.n'
  does : (e.skip = true ∧ guardV ops t o = some false ∧ e.v = .tup [] ∧ e.wr = [] ∧ e.rd = [] ∧ e.tot = false) ∨
    (e.skip = false ∧ guardV ops t o = some true ∧ OpOK E o t h e.n e.rd e.tot e.v e.wr e.n')

theorem getElem?_zip {α β : Type} {l : List α} {m : List β} {i : Nat} {x : α} {y : β} (h : l[i]? = some x) (k : m[i]? = some y) : (l.zip m)[i]? = some (x, y) := by
  simp [List.getElem?_zip_eq_some, h, k]

theorem Runs.facts {E : Env} {sz : Nat} {ops : Array Oper} {l : List Oper} {t : Nat → V} {h : Heap} {n : Nat} {es : List Ef} {t' : Nat → V} {h' : Heap} {n' : Nat}
    (hr : Runs E sz ops l t h n es t' h' n') :
    es.length = l.length ∧ n ≤ n' ∧ t' = foldT ((l.map (·.dst)).zip es) (fun _ => true) t ∧ h' = foldH ((l.map (·.dst)).zip es) (fun _ => true) h ∧
    (∀ (i : Nat) (e : Ef), es[i]? = some e → n ≤ e.n ∧ e.n ≤ e.n' ∧ e.n' ≤ n' ∧ ∀ (j : Nat) (f : Ef), es[j]? = some f → i < j → e.n' ≤ f.n) ∧
    (∀ (i : Nat) (o : Oper) (e : Ef), l[i]? = some o → es[i]? = some e →
      OpFact E sz ops o e (foldT ((l.map (·.dst)).zip es) (fun j => decide (j < i)) t) (foldH ((l.map (·.dst)).zip es) (fun j => decide (j < i)) h)) := by
  have foldT_none : ∀ (l : List (Option Nat × Ef)) (t : Nat → V), foldT l (fun _ => false) t = t := by
    intro l; induction l with
    | nil => intro t; rfl
    | cons y l ih => intro t; obtain ⟨_, _⟩ := y; simp only [foldT]; exact ih t
  have foldH_none : ∀ (l : List (Option Nat × Ef)) (t : Heap), foldH l (fun _ => false) t = t := by
    intro l; induction l with
    | nil => intro t; rfl
    | cons y l ih => intro t; obtain ⟨_, _⟩ := y; simp only [foldH]; exact ih t
  have sh : ∀ i : Nat, (fun j => decide (j + 1 < i + 1)) = (fun j => decide (j < i)) := fun i => by funext j; simp
  have sz0 : (fun j => decide (j + 1 < 0)) = (fun _ => false) := by funext j; simp
  have s00 : (fun j : Nat => decide (j < 0)) = (fun _ => false) := by funext j; simp
  induction hr with
  | nil t h n => exact ⟨rfl, Nat.le_refl _, rfl, rfl, by simp, by simp⟩
  | skip o l t h n es t' h' n' hd hg _ ih =>
    obtain ⟨h1, h2, h3, h4, h5, h6⟩ := ih
    refine ⟨by simp [h1], h2, by simp only [List.map_cons, List.zip_cons_cons, foldT]; exact h3, by simp only [List.map_cons, List.zip_cons_cons, foldH]; exact h4, ?_, ?_⟩
    · intro i e he
      cases i with
      | zero =>
        simp only [List.getElem?_cons_zero, Option.some.injEq] at he
        subst he
        refine ⟨Nat.le_refl _, Nat.le_refl _, h2, fun j f hf hj => ?_⟩
        cases j with
        | zero => omega
        | succ j => exact (h5 j f (by simpa using hf)).1
      | succ i =>
        obtain ⟨a1, a2, a3, a4⟩ := h5 i e (by simpa using he)
        refine ⟨a1, a2, a3, fun j f hf hj => ?_⟩
        cases j with
        | zero => omega
        | succ j => exact a4 j f (by simpa using hf) (by omega)
    · intro i p e hp he
      cases i with
      | zero =>
        simp only [List.getElem?_cons_zero, Option.some.injEq] at hp he
        subst hp; subst he
        simp only [List.map_cons, List.zip_cons_cons, foldT, foldH, s00, foldT_none, foldH_none, Bool.false_eq_true, if_false]
        exact ⟨hd, Nat.le_refl _, fun _ _ => rfl, .inl ⟨rfl, hg, rfl, rfl, rfl, rfl⟩⟩
      | succ i =>
        have := h6 i p e (by simpa using hp) (by simpa using he)
        simp only [List.map_cons, List.zip_cons_cons, foldT, foldH, sh]
        simpa [app] using this
  | op o l t h n rd tot v wr n1 es t' h' n' hd hg hop hn hz _ ih =>
    obtain ⟨h1, h2, h3, h4, h5, h6⟩ := ih
    refine ⟨by simp [h1], Nat.le_trans hn h2, by simp only [List.map_cons, List.zip_cons_cons, foldT]; exact h3, by simp only [List.map_cons, List.zip_cons_cons, foldH]; exact h4, ?_, ?_⟩
    · intro i e he
      cases i with
      | zero =>
        simp only [List.getElem?_cons_zero, Option.some.injEq] at he
        subst he
        refine ⟨Nat.le_refl _, hn, h2, fun j f hf hj => ?_⟩
        cases j with
        | zero => omega
        | succ j => exact (h5 j f (by simpa using hf)).1
      | succ i =>
        obtain ⟨a1, a2, a3, a4⟩ := h5 i e (by simpa using he)
        refine ⟨Nat.le_trans hn a1, a2, a3, fun j f hf hj => ?_⟩
        cases j with
        | zero => omega
        | succ j => exact a4 j f (by simpa using hf) (by omega)
    · intro i p e hp he
      cases i with
      | zero =>
        simp only [List.getElem?_cons_zero, Option.some.injEq] at hp he
        subst hp; subst he
        simp only [List.map_cons, List.zip_cons_cons, foldT, foldH, s00, foldT_none, foldH_none, Bool.false_eq_true, if_false]
        exact ⟨hd, hn, hz, .inr ⟨rfl, hg, hop⟩⟩
      | succ i =>
        have := h6 i p e (by simpa using hp) (by simpa using he)
        simp only [List.map_cons, List.zip_cons_cons, foldT, foldH, sh]
        simpa using this

/-- What 'listed' says of an index. -/
def inS (listed : Array Bool) (j : Nat) : Bool := listed.getD j false

/-- How many are not listed. -/
def unl (listed : Array Bool) : Nat := listed.toList.count false

theorem unl_set {listed : Array Bool} {i : Nat} (h : listed.getD i true = false) : unl (listed.setIfInBounds i true) + 1 = unl listed := by
  have hi : i < listed.size := by
    rcases Nat.lt_or_ge i listed.size with h' | h'
    · exact h'
    · simp [Array.getElem?_eq_none h'] at h
  have hv : listed[i] = false := by simpa [hi] using h
  unfold unl
  have h1 : (listed.setIfInBounds i true).toList = listed.toList.set i true := by simp
  rw [h1, List.count_set (by simpa using hi)]
  have h2 : listed.toList[i]'(by simpa using hi) = false := by simpa using hv
  have h3 : 0 < listed.toList.count false := by
    rw [List.count_pos_iff]
    rw [← h2]
    exact List.getElem_mem _
  have e1 : (false == false) = true := rfl
  have e2 : (true == false) = false := rfl
  simp only [h2, e1, e2, if_true, Bool.false_eq_true, if_false]
  omega

theorem unl_zero {listed : Array Bool} (h : unl listed = 0) {i : Nat} (hi : i < listed.size) : listed.getD i false = true := by
  unfold unl at h
  rw [List.count_eq_zero] at h
  have : listed[i] ≠ false := fun e => h (by rw [← e]; simp)
  simpa [hi] using this

section draw
variable {E : Env} {sz : Nat} {ops : Array Oper} {t : Nat → V} {h : Heap} {n : Nat} {es : List Ef} {t' : Nat → V} {h' : Heap} {n' : Nat}

/-- All that is ready at some point has an effect that it had in the text's order. -/
theorem draw_any (bl : List Nat) (rs : List (Nat × Nat)) (hst : statOK ops bl = true) (hr : Runs E sz ops ops.toList t h n es t' h' n')
    (hres : residE ops.size bl es = rs) (hcl : ClearL es rs) {Q : Exit → Act → World → Prop} (c0 : Cx) (hf0 : ∀ id, n ≤ id → c0.ρ id = none)
    (hq : ∀ c' a', Ext c0 c' → Slots sz t' c' a' → Good E c' h' → (∀ id, c'.ρ id ≠ none → c0.ρ id ≠ none ∨ (n ≤ id ∧ id < n')) → Q .normal a' c'.w) :
    ∀ (fuel : Nat) (listed : Array Bool) (c : Cx) (a : Act), listed.size = ops.size → (∀ j, inS listed j = true → ∀ k, (bl.getD j 0).testBit k = true → inS listed k = true) → Ext c0 c →
      Slots sz (foldT ((ops.toList.map (·.dst)).zip es) (inS listed) t) c a → Good E c (foldH ((ops.toList.map (·.dst)).zip es) (inS listed) h) →
      (∀ id, c.ρ id ≠ none → c0.ρ id ≠ none ∨ ∃ j e, es[j]? = some e ∧ inS listed j = true ∧ e.n ≤ id ∧ id < e.n') → unl listed ≤ fuel → wpAny E.P .any ops Q fuel listed a c.w := by
  obtain ⟨f1, f2, f3, f4, f5, f6⟩ := hr.facts
  have hsome : ∀ i, i < ops.size → ∃ o e, ops[i]? = some o ∧ es[i]? = some e := fun i hi =>
    ⟨ops[i], es[i]'(by simp [f1, hi]), by simp [hi], by simp [f1, hi]⟩
  -- where all is listed, the end
  have fin : ∀ (listed : Array Bool) (c : Cx) (a : Act), listed.size = ops.size → Ext c0 c → Slots sz (foldT ((ops.toList.map (·.dst)).zip es) (inS listed) t) c a →
      Good E c (foldH ((ops.toList.map (·.dst)).zip es) (inS listed) h) → (∀ id, c.ρ id ≠ none → c0.ρ id ≠ none ∨ ∃ j e, es[j]? = some e ∧ inS listed j = true ∧ e.n ≤ id ∧ id < e.n') →
      (∀ i, i < ops.size → inS listed i = true) → Q .normal a c.w := by
    intro listed c a hsz hx hs hg hd hall
    have hlt : ∀ j d e, ((ops.toList.map (·.dst)).zip es)[j]? = some (d, e) → j < ops.size := by
      intro j d e hj
      have := (List.getElem?_eq_some_iff.1 hj).1
      simp only [List.length_zip, List.length_map, Array.length_toList] at this
      omega
    have ht : foldT ((ops.toList.map (·.dst)).zip es) (inS listed) t = t' := by
      rw [f3]; funext i
      exact foldT_congr _ _ _ _ _ i rfl (fun j d e hj hne => absurd (hall j (hlt j d e hj)) hne)
    have hh : foldH ((ops.toList.map (·.dst)).zip es) (inS listed) h = h' := by
      rw [f4]; funext i
      exact foldH_congr _ _ _ _ _ i rfl (fun j d e hj hne => absurd (hall j (hlt j d e hj)) hne)
    rw [ht] at hs
    rw [hh] at hg
    refine hq c a hx hs hg (fun id hid => ?_)
    rcases hd id hid with h1 | ⟨j, e, he, _, h2, h3⟩
    · exact .inl h1
    · have := (f5 j e he).2.2.1
      have := (f5 j e he).1
      exact .inr (by omega)
  -- where nothing is ready, all is listed
  have rdy : ∀ (listed : Array Bool), listed.size = ops.size → Region.ready .any ops listed = [] → ∀ i, i < ops.size → inS listed i = true := by
    intro listed hsz hr0 i
    induction i using Nat.strongRecOn with
    | _ i ih =>
      intro hi
      obtain ⟨o, e, ho, he⟩ := hsome i hi
      cases hc : inS listed i with
      | true => rfl
      | false =>
        have : i ∈ Region.ready .any ops listed := by
          rw [mem_ready]
          refine ⟨by simpa [inS, hsz, hi] using hc, o, ho, fun ed hed hb => ?_⟩
          have hlt := (stat_spec hst ho).2.1 ed hed hb
          exact ih ed.on hlt (by omega)
        rw [hr0] at this
        simp at this
  intro fuel
  induction fuel with
  | zero =>
    intro listed c a hsz hcl' hx hs hg hd hu
    have hall : ∀ i, i < ops.size → inS listed i = true := fun i hi => unl_zero (by omega) (by omega)
    refine ⟨?_, fin listed c a hsz hx hs hg hd hall⟩
    rw [List.eq_nil_iff_forall_not_mem]
    intro i hi
    obtain ⟨h0, o, ho, _⟩ := mem_ready.1 hi
    have hlt : i < ops.size := (Array.getElem?_eq_some_iff.1 ho).1
    have := hall i hlt
    simp [inS, hsz, hlt] at this h0
    simp [this] at h0
  | succ fuel ih =>
    intro listed c a hsz hcl' hx hs hg hd hu
    refine ⟨fun hr0 => fin listed c a hsz hx hs hg hd (rdy listed hsz hr0), fun i hi => ?_⟩
    obtain ⟨h0, o, ho, hed⟩ := mem_ready.1 hi
    have hlt : i < ops.size := (Array.getElem?_eq_some_iff.1 ho).1
    have hSi : inS listed i = false := by simpa [inS, hsz, hlt] using h0
    obtain ⟨o', e, ho', he⟩ := hsome i hlt
    rw [ho] at ho'; obtain rfl := Option.some.inj ho'
    have hbi : ∀ k, (bl.getD i 0).testBit k = true → inS listed k = true := by
      intro k hk
      obtain ⟨ed, hed1, hb, h2⟩ := (stat_spec hst ho).1 k hk
      have h3 : inS listed ed.on = true := hed ed hed1 hb
      rcases h2 with rfl | h2
      · exact h3
      · exact hcl' _ h3 k h2
    -- what differs from the text's order at i
    have hun : ∀ j, j < ops.size → inS listed j ≠ decide (j < i) → j ≠ i ∧ Un bl i j := by
      intro j hj hne
      by_cases hji : j < i
      · refine ⟨by omega, .inr ⟨hji, ?_⟩⟩
        cases hb : (bl.getD i 0).testBit j with
        | false => rfl
        | true => exact absurd (by rw [hbi j hb]; simp [hji]) hne
      · have hSj : inS listed j = true := by
          cases hb : inS listed j with
          | true => rfl
          | false => exact absurd (by rw [hb]; simp [hji]) hne
        have hne' : j ≠ i := fun e => by rw [e, hSi] at hSj; simp at hSj
        refine ⟨hne', .inl ⟨by omega, ?_⟩⟩
        cases hb : (bl.getD j 0).testBit i with
        | false => rfl
        | true => have := hcl' j hSj i hb; rw [hSi] at this; simp at this
    have hzip : ∀ j d f, ((ops.toList.map (·.dst)).zip es)[j]? = some (d, f) → ∃ p, ops[j]? = some p ∧ d = p.dst ∧ es[j]? = some f ∧ j < ops.size := by
      intro j d f hj
      rw [List.getElem?_zip_eq_some] at hj
      obtain ⟨h1, h2⟩ := hj
      rw [List.getElem?_map] at h1
      cases hp : ops.toList[j]? with
      | none => simp [hp] at h1
      | some p =>
        simp only [hp, Option.map_some, Option.some.injEq] at h1
        refine ⟨p, by simpa using hp, h1.symm, h2, ?_⟩
        have := (List.getElem?_eq_some_iff.1 hp).1
        simpa using this
    have hzi : ((ops.toList.map (·.dst)).zip es)[i]? = some (o.dst, e) := getElem?_zip (by simp [List.getElem?_map, ho]) he
    have hfact := f6 i o e (by simpa using ho) he
    -- slots that i looks at
    have hlook : ∀ d, d ∈ o.looksAt ops → foldT ((ops.toList.map (·.dst)).zip es) (inS listed) t d = foldT ((ops.toList.map (·.dst)).zip es) (fun j => decide (j < i)) t d := by
      intro d hdl
      refine foldT_congr _ _ _ _ _ d rfl (fun j dj f hj hne hdj => ?_)
      obtain ⟨p, hp, rfl, hf, hjs⟩ := hzip j dj f hj
      exact ((hun j hjs hne).2.apart hst ho hp).1 d hdj hdl
    have hclash : ∀ j f, j < ops.size → es[j]? = some f → inS listed j ≠ decide (j < i) → NoClash e f := fun j f hj hf hne =>
      Un.clash hres hcl hlt hj (hun j hj hne).2 he hf
    have hheap : ∀ id, id ∈ e.rd → foldH ((ops.toList.map (·.dst)).zip es) (inS listed) h id = foldH ((ops.toList.map (·.dst)).zip es) (fun j => decide (j < i)) h id := by
      intro id hid
      refine foldH_congr _ _ _ _ _ id rfl (fun j dj f hj hne hdj => ?_)
      obtain ⟨p, hp, rfl, hf, hjs⟩ := hzip j dj f hj
      exact (hclash j f hjs hf hne).wl id hdj hid
    -- the next state
    have hS' : ∀ j, inS (listed.setIfInBounds i true) j = if j = i then true else inS listed j := by
      intro j
      by_cases hji : j = i
      · subst hji; simp [inS, hsz, hlt]
      · rw [if_neg hji]; unfold inS; exact getD_set_ne false (Ne.symm hji)
    have hnext : ∀ (c' : Cx) (v' : Value), Ext c c' → Good E c' (app e.wr (foldH ((ops.toList.map (·.dst)).zip es) (inS listed) h)) →
        (∀ id, c'.ρ id ≠ none → c.ρ id ≠ none ∨ (e.n ≤ id ∧ id < e.n')) → VR c' e.v v' → wpAny E.P .any ops Q fuel (listed.setIfInBounds i true) (a.put o.dst v') c'.w := by
      intro c' v' hx' hg' hd' hv'
      have hT : foldT ((ops.toList.map (·.dst)).zip es) (inS (listed.setIfInBounds i true)) t = updO (foldT ((ops.toList.map (·.dst)).zip es) (inS listed) t) o.dst e.v := by
        funext k
        by_cases hk : o.dst = some k
        · refine foldT_hit _ _ _ _ k i o.dst e hzi (by rw [hS' i, if_pos rfl]) hk (fun j dj f hj hij hSj hdk => ?_)
          obtain ⟨p, hp, rfl, hf, hjs⟩ := hzip j dj f hj
          have hne : inS listed j ≠ decide (j < i) := by
            rw [hS' j, if_neg (by omega)] at hSj
            rw [hSj]; simp; omega
          exact ((hun j hjs hne).2.apart hst ho hp).2 k hdk hk
        · rw [updO_ne _ _ hk]
          refine foldT_congr _ _ _ _ _ k rfl (fun j dj f hj hne hdk => ?_)
          rw [hS' j] at hne
          by_cases hji : j = i
          · subst hji; rw [hzi] at hj; simp only [Option.some.injEq, Prod.mk.injEq] at hj; exact hk (hj.1.trans hdk)
          · rw [if_neg hji] at hne; exact hne rfl
      have hH : foldH ((ops.toList.map (·.dst)).zip es) (inS (listed.setIfInBounds i true)) h = app e.wr (foldH ((ops.toList.map (·.dst)).zip es) (inS listed) h) := by
        funext k
        by_cases hk : k ∈ e.wr.map (·.1)
        · refine foldH_hit _ _ _ _ k i o.dst e hzi (by rw [hS' i, if_pos rfl]) hk (fun j dj f hj hij hSj hdk => ?_)
          obtain ⟨p, hp, rfl, hf, hjs⟩ := hzip j dj f hj
          have hne : inS listed j ≠ decide (j < i) := by
            rw [hS' j, if_neg (by omega)] at hSj
            rw [hSj]; simp; omega
          exact ((hclash j f hjs hf hne).wr k hk).2 hdk
        · rw [app_ne _ _ _ hk]
          refine foldH_congr _ _ _ _ _ k rfl (fun j dj f hj hne hdk => ?_)
          rw [hS' j] at hne
          by_cases hji : j = i
          · subst hji; rw [hzi] at hj; simp only [Option.some.injEq, Prod.mk.injEq] at hj; rw [← hj.2] at hdk; exact hk hdk
          · rw [if_neg hji] at hne; exact hne rfl
      refine ih _ c' _ (by simpa using hsz) ?_ (hx.trans hx') (by rw [hT]; exact (hs.mono hx').put (dstOK_spec hfact.dst) hv') (by rw [hH]; exact hg') ?_ ?_
      · intro j hj k hk
        rw [hS' k]
        rw [hS' j] at hj
        split
        · rfl
        · split at hj
          · rename_i hji; subst hji; exact hbi k hk
          · exact hcl' j hj k hk
      · intro id hid
        rcases hd' id hid with h1 | h1
        · rcases hd id h1 with h2 | ⟨j, f, hf, hSj, h3⟩
          · exact .inl h2
          · refine .inr ⟨j, f, hf, ?_, h3⟩
            rw [hS' j]; split
            · rfl
            · exact hSj
        · exact .inr ⟨i, e, he, by rw [hS' i, if_pos rfl], h1⟩
      · have := unl_set h0
        omega
    -- the step
    unfold wpOp
    simp only [ho]
    have hgv : ∀ b, guardV ops (foldT ((ops.toList.map (·.dst)).zip es) (fun j => decide (j < i)) t) o = some b → Region.wanted o (yielded ops a.tmps) = b := by
      intro b hb
      refine guard_ok hs ?_
      rw [← hb]
      unfold guardV
      cases hgd : o.guard with
      | none => rfl
      | some gw =>
        obtain ⟨g, want⟩ := gw
        cases hgo : (ops[g]?).bind (·.dst) with
        | none => simp only [hgo]
        | some d =>
          simp only [hgo]
          rw [hlook d (by simp [Oper.looksAt, hgd, hgo])]
    rcases hfact.does with ⟨hsk, hgd, hv, hwr, hrd, htot⟩ | ⟨hsk, hgd, hop⟩
    · rw [if_neg (by rw [hgv _ hgd]; simp)]
      refine hnext c undef (Ext.refl c) ?_ (fun id hid => .inl hid) (by rw [hv]; exact .undef _)
      rw [hwr]; exact hg
    · rw [if_pos (hgv _ hgd)]
      refine .inl (hop c a _ _ _ hs.defers (fun x hxo => ?_) hg hheap (fun htot => ⟨?_, fun id hid => ?_⟩) (fun id hid1 hid2 => ?_) hnext)
      · have h1 := eval_ok hs hg x
        have : E.eval (foldT ((ops.toList.map (·.dst)).zip es) (inS listed) t) x = E.eval (foldT ((ops.toList.map (·.dst)).zip es) (fun j => decide (j < i)) t) x := by
          cases x with
          | tmp d => exact hlook d (by simp only [Oper.looksAt]; exact List.mem_append_left _ (List.mem_filterMap.2 ⟨.tmp d, by simpa using hxo, rfl⟩))
          | _ => rfl
        rw [← this]; exact h1
      · funext id
        refine foldH_congr _ _ _ _ _ id rfl (fun j dj f hj hne hdj => ?_)
        obtain ⟨p, hp, rfl, hf, hjs⟩ := hzip j dj f hj
        have := ((hclash j f hjs hf hne).tr htot).1
        rw [this] at hdj; simp at hdj
      · cases hc : c.ρ id with
        | none => rfl
        | some p =>
          rcases hd id (by simp [hc]) with h1 | ⟨j, f, hf, hSj, h2, h3⟩
          · exact absurd (hf0 id (by have := (f5 i e he).1; omega)) h1
          · have hjs : j < ops.size := by
              have := (List.getElem?_eq_some_iff.1 hf).1
              simp only [f1, Array.length_toList] at this; exact this
            by_cases hji : j < i
            · have := (f5 j f hf).2.2.2 i e he hji; omega
            · have hne : inS listed j ≠ decide (j < i) := by rw [hSj]; simp; omega
              have hcz := (hclash j f hjs hf hne).tr htot
              obtain ⟨p', e', hp', he'⟩ := hsome j hjs
              rw [hf] at he'; obtain rfl := Option.some.inj he'
              have := (f6 j p' f (by simpa using hp') hf).same hcz.1 hcz.2
              omega
      · cases hc : c.ρ id with
        | none => rfl
        | some p =>
          rcases hd id (by simp [hc]) with h1 | ⟨j, f, hf, hSj, h2, h3⟩
          · exact absurd (hf0 id (by have := (f5 i e he).1; omega)) h1
          · have hji : j ≠ i := fun ej => by rw [ej, hSi] at hSj; simp at hSj
            rcases Nat.lt_or_gt_of_ne hji with hlt' | hgt
            · have := (f5 j f hf).2.2.2 i e he hlt'; omega
            · have := (f5 i e he).2.2.2 j f hf hgt; omega

end draw
end Go.V
