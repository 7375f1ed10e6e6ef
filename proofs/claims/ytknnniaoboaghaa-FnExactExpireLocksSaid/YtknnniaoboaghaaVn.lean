/- A logic over abstract states: states of which less is known; lists of slots; heaps that are lists. No conditions. -/
import Derived.Test.YtknnniaoboaghaaVm
namespace Go.V
open Go.RowKit (Below)
set_option linter.unusedSimpArgs false
set_option linter.unusedVariables false

/-- Of t' nothing is known that is not known of t. -/
def Less (t' t : Nat → V) : Prop := ∀ i, t' i = t i ∨ t' i = .unk
def LessH (h' h : Heap) : Prop := ∀ id b, h' id = some b → h id = some b

theorem Less.refl (t : Nat → V) : Less t t := fun _ => .inl rfl
theorem LessH.refl (h : Heap) : LessH h h := fun _ _ e => e

section
variable {E : Env} {sz : Nat} {t t' : Nat → V} {h h' : Heap} {n n' : Nat} {Q : Post} {k : Code}

theorem Exec.less {x : Ex} {t2 : Nat → V} {h2 : Heap} {n2 : Nat} (e : Exec E sz k t' h' n' x t2 h2 n2) (ht : Less t' t) (hh : LessH h' h) (hn : n ≤ n') : Exec E sz k t h n x t2 h2 n2 := by
  refine ⟨Nat.le_trans hn e.1, fun c a hs hg hf => ?_⟩
  refine wp_mono (e.2 c a ⟨hs.size, fun i => ?_, hs.defers⟩ (hg.less hh) (fun id hid => hf id (Nat.le_trans hn hid))) ?_
  · rcases ht i with h1 | h1
    · rw [h1]; exact hs.tmps i
    · rw [h1]; exact .unk _
  · rintro ee a' w' ⟨h1, c', h2, h3, h4, h5, h6⟩
    exact ⟨h1, c', h2, h3, h4, h5, fun id hid => (h6 id hid).imp (fun h => h) (fun h => ⟨Nat.le_trans hn h.1, h.2⟩)⟩

theorem WP.less (t' : Nat → V) (h' : Heap) (n' : Nat) (ht : Less t' t) (hh : LessH h' h) (hn : n ≤ n') (w : WP E sz k t' h' n' Q) : WP E sz k t h n Q := by
  unfold WP at w ⊢
  obtain ⟨x, t2, h2, n2, e, q⟩ := w
  exact ⟨x, t2, h2, n2, e.less ht hh hn, q⟩
theorem WL.less (t' : Nat → V) (h' : Heap) (n' : Nat) (ht : Less t' t) (hh : LessH h' h) (hn : n ≤ n') (w : WL E sz k t' h' n' Q) : WL E sz k t h n Q := by
  unfold WL at w ⊢
  obtain ⟨x, t2, h2, n2, e, q⟩ := w
  refine ⟨x, t2, h2, n2, ?_, q⟩
  cases e with
  | last e hx => exact .last (e.less ht hh hn) hx
  | more e r => exact .more (e.less ht hh hn) r
end

theorem all0 {p : Nat → Prop} : ∀ j, j < 0 → p j := fun j hj => absurd hj (Nat.not_lt_zero j)
theorem allS {p : Nat → Prop} {i : Nat} (h : ∀ j, j < i → p j) (hi : p i) : ∀ j, j < i + 1 → p j := fun j hj => by
  rcases Nat.lt_or_ge j i with h1 | h1
  · exact h j h1
  · obtain rfl : j = i := by omega
    exact hi

theorem srcView {h : Heap} {x : V} {i j m : Nat} {b : Blk} {es : List (List V)} (hx : x = .view i j m) (hb : h i = some b) (hl : j + m ≤ b.es.length) (he : (b.es.drop j).take m = es) : srcV h x = some es := by
  subst hx
  simp only [srcV, hb, hl, if_true, he]

theorem resV_row {P : Program} {t : Nat → V} {h : Heap} {a ty id i j k : Nat} {b : Blk} {cs xs : List V} (ha : t a = .ptr id i j) (hb : h id = some b) (hi : b.es[i]? = some cs) (hr : rowP P ty = some (true, k)) (hl : j + k ≤ cs.length) (hx : (cs.drop j).take k = xs) : resV P t h (.cell a ty) = some (.agg xs) := by
  subst hx
  simp only [resV, ha, hb, hi, hr, hl, if_true]
theorem resL_nil {P : Program} {t : Nat → V} {h : Heap} : resL P t h [] = some [] := rfl
theorem resL_cons {P : Program} {t : Nat → V} {h : Heap} {r : ResultVar} {rs : List ResultVar} {x : V} {xs : List V} (h1 : resV P t h r = some x) (h2 : resL P t h rs = some xs) : resL P t h (r :: rs) = some (x :: xs) := by
  simp only [resL, h1, h2]

/-- Slots as a list. -/
def lst (l : List V) : Nat → V := fun i => (l[i]?).getD .unk

inductive LE (t : Nat → V) : Nat → List V → Prop
  | nil (k : Nat) : LE t k []
  | eq (k : Nat) (v : V) (l : List V) (h : t k = v) (r : LE t (k + 1) l) : LE t k (v :: l)
  | unk (k : Nat) (l : List V) (r : LE t (k + 1) l) : LE t k (.unk :: l)

theorem LE.get {t : Nat → V} {l : List V} {k : Nat} (e : LE t k l) (i : Nat) : lst l i = t (k + i) ∨ lst l i = .unk := by
  induction e generalizing i with
  | nil k => exact .inr (by simp [lst])
  | eq k v l h r ih =>
    cases i with
    | zero => exact .inl (by simp [lst, h])
    | succ i => simpa [lst, Nat.add_assoc, Nat.add_comm 1 i] using ih i
  | unk k l r ih =>
    cases i with
    | zero => exact .inr (by simp [lst])
    | succ i => simpa [lst, Nat.add_assoc, Nat.add_comm 1 i] using ih i

theorem LE.less {t : Nat → V} {l : List V} (e : LE t 0 l) : Less (lst l) t := fun i => by simpa using e.get i

section
variable {E : Env} {sz : Nat} {t t' : Nat → V} {h h' : Heap} {n n' : Nat} {Q : Post} {k : Code}
/-- A loop whose head is a state of which less is known. -/
theorem wlN {l : List V} (w : WL E sz k (lst l) h n Q) (e : LE t 0 l) : WL E sz k t h n Q := w.less _ _ _ e.less (LessH.refl _) (Nat.le_refl _)
theorem wlH {l : List V} (w : WL E sz k (lst l) h' n' Q) (e : LE t 0 l) (hh : LessH h' h) (hn : n ≤ n') : WL E sz k t h n Q := w.less _ _ _ e.less hh hn
end

/-- The pairs that neither the text nor their kinds keep apart, out of the kinds alone. -/
def residC (size : Nat) (bl : List Nat) (cs : List Nat) : List (Nat × Nat) :=
  (List.range size).flatMap fun j => (List.range j).filterMap fun i =>
    if (bl.getD j 0).testBit i then none else
    match cs[i]?, cs[j]? with
    | some e, some f => if compat e f then none else some (i, j)
    | _, _ => none
theorem residC_eq (size : Nat) (bl : List Nat) (es : List Ef) : residE size bl es = residC size bl (es.map Ef.cls) := by
  unfold residE residC
  congr 1
  funext j
  congr 1
  funext i
  split
  · rfl
  · rw [List.getElem?_map, List.getElem?_map]
    cases es[i]? <;> cases es[j]? <;> rfl
theorem dNilR {E : Env} {sz : Nat} {t : Nat → V} {h : Heap} {n : Nat} {ops : Array Oper} {bl : List Nat} {pre : List Ef} {R : (Nat → V) → Heap → Nat → Prop} (m : Nat) (cs : List Nat) (rs : List (Nat × Nat)) (hm : ops.size = m) (hcs : pre.map Ef.cls = cs)
    (hr : residC m bl cs.reverse = rs) (hc : ClearL pre.reverse rs) (q : R t h n) : WD E sz ops bl pre [] t h n R := dNil (by rw [residC_eq, hm, List.map_reverse, hcs, hr]; exact hc) q

/-- The last step of a function that hands back one bool. -/
theorem finT {E : Env} {fn : Func} {x : Ex} {t : Nat → V} {h : Heap} {n : Nat} {p : Prop} [Decidable p] (hr : resL E.P t h fn.results.toList = some [.bool true]) (hp : p) (hx : x = .norm ∨ x = .ret := by first | exact .inl rfl | exact .inr rfl) : FinOK E fn [.one (.bool (decide p))] x t h n := by
  rw [decide_eq_true hp]
  exact fin hr rfl hx
theorem finF {E : Env} {fn : Func} {x : Ex} {t : Nat → V} {h : Heap} {n : Nat} {p : Prop} [Decidable p] (hr : resL E.P t h fn.results.toList = some [.bool false]) (hp : ¬ p) (hx : x = .norm ∨ x = .ret := by first | exact .inl rfl | exact .inr rfl) : FinOK E fn [.one (.bool (decide p))] x t h n := by
  rw [decide_eq_false hp]
  exact fin hr rfl hx

/-- The last step of a function whose results lead to blocks of its own. -/
theorem finS {E : Env} {fn : Func} {res : List A} {x : Ex} {t : Nat → V} {h : Heap} {n : Nat} {xs : List V} (ids : List Nat) (hr : resL E.P t h fn.results.toList = some xs) (hs : SnapL h ids true xs res) (hx : x = .norm ∨ x = .ret := by first | exact .inl rfl | exact .inr rfl) : FinOK E fn res x t h n :=
  ⟨hx, xs, ids, resL_ok hr, hs.spec.1, hs.spec.2⟩

/-- A heap of few blocks. -/
def hp : List (Nat × Blk) → Heap
  | [] => fun _ => none
  | (i, b) :: r => fun j => if j = i then some b else hp r j

theorem lessH0 {h : Heap} : LessH (hp []) h := fun id b e => by cases e
theorem lessHc {h : Heap} {i : Nat} {b : Blk} {l : List (Nat × Blk)} (e : h i = some b) (r : LessH (hp l) h) : LessH (hp ((i, b) :: l)) h := fun id x hx => by
  by_cases hi : id = i
  · subst hi
    simp only [hp, if_true, Option.some.injEq] at hx
    subst hx; exact e
  · simp only [hp, hi, if_false] at hx
    exact r id x hx

section
variable {E : Env} {sz : Nat} {t t' : Nat → V} {h h' : Heap} {n n' : Nat} {Q : Post} {k : Code}
/-- A loop: its heads are states that hang on a value 'a', of which a measure falls. -/
theorem loopGo {α : Type} (T : α → List V) (H : α → Heap) (N : α → Nat) (I : α → Prop) (m : α → Nat) (a0 : α) (h0 : I a0) (le : LE t 0 (T a0)) (hh : LessH (H a0) h) (hn : n ≤ N a0)
    (step : ∀ a, I a → (∀ b, I b → m b < m a → WL E sz k (lst (T b)) (H b) (N b) Q) → WL E sz k (lst (T a)) (H a) (N a) Q) : WL E sz k t h n Q := by
  have key : ∀ M a, m a ≤ M → I a → WL E sz k (lst (T a)) (H a) (N a) Q := by
    intro M
    induction M with
    | zero => exact fun a ha hi => step a hi fun b hb hlt => by omega
    | succ M ih => exact fun a ha hi => step a hi fun b hb hlt => ih b (by omega) hb
  exact wlH (key _ a0 (Nat.le_refl _) h0) le hh hn
/-- The same where memory stays as it is. -/
theorem loopGo0 {α : Type} (T : α → List V) (I : α → Prop) (m : α → Nat) (a0 : α) (h0 : I a0) (le : LE t 0 (T a0))
    (step : ∀ a, I a → (∀ b, I b → m b < m a → WL E sz k (lst (T b)) h n Q) → WL E sz k (lst (T a)) h n Q) : WL E sz k t h n Q :=
  loopGo T (fun _ => h) (fun _ => n) I m a0 h0 le (LessH.refl _) (Nat.le_refl _) step
end

/-! Less said of what is handed back: is a slice nil? -/
inductive TW : T → T → Prop
  | refl (x : T) : TW x x
  | nil : TW .nsl (.sl false [])
  | sl (nn : Bool) (es : List (List T)) : TW (.sl nn es) (.sl false es)
inductive TWL : List T → List T → Prop
  | nil : TWL [] []
  | cons (x y : T) (xs ys : List T) (h : TW x y) (r : TWL xs ys) : TWL (x :: xs) (y :: ys)
inductive AW : A → A → Prop
  | one (x y : T) (h : TW x y) : AW (.one x) (.one y)
  | agg (xs ys : List T) (h : TWL xs ys) : AW (.agg xs) (.agg ys)
inductive AWL : List A → List A → Prop
  | nil : AWL [] []
  | cons (x y : A) (xs ys : List A) (h : AW x y) (r : AWL xs ys) : AWL (x :: xs) (y :: ys)

theorem TW.ok {I : Nat → Prop} {w : World} {x y : T} (h : TW x y) {v : Value} (hv : TR I w x v) : TR I w y v := by
  cases h with
  | refl => exact hv
  | nil =>
    cases hv
    exact .sl false [] none 0 0 0 (fun _ _ => undef) rfl (Nat.le_refl _) (fun _ => ⟨rfl, rfl, rfl⟩) (fun A hA => by cases hA) (by simp) (fun A _ _ _ hA => by cases hA) (fun i j c hc => by simp [get2] at hc)
  | sl nn es =>
    cases hv with
    | sl _ _ a len cap sz rd hlen hcap hnil hI hsz hrd hsub => exact .sl false es a len cap sz rd hlen hcap (fun h => ⟨rfl, (hnil h).2⟩) hI hsz hrd hsub
theorem TWL.get {xs ys : List T} (h : TWL xs ys) : xs.length = ys.length ∧ ∀ (i : Nat) (y : T), ys[i]? = some y → ∃ x, xs[i]? = some x ∧ TW x y := by
  induction h with
  | nil => exact ⟨rfl, by simp⟩
  | cons x y xs ys h r ih =>
    refine ⟨by simp [ih.1], fun i z hz => ?_⟩
    cases i with
    | zero => simp only [List.getElem?_cons_zero, Option.some.injEq] at hz; subst hz; exact ⟨x, rfl, h⟩
    | succ i => simpa using ih.2 i z (by simpa using hz)
theorem AWL.get {xs ys : List A} (h : AWL xs ys) : xs.length = ys.length ∧ ∀ (i : Nat) (y : A), ys[i]? = some y → ∃ x, xs[i]? = some x ∧ AW x y := by
  induction h with
  | nil => exact ⟨rfl, by simp⟩
  | cons x y xs ys h r ih =>
    refine ⟨by simp [ih.1], fun i z hz => ?_⟩
    cases i with
    | zero => simp only [List.getElem?_cons_zero, Option.some.injEq] at hz; subst hz; exact ⟨x, rfl, h⟩
    | succ i => simpa using ih.2 i z (by simpa using hz)
theorem AW.ok {I : Nat → Prop} {w : World} {x y : A} (h : AW x y) {v : Value} (hv : AR I w x v) : AR I w y v := by
  cases h with
  | one x y h => cases hv with | one _ _ hv => exact .one _ _ (h.ok hv)
  | agg xs ys h =>
    cases hv with
    | agg _ vs hl hv =>
      refine .agg _ _ (by rw [← h.get.1]; exact hl) fun i y v hy hv' => ?_
      obtain ⟨x, hx, hxy⟩ := h.get.2 i y hy
      exact hxy.ok (hv i x v hx hv')
theorem AWL.ok {I : Nat → Prop} {w : World} {xs ys : List A} (h : AWL xs ys) {v : Value} (hv : RR I w xs v) : RR I w ys v := by
  cases hv with
  | one a v hv =>
    cases h with
    | cons _ y _ ys h r => cases r with | nil => exact .one _ _ (h.ok hv)
  | tup as vs hne hl hv =>
    refine .tup _ _ (by rw [← h.get.1]; exact hne) (by rw [← h.get.1]; exact hl) fun i y v hy hv' => ?_
    obtain ⟨x, hx, hxy⟩ := h.get.2 i y hy
    exact hxy.ok (hv i x v hx hv')
theorem Pure.weak {E : Env} {f : FuncId} {as rs rs' : List A} (hp : Pure E f as rs) (h : AWL rs rs') : Pure E f as rs' := by
  unfold Pure at hp ⊢
  refine ⟨hp.1, fun I w vs h1 h2 h3 h4 => Calls.mono (hp.2 I w vs h1 h2 h3 h4) ?_⟩
  rintro e w' ⟨v, rfl, hb, hr⟩
  exact ⟨v, rfl, hb, h.ok hr⟩

/-! Less said of what is handed in: is a slice nil? -/
theorem AW.get {x y : A} (h : AW x y) {I : Nat → Prop} {w : World} {v : Value} (hv : AR I w x v) : AR I w y v := h.ok hv

/-! Memory looked up, from without. -/
theorem app0 {h : Heap} : app [] h = h := rfl
theorem appC {h : Heap} {i : Nat} {b : Option Blk} {r : List (Nat × Option Blk)} : app ((i, b) :: r) h = app r (upd h i b) := rfl
theorem updS {f : Heap} {d i : Nat} {v : Option Blk} (h : i = d) : upd f d v i = v := by subst h; exact upd_same ..
theorem updN {f : Heap} {d i : Nat} {v : Option Blk} (h : ¬ i = d) : upd f d v i = f i := upd_ne f v h
theorem hpS {i j : Nat} {b : Blk} {l : List (Nat × Blk)} (h : j = i) : hp ((i, b) :: l) j = some b := by subst h; simp [hp, upd]
theorem hpN {i j : Nat} {b : Blk} {l : List (Nat × Blk)} (h : ¬ j = i) : hp ((i, b) :: l) j = hp l j := by simp [hp, upd, h]

theorem leWr {h h' : Heap} {n : Nat} {wr : List (Nat × Option Blk)} (hw : ∀ j ∈ wr.map (·.1), h' j = app wr h j) (ho : ∀ j, j < n → j ∉ wr.map (·.1) → h' j = h j) :
    (∀ i, n ≤ i → h i = none) → ∀ id b, app wr h id = some b → h' id = some b := by
  intro hz id b hb
  by_cases hi : id ∈ wr.map (·.1)
  · rw [hw id hi]; exact hb
  · rw [app_ne _ _ _ hi] at hb
    rcases Nat.lt_or_ge id n with h1 | h1
    · rw [ho id h1 hi]; exact hb
    · rw [hz id h1] at hb; cases hb

theorem wrap_i64 {x : Int} (h1 : -9223372036854775808 ≤ x) (h2 : x ≤ 9223372036854775807) : IntKind.i64.wrap x = x := wrap_fits h1 h2

end Go.V
