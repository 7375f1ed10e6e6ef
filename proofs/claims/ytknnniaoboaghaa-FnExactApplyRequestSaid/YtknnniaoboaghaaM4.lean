import Derived.Test.YtknnniaoboaghaaProg
import Derived.Test.YtknnniaoboaghaaM3
namespace Go.V
open Go.RowKit (Below)
set_option linter.unusedSimpArgs false
set_option linter.unusedVariables false
def Less (t' t : Nat → V) : Prop := ∀ i, t' i = t i ∨ t' i = .unk
def LessH (h' h : Heap) : Prop := ∀ id b, h' id = some b → h id = some b
theorem Less.refl (t : Nat → V) : Less t t := fun _ => .inl rfl
theorem LessH.refl (h : Heap) : LessH h h := fun _ _ e => e
section
variable {E : Env} {sz : Nat} {t t' : Nat → V} {h h' : Heap} {n n' : Nat} {Q : Post} {k : Code}
theorem Exec.less {x : Ex} {t2 : Nat → V} {h2 : Heap} {n2 : Nat} (e : Exec E sz k t' h' n' x t2 h2 n2) (ht : Less t' t) (hh : LessH h' h) (hn : n ≤ n') : Exec E sz k t h n x t2 h2 n2 := by
  refine ⟨Nat.le_trans hn e.1, fun c a hs hg hf => ?_⟩
  refine wp_mono (e.2 c a ⟨hs.size, fun i => ?_, hs.defers⟩ (hg.less hh) (fun id hid => hf id (Nat.le_trans hn hid))) ?_
  · rcases ht i with h1 | h1
    · rw [h1]; exact hs.tmps i
    · rw [h1]; exact .unk _
  · rintro ee a' w' ⟨h1, c', h2, h3, h4, h5, h6⟩
    exact ⟨h1, c', h2, h3, h4, h5, fun id hid => (h6 id hid).imp (fun h => h) (fun h => ⟨Nat.le_trans hn h.1, h.2⟩)⟩
theorem WP.less (t' : Nat → V) (h' : Heap) (n' : Nat) (ht : Less t' t) (hh : LessH h' h) (hn : n ≤ n') (w : WP E sz k t' h' n' Q) : WP E sz k t h n Q := by
  unfold WP at w ⊢
  obtain ⟨x, t2, h2, n2, e, q⟩ := w
  exact ⟨x, t2, h2, n2, e.less ht hh hn, q⟩
theorem WL.less (t' : Nat → V) (h' : Heap) (n' : Nat) (ht : Less t' t) (hh : LessH h' h) (hn : n ≤ n') (w : WL E sz k t' h' n' Q) : WL E sz k t h n Q := by
  unfold WL at w ⊢
  obtain ⟨x, t2, h2, n2, e, q⟩ := w
  refine ⟨x, t2, h2, n2, ?_, q⟩
  cases e with
  | last e hx => exact .last (e.less ht hh hn) hx
  | more e r => exact .more (e.less ht hh hn) r
end
theorem all0 {p : Nat → Prop} : ∀ j, j < 0 → p j := fun j hj => absurd hj (Nat.not_lt_zero j)
theorem allS {p : Nat → Prop} {i : Nat} (h : ∀ j, j < i → p j) (hi : p i) : ∀ j, j < i + 1 → p j := fun j hj => by
  rcases Nat.lt_or_ge j i with h1 | h1
  · exact h j h1
  · obtain rfl : j = i := by omega
    exact hi
theorem srcView {h : Heap} {x : V} {i j m : Nat} {b : Blk} {es : List (List V)} (hx : x = .view i j m) (hb : h i = some b) (hl : j + m ≤ b.es.length) (he : (b.es.drop j).take m = es) : srcV h x = some es := by
  subst hx
  simp only [srcV, hb, hl, if_true, he]
theorem resV_row {P : Program} {t : Nat → V} {h : Heap} {a ty id i j k : Nat} {b : Blk} {cs xs : List V} (ha : t a = .ptr id i j) (hb : h id = some b) (hi : b.es[i]? = some cs) (hr : rowP P ty = some (true, k)) (hl : j + k ≤ cs.length) (hx : (cs.drop j).take k = xs) : resV P t h (.cell a ty) = some (.agg xs) := by
  subst hx
  simp only [resV, ha, hb, hi, hr, hl, if_true]
theorem resL_nil {P : Program} {t : Nat → V} {h : Heap} : resL P t h [] = some [] := rfl
theorem resL_cons {P : Program} {t : Nat → V} {h : Heap} {r : ResultVar} {rs : List ResultVar} {x : V} {xs : List V} (h1 : resV P t h r = some x) (h2 : resL P t h rs = some xs) : resL P t h (r :: rs) = some (x :: xs) := by
  simp only [resL, h1, h2]
def lst (l : List V) : Nat → V := fun i => (l[i]?).getD .unk
inductive LE (t : Nat → V) : Nat → List V → Prop
  | nil (k : Nat) : LE t k []
  | eq (k : Nat) (v : V) (l : List V) (h : t k = v) (r : LE t (k + 1) l) : LE t k (v :: l)
  | unk (k : Nat) (l : List V) (r : LE t (k + 1) l) : LE t k (.unk :: l)
theorem LE.get {t : Nat → V} {l : List V} {k : Nat} (e : LE t k l) (i : Nat) : lst l i = t (k + i) ∨ lst l i = .unk := by
  induction e generalizing i with
  | nil k => exact .inr (by simp [lst])
  | eq k v l h r ih =>
    cases i with
    | zero => exact .inl (by simp [lst, h])
    | succ i => simpa [lst, Nat.add_assoc, Nat.add_comm 1 i] using ih i
  | unk k l r ih =>
    cases i with
    | zero => exact .inr (by simp [lst])
    | succ i => simpa [lst, Nat.add_assoc, Nat.add_comm 1 i] using ih i
theorem LE.less {t : Nat → V} {l : List V} (e : LE t 0 l) : Less (lst l) t := fun i => by simpa using e.get i
section
variable {E : Env} {sz : Nat} {t t' : Nat → V} {h h' : Heap} {n n' : Nat} {Q : Post} {k : Code}
theorem wlN {l : List V} (w : WL E sz k (lst l) h n Q) (e : LE t 0 l) : WL E sz k t h n Q := w.less _ _ _ e.less (LessH.refl _) (Nat.le_refl _)
theorem wlH {l : List V} (w : WL E sz k (lst l) h' n' Q) (e : LE t 0 l) (hh : LessH h' h) (hn : n ≤ n') : WL E sz k t h n Q := w.less _ _ _ e.less hh hn
end
def residC (size : Nat) (bl : List Nat) (cs : List Nat) : List (Nat × Nat) :=
  (List.range size).flatMap fun j => (List.range j).filterMap fun i =>
    if (bl.getD j 0).testBit i then none else
    match cs[i]?, cs[j]? with
    | some e, some f => if compat e f then none else some (i, j)
    | _, _ => none
theorem residC_eq (size : Nat) (bl : List Nat) (es : List Ef) : residE size bl es = residC size bl (es.map Ef.cls) := by
  unfold residE residC
  congr 1
  funext j
  congr 1
  funext i
  split
  · rfl
  · rw [List.getElem?_map, List.getElem?_map]
    cases es[i]? <;> cases es[j]? <;> rfl
theorem dNilR {E : Env} {sz : Nat} {t : Nat → V} {h : Heap} {n : Nat} {ops : Array Oper} {bl : List Nat} {pre : List Ef} {R : (Nat → V) → Heap → Nat → Prop} (m : Nat) (cs : List Nat) (rs : List (Nat × Nat)) (hm : ops.size = m) (hcs : pre.map Ef.cls = cs)
    (hr : residC m bl cs.reverse = rs) (hc : ClearL pre.reverse rs) (q : R t h n) : WD E sz ops bl pre [] t h n R := dNil (by rw [residC_eq, hm, List.map_reverse, hcs, hr]; exact hc) q
theorem finT {E : Env} {fn : Func} {x : Ex} {t : Nat → V} {h : Heap} {n : Nat} {p : Prop} [Decidable p] (hr : resL E.P t h fn.results.toList = some [.bool true]) (hp : p) (hx : x = .norm ∨ x = .ret := by first | exact .inl rfl | exact .inr rfl) : FinOK E fn [.one (.bool (decide p))] x t h n := by
  rw [decide_eq_true hp]
  exact fin hr rfl hx
theorem finF {E : Env} {fn : Func} {x : Ex} {t : Nat → V} {h : Heap} {n : Nat} {p : Prop} [Decidable p] (hr : resL E.P t h fn.results.toList = some [.bool false]) (hp : ¬ p) (hx : x = .norm ∨ x = .ret := by first | exact .inl rfl | exact .inr rfl) : FinOK E fn [.one (.bool (decide p))] x t h n := by
  rw [decide_eq_false hp]
  exact fin hr rfl hx
theorem finS {E : Env} {fn : Func} {res : List A} {x : Ex} {t : Nat → V} {h : Heap} {n : Nat} {xs : List V} (ids : List Nat) (hr : resL E.P t h fn.results.toList = some xs) (hs : SnapL h ids true xs res) (hx : x = .norm ∨ x = .ret := by first | exact .inl rfl | exact .inr rfl) : FinOK E fn res x t h n :=
  ⟨hx, xs, ids, resL_ok hr, hs.spec.1, hs.spec.2⟩
def hp : List (Nat × Blk) → Heap
  | [] => fun _ => none
  | (i, b) :: r => fun j => if j = i then some b else hp r j
theorem lessH0 {h : Heap} : LessH (hp []) h := fun id b e => by cases e
theorem lessHc {h : Heap} {i : Nat} {b : Blk} {l : List (Nat × Blk)} (e : h i = some b) (r : LessH (hp l) h) : LessH (hp ((i, b) :: l)) h := fun id x hx => by
  by_cases hi : id = i
  · subst hi
    simp only [hp, if_true, Option.some.injEq] at hx
    subst hx; exact e
  · simp only [hp, hi, if_false] at hx
    exact r id x hx
section
variable {E : Env} {sz : Nat} {t t' : Nat → V} {h h' : Heap} {n n' : Nat} {Q : Post} {k : Code}
theorem loopGo {α : Type} (T : α → List V) (H : α → Heap) (N : α → Nat) (I : α → Prop) (m : α → Nat) (a0 : α) (h0 : I a0) (le : LE t 0 (T a0)) (hh : LessH (H a0) h) (hn : n ≤ N a0)
    (step : ∀ a, I a → (∀ b, I b → m b < m a → WL E sz k (lst (T b)) (H b) (N b) Q) → WL E sz k (lst (T a)) (H a) (N a) Q) : WL E sz k t h n Q := by
  have key : ∀ M a, m a ≤ M → I a → WL E sz k (lst (T a)) (H a) (N a) Q := by
    intro M
    induction M with
    | zero => exact fun a ha hi => step a hi fun b hb hlt => by omega
    | succ M ih => exact fun a ha hi => step a hi fun b hb hlt => ih b (by omega) hb
  exact wlH (key _ a0 (Nat.le_refl _) h0) le hh hn
theorem loopGo0 {α : Type} (T : α → List V) (I : α → Prop) (m : α → Nat) (a0 : α) (h0 : I a0) (le : LE t 0 (T a0))
    (step : ∀ a, I a → (∀ b, I b → m b < m a → WL E sz k (lst (T b)) h n Q) → WL E sz k (lst (T a)) h n Q) : WL E sz k t h n Q :=
  loopGo T (fun _ => h) (fun _ => n) I m a0 h0 le (LessH.refl _) (Nat.le_refl _) step
end
inductive TW : T → T → Prop
  | refl (x : T) : TW x x
  | nil : TW .nsl (.sl false [])
  | sl (nn : Bool) (es : List (List T)) : TW (.sl nn es) (.sl false es)
inductive TWL : List T → List T → Prop
  | nil : TWL [] []
  | cons (x y : T) (xs ys : List T) (h : TW x y) (r : TWL xs ys) : TWL (x :: xs) (y :: ys)
inductive AW : A → A → Prop
  | one (x y : T) (h : TW x y) : AW (.one x) (.one y)
  | agg (xs ys : List T) (h : TWL xs ys) : AW (.agg xs) (.agg ys)
inductive AWL : List A → List A → Prop
  | nil : AWL [] []
  | cons (x y : A) (xs ys : List A) (h : AW x y) (r : AWL xs ys) : AWL (x :: xs) (y :: ys)
theorem TW.ok {I : Nat → Prop} {w : World} {x y : T} (h : TW x y) {v : Value} (hv : TR I w x v) : TR I w y v := by
  cases h with
  | refl => exact hv
  | nil =>
    cases hv
    exact .sl false [] none 0 0 0 (fun _ _ => undef) rfl (Nat.le_refl _) (fun _ => ⟨rfl, rfl, rfl⟩) (fun A hA => by cases hA) (by simp) (fun A _ _ _ hA => by cases hA) (fun i j c hc => by simp [get2] at hc)
  | sl nn es =>
    cases hv with
    | sl _ _ a len cap sz rd hlen hcap hnil hI hsz hrd hsub => exact .sl false es a len cap sz rd hlen hcap (fun h => ⟨rfl, (hnil h).2⟩) hI hsz hrd hsub
theorem TWL.get {xs ys : List T} (h : TWL xs ys) : xs.length = ys.length ∧ ∀ (i : Nat) (y : T), ys[i]? = some y → ∃ x, xs[i]? = some x ∧ TW x y := by
  induction h with
  | nil => exact ⟨rfl, by simp⟩
  | cons x y xs ys h r ih =>
    refine ⟨by simp [ih.1], fun i z hz => ?_⟩
    cases i with
    | zero => simp only [List.getElem?_cons_zero, Option.some.injEq] at hz; subst hz; exact ⟨x, rfl, h⟩
    | succ i => simpa using ih.2 i z (by simpa using hz)
theorem AWL.get {xs ys : List A} (h : AWL xs ys) : xs.length = ys.length ∧ ∀ (i : Nat) (y : A), ys[i]? = some y → ∃ x, xs[i]? = some x ∧ AW x y := by
  induction h with
  | nil => exact ⟨rfl, by simp⟩
  | cons x y xs ys h r ih =>
    refine ⟨by simp [ih.1], fun i z hz => ?_⟩
    cases i with
    | zero => simp only [List.getElem?_cons_zero, Option.some.injEq] at hz; subst hz; exact ⟨x, rfl, h⟩
    | succ i => simpa using ih.2 i z (by simpa using hz)
theorem AW.ok {I : Nat → Prop} {w : World} {x y : A} (h : AW x y) {v : Value} (hv : AR I w x v) : AR I w y v := by
  cases h with
  | one x y h => cases hv with | one _ _ hv => exact .one _ _ (h.ok hv)
  | agg xs ys h =>
    cases hv with
    | agg _ vs hl hv =>
      refine .agg _ _ (by rw [← h.get.1]; exact hl) fun i y v hy hv' => ?_
      obtain ⟨x, hx, hxy⟩ := h.get.2 i y hy
      exact hxy.ok (hv i x v hx hv')
theorem AWL.ok {I : Nat → Prop} {w : World} {xs ys : List A} (h : AWL xs ys) {v : Value} (hv : RR I w xs v) : RR I w ys v := by
  cases hv with
  | one a v hv =>
    cases h with
    | cons _ y _ ys h r => cases r with | nil => exact .one _ _ (h.ok hv)
  | tup az vs hne hl hv =>
    refine .tup _ _ (by rw [← h.get.1]; exact hne) (by rw [← h.get.1]; exact hl) fun i y v hy hv' => ?_
    obtain ⟨x, hx, hxy⟩ := h.get.2 i y hy
    exact hxy.ok (hv i x v hx hv')
theorem Pure.weak {E : Env} {f : FuncId} {az rs rs' : List A} (hp : Pure E f az rs) (h : AWL rs rs') : Pure E f az rs' := by
  unfold Pure at hp ⊢
  refine ⟨hp.1, fun I w vs h1 h2 h3 h4 => Calls.mono (hp.2 I w vs h1 h2 h3 h4) ?_⟩
  rintro e w' ⟨v, rfl, hb, hr⟩
  exact ⟨v, rfl, hb, h.ok hr⟩
theorem AW.get {x y : A} (h : AW x y) {I : Nat → Prop} {w : World} {v : Value} (hv : AR I w x v) : AR I w y v := h.ok hv
theorem app0 {h : Heap} : app [] h = h := rfl
theorem appC {h : Heap} {i : Nat} {b : Option Blk} {r : List (Nat × Option Blk)} : app ((i, b) :: r) h = app r (upd h i b) := rfl
theorem updS {f : Heap} {d i : Nat} {v : Option Blk} (h : i = d) : upd f d v i = v := by subst h; exact upd_same ..
theorem updN {f : Heap} {d i : Nat} {v : Option Blk} (h : ¬ i = d) : upd f d v i = f i := upd_ne f v h
theorem hpS {i j : Nat} {b : Blk} {l : List (Nat × Blk)} (h : j = i) : hp ((i, b) :: l) j = some b := by subst h; simp [hp, upd]
theorem hpN {i j : Nat} {b : Blk} {l : List (Nat × Blk)} (h : ¬ j = i) : hp ((i, b) :: l) j = hp l j := by simp [hp, upd, h]
theorem leWr {h h' : Heap} {n : Nat} {wr : List (Nat × Option Blk)} (hw : ∀ j ∈ wr.map (·.1), h' j = app wr h j) (ho : ∀ j, j < n → j ∉ wr.map (·.1) → h' j = h j) :
    (∀ i, n ≤ i → h i = none) → ∀ id b, app wr h id = some b → h' id = some b := by
  intro hz id b hb
  by_cases hi : id ∈ wr.map (·.1)
  · rw [hw id hi]; exact hb
  · rw [app_ne _ _ _ hi] at hb
    rcases Nat.lt_or_ge id n with h1 | h1
    · rw [ho id h1 hi]; exact hb
    · rw [hz id h1] at hb; cases hb
theorem wrap_i64 {x : Int} (h1 : -9223372036854775808 ≤ x) (h2 : x ≤ 9223372036854775807) : IntKind.i64.wrap x = x := wrap_fits h1 h2
end Go.V
namespace Go.Proofs.Ytknnniaoboaghaa
open Go.V
theorem Q0 {P : Prop} (h : P := by (first | ((simp (disch := omega) only [↓app0, ↓appC, ↓updS, ↓updN, ↓hpS, ↓hpN]) <;> first | rfl | assumption) | assumption | rfl)) : P := h
theorem Q1 {P : Prop} (h : P := by (first | rfl | assumption | exact List.getElem?_set_self (by assumption) | exact List.getElem?_set_self (by rw [List.length_set]; assumption))) : P := h
theorem Q2 {P : Prop} (h : P := by (first | omega | assumption | (focus (simp; done)) | (focus (simp; omega)) | (focus (simp [putR]; omega)) | (focus ((try dsimp only); simp only [List.length_map, List.length_append, List.length_take, List.length_drop, List.length_replicate]; omega)))) : P := h
theorem Q3 {P : Prop} (h : P := by (first | ((simp (disch := (first | omega | assumption)) only [↓appC, ↓updN, ↓updS, ↓app0, ↓hpS, ↓hpN]) <;> first | rfl | assumption) | ((simp (disch := (first | omega | (intro _ _; dsimp only; omega))) only [↓appC, ↓updN, ↓updS, ↓app0, ↓famAO]) <;> first | rfl | assumption) | assumption | rfl)) : P := h
theorem Q4 {P : Prop} (h : P := by (first | ((simp (disch := (first | omega | assumption | (refine mt (F0.id _) ?_; omega) | (refine mt (F1.id _) ?_; omega) | (refine mt (F2.id _) ?_; omega) | (refine mt (F3.id _) ?_; omega) | (refine mt (F7.id _) ?_; omega) | (refine mt (F8.id _) ?_; omega) | fail)) only [↓appC, ↓updN, ↓updS, ↓app0, ↓appN]) <;> first | rfl | assumption) | assumption | rfl)) : P := h
theorem Q5 {P : Prop} (h : P := by (first | omega | assumption | (focus (simp; omega)))) : P := h
theorem Q6 {P : Prop} (h : P := by (first | rfl | assumption | exact List.getElem?_set_self (by assumption))) : P := h
theorem Q7 {P : Prop} (h : P := by (first | rfl | (show (Sl1.cell && (Ss1.cell && true)) = true; rw [kcl1, kcs1]; rfl) | (show (Sl2.cell && (Ss2.cell && true)) = true; rw [kcl2, kcs2]; rfl) | (show (Sl2.cell && true) = true; rw [kcl2]; rfl))) : P := h
theorem Q8 {P : Prop} (h : P := by (first | rfl | assumption | exact List.getElem?_set_self (by (try simp only [List.length_set]); exact hj))) : P := h
theorem Q9 {P : Prop} (h : P := by (first | omega | (focus (simp only [List.length_cons, List.length_nil]; omega)) | exact Nat.le_of_ble_eq_true rfl | (focus ((try dsimp only); simp only [List.length_take, List.length_drop, rwW_len, List.length_cons, List.length_nil, List.length_append]; omega)))) : P := h
theorem Q10 {P : Prop} (h : P := by (first | omega | (focus (simp only [List.length_cons, List.length_nil]; omega)) | exact Nat.le_of_ble_eq_true rfl | (focus ((try dsimp only); simp only [List.length_take, List.length_drop, List.length_map, List.length_cons, List.length_nil, List.length_append]; omega)))) : P := h
theorem Q11 {P : Prop} (h : P := by (first | ((simp (disch := omega) only [↓app0, ↓appC, ↓updS, ↓updN, ↓hpS, ↓hpN]) <;> first | rfl | assumption) | ((simp (disch := (first | omega | (intro _ _; dsimp only; omega))) only [↓app_append, ↓famO, ↓app0, ↓appC, ↓updS, ↓updN, ↓hpS, ↓hpN]) <;> first | rfl | assumption) | assumption | rfl)) : P := h
theorem Q12 {P : Prop} (h : P := by (first | exact True.intro | (intro hq; cases hq; done) | (intro x hx; (try apply And.intro) <;> intro hy <;> (first | (have q1 := F0.id _ hx) | (have q1 := F1.id _ hx) | (have q1 := F2.id _ hx) | (have q1 := F3.id _ hx) | (have q1 := F7.id _ hx) | (have q1 := F8.id _ hx) | (have q1 := tabIds_V F0.tv hx) | (have q1 := tabIds_V F1.tv hx) | (have q1 := tabIds_V F7.tv hx) | (have q1 := List.mem_singleton.1 hx) | (rcases List.mem_cons.1 hx with q1 | hx <;> (first | omega | (have q1 := tabIds_V F1.tv hx) | (have q1 := tabIds_V F0.tv hx) | (have q1 := tabIds_V F7.tv hx) | skip)) | (exact absurd hx List.not_mem_nil) | skip) <;> (first | (have q2 := F0.id _ hy) | (have q2 := F1.id _ hy) | (have q2 := F2.id _ hy) | (have q2 := F3.id _ hy) | (have q2 := F7.id _ hy) | (have q2 := F8.id _ hy) | (have q2 := tabIds_V F0.tv hy) | (have q2 := tabIds_V F1.tv hy) | (have q2 := tabIds_V F7.tv hy) | (have q2 := List.mem_singleton.1 hy) | (rcases List.mem_cons.1 hy with q2 | hy <;> (first | omega | (have q2 := tabIds_V F1.tv hy) | (have q2 := tabIds_V F0.tv hy) | (have q2 := tabIds_V F7.tv hy) | skip)) | (exact absurd hy List.not_mem_nil) | skip) <;> (try dsimp only at q1) <;> (try dsimp only at q2) <;> omega) | apply And.intro)) : P := h
theorem Q13 {P : Prop} (h : P := by (first | rfl | assumption)) : P := h
theorem Q14 {P : Prop} (h : P := by (first | omega | (focus (simp only [List.length_cons, List.length_nil]; omega)) | exact Nat.le_of_ble_eq_true rfl | ((show (_ + 1) * _ ≤ _); omega) | ((show _ + 1 ≤ _); omega) | (rw [List.length_map]; (show (_ + 1) * _ ≤ _); omega) | (rw [List.length_map]; (show _ + 1 ≤ _); omega))) : P := h
theorem Q15 {P : Prop} (h : P := by (first | omega | assumption | exact Q1 | exact Q0)) : P := h
theorem Q16 {P : Prop} (h : P := by (first | rfl | assumption | (first | exact getMap (Lk.T b) Lk0 (k := i0) (by omega) | exact getMap Sn.T Sn0 (k := i) (by omega) | exact getMap wtT (0, 0) (k := k) (by omega) | exact getMap wtT (0, 0) (k := q) (by omega) | exact getMap (Lk.T b) Lk0 (by omega) | exact getMap Sn.T Sn0 (by omega) | exact getMap wtT (0, 0) (by omega)))) : P := h
theorem Q17 {P : Prop} (h : P := by (first | ((simp (disch := (first | omega | assumption)) only [↓appC, ↓updN, ↓updS, ↓app0, ↓hpS, ↓hpN]) <;> first | rfl | assumption) | assumption | rfl)) : P := h
theorem Q18 {P : Prop} (h : P := by (first | rfl | exact srcZ (ks2.mono (fun a ha => by have q := T2.fs a ha; have qa := q.1; have qb := q.2.1; have qc := hO a (.inr (.inr (.inl ha))); (simp (disch := (first | omega | assumption)) only [↓appC, ↓updN, ↓updS, ↓app0]))) (by first | omega | (simp only [List.length_map]; omega)) (by first | omega | (simp only [List.length_map]; omega)) | (apply srcView rfl; exact Q0; (first | exact Nat.le_refl _ | omega); rfl))) : P := h
theorem Q19 {P : Prop} (h : P := by (first | rfl | assumption | (exact fun c hc => rwW_mem _ _ c (List.mem_of_mem_drop (List.mem_of_mem_take hc))) | (focus (simp; done)) | (focus (intro _ hc; rw [List.mem_singleton] at hc; subst hc; rfl)) | (intro _ _; simp_all))) : P := h
theorem Q20 {P : Prop} (h : P := by (first | rfl | (show (Sl1.cell && (Ss1.cell && true)) = true; rw [F1.tv.kl.cell, F1.tv.ks.cell]; rfl) | (show (Sl2.cell && (Ss2.cell && true)) = true; rw [F2.tv.kl.cell, F2.tv.ks.cell]; rfl) | (show (Sl8.cell && (Ss8.cell && true)) = true; rw [F8.tv.kl.cell, F8.tv.ks.cell]; rfl))) : P := h
theorem Q21 {P : Prop} (h : P := by (first | rfl | (show (Sl1.cell && (Ss1.cell && true)) = true; rw [kcl1, kcs1]; rfl) | (show (Sl2.cell && (Ss2.cell && true)) = true; rw [kcl2, kcs2]; rfl))) : P := h
theorem Q22 {P : Prop} (h : P := by (first | rfl | assumption | (focus (simp; done)) | (focus (intro _ hc; rw [List.mem_singleton] at hc; subst hc; rfl)) | (intro _ _; simp_all))) : P := h
theorem Q23 {P : Prop} (h : P := by (first | omega | (focus (simp only [List.length_cons, List.length_nil]; omega)) | exact Nat.le_of_ble_eq_true rfl | ((show (_ + 1) * _ ≤ _); omega) | ((show _ + 1 ≤ _); omega))) : P := h
theorem Q24 {P : Prop} (h : P := by (first | rfl | assumption | (exact fun c hc => by obtain ⟨s, _, rfl⟩ := List.mem_map.1 (List.mem_of_mem_drop (List.mem_of_mem_take hc)); rfl) | (focus (simp; done)) | (focus (intro _ hc; rw [List.mem_singleton] at hc; subst hc; rfl)) | (intro _ _; simp_all))) : P := h
theorem Q25 {P : Prop} (h : P := by (first | rfl | (apply srcView rfl; exact Q0; (first | exact Nat.le_refl _ | (show _ ≤ (rwW t.lk W).length; rw [rwW_len]; omega) | omega); rfl))) : P := h
theorem Q26 {P : Prop} (h : P := by (first | rfl | exact Nat.min_eq_left (by omega) | exact Nat.min_eq_right (by omega) | (show Nat.min _ _ = _; simp only [Nat.min_def]; split <;> omega))) : P := h
theorem Q27 {P : Prop} (h : P := by (first | (focus (simp [ClearL, ids]; done)) | (focus (simp [ClearL, ids]; omega)) | (simp [ClearL, ids, Env.eval, upd]; (repeat' (first | omega | (intro hx; have := fo4 _ _ _ hx; omega) | apply And.intro))))) : P := h
theorem Q28 {P : Prop} (h : P := by (first | rfl | omega | (focus (simp; done)) | (focus (simp; omega)))) : P := h
theorem Q29 {P : Prop} (h : P := by (first | (have hd : hit s L := (hit_of hs (i := lo) (by omega) (cb_eq.1 h8_12)).2; rw [decide_eq_true hd, hp1]; exact finO rfl rfl (fun _ _ _ e => e) (by omega)) | (have hd : ¬ hit s L := (fun hq => by have q1 := hq.1; have q2 := hq.2; rw [hp1] at q1 q2; first | omega | exact h8_12 (cb_eq.2 q2)); rw [decide_eq_false hd, hp1]; exact finO rfl rfl (fun _ _ _ e => e) (by omega)))) : P := h
theorem Q30 {P : Prop} (h : P := by (first | rfl | (apply srcView rfl; exact Q0; (first | exact Nat.le_refl _ | omega); rfl))) : P := h
theorem Q31 {P : Prop} (h : P := by (first | omega | assumption | (rw [strOf_size]; show ((1 : Nat) : Int) + _ ≤ _; omega) | (rw [strOf_size]; show 1 + _ ≤ _; omega) | (show 1 + _ ≤ _; omega) | (focus (simp; omega)))) : P := h
theorem Q32 {P : Prop} (h : P := by (first | omega | (focus (simp only [List.length_cons, List.length_nil]; omega)) | exact Nat.le_of_ble_eq_true rfl)) : P := h
theorem Q33 {P : Prop} (h : P := by (first | rfl | exact hrow (by omega))) : P := h
theorem Q34 {P : Prop} (h : P := by (first | exact Q0 | fail)) : P := h
theorem Q35 {P : Prop} (h : P := by (first | rfl | assumption | exact hx (by omega))) : P := h
open Go.V
set_option linter.unusedVariables false
set_option maxRecDepth 20000
noncomputable def En : Env := ⟨Try.prog, fun _ => none⟩
theorem p84 (a b c : Int) : Pure En 57 [.one (.int .i64 a), .one (.int .i64 b), .one (.int .i64 c)] [.one (.bool (decide (b ≤ a ∧ a ≤ c)))] := by
 refine Pure.of_wp Try.func57 rfl (Nat.le_of_ble_eq_true rfl) ?_
 refine wSeq (wRegion (raB rfl rfl rfl rfl rfl (rNil (qSeq (wSeq (wRegion (rmI rfl rfl rfl rfl rfl (rmI rfl rfl rfl rfl rfl ?_))))))))
 refine rge rfl rfl rfl rfl rfl rfl ?_ ?_ <;> intro h1_2
 ·refine rmB rfl rfl rfl rfl rfl (rmI rfl rfl rfl rfl rfl (rmI rfl rfl rfl rfl rfl ?_))
  refine rle rfl rfl rfl rfl rfl rfl ?_ ?_ <;> intro h1_6
  ·refine rpk (e := true) rfl rfl rfl rfl rfl rfl (raB rfl rfl rfl rfl rfl (rNil (qSeq (wRet ?_))))
   first | (refine finT rfl ?_; omega) | (refine finF rfl ?_; omega)
  ·refine rpk (e := false) rfl rfl rfl rfl rfl rfl (raB rfl rfl rfl rfl rfl (rNil (qSeq (wRet ?_))))
   first | (refine finT rfl ?_; omega) | (refine finF rfl ?_; omega)
 ·refine rmB rfl rfl rfl rfl rfl (rSkip rfl rfl rfl (rSkip rfl rfl rfl (rSkip rfl rfl rfl (rpk (e := false) rfl rfl rfl rfl rfl rfl (raB rfl rfl rfl rfl rfl (rNil (qSeq (wRet ?_))))))))
  first | (refine finT rfl ?_; omega) | (refine finF rfl ?_; omega)
theorem p45 (a b c : Int) : Pure En 77 [.one (.int .i64 a), .one (.int .i64 b), .one (.int .i64 c)] [.one (.bool (decide (b ≤ a ∧ a ≤ c)))] := by
 refine Pure.of_wp Try.func77 rfl (Nat.le_of_ble_eq_true rfl) ?_
 refine wSeq (wRegion (raB rfl rfl rfl rfl rfl (rNil (qSeq (wSeq (wRegion (rmI rfl rfl rfl rfl rfl (rmI rfl rfl rfl rfl rfl ?_))))))))
 refine rge rfl rfl rfl rfl rfl rfl ?_ ?_ <;> intro h1_2
 ·refine rmB rfl rfl rfl rfl rfl (rmI rfl rfl rfl rfl rfl (rmI rfl rfl rfl rfl rfl ?_))
  refine rle rfl rfl rfl rfl rfl rfl ?_ ?_ <;> intro h1_6
  ·refine rpk (e := true) rfl rfl rfl rfl rfl rfl (raB rfl rfl rfl rfl rfl (rNil (qSeq (wRet ?_))))
   first | (refine finT rfl ?_; omega) | (refine finF rfl ?_; omega)
  ·refine rpk (e := false) rfl rfl rfl rfl rfl rfl (raB rfl rfl rfl rfl rfl (rNil (qSeq (wRet ?_))))
   first | (refine finT rfl ?_; omega) | (refine finF rfl ?_; omega)
 ·refine rmB rfl rfl rfl rfl rfl (rSkip rfl rfl rfl (rSkip rfl rfl rfl (rSkip rfl rfl rfl (rpk (e := false) rfl rfl rfl rfl rfl rfl (raB rfl rfl rfl rfl rfl (rNil (qSeq (wRet ?_))))))))
  first | (refine finT rfl ?_; omega) | (refine finF rfl ?_; omega)
def letter (a : Int) : Prop := (97 ≤ a ∧ a ≤ 122) ∨ (65 ≤ a ∧ a ≤ 90) ∨ a = 95
instance (a : Int) : Decidable (letter a) := by unfold letter; infer_instance
def digit (a : Int) : Prop := 48 ≤ a ∧ a ≤ 57
instance (a : Int) : Decidable (digit a) := by unfold digit; infer_instance
theorem p93 (a : Int) : Pure En 148 [.one (.int .u8 a)] [.one (.bool (decide (letter a)))] := by
 refine Pure.of_wp Try.func148 rfl (Nat.le_of_ble_eq_true rfl) ?_
 refine wSeq (wRegion (raB rfl rfl rfl rfl rfl (rNil (qSeq (wSeq (wRegion (rmI rfl rfl rfl rfl rfl ?_)))))))
 refine rge rfl rfl rfl rfl rfl rfl ?_ ?_ <;> intro h1_1
 ·refine rmB rfl rfl rfl rfl rfl (rmI rfl rfl rfl rfl rfl ?_)
  refine rle rfl rfl rfl rfl rfl rfl ?_ ?_ <;> intro h1_4
  ·refine rpk (e := true) rfl rfl rfl rfl rfl rfl (rmB rfl rfl rfl rfl rfl (rSkip rfl rfl rfl (rSkip rfl rfl rfl (rSkip rfl rfl rfl (rSkip rfl rfl rfl (rSkip rfl rfl rfl (rSkip rfl rfl rfl (rpk (e := true) rfl rfl rfl rfl rfl rfl (rmB rfl rfl rfl rfl rfl (rSkip rfl rfl rfl (rSkip rfl rfl rfl (rpk (e := true) rfl rfl rfl rfl rfl rfl ?_))))))))))))
   refine raB rfl rfl rfl rfl rfl (rNil (qSeq (wRet ?_)))
   first | (refine finT rfl ?_; unfold letter; omega) | (refine finF rfl ?_; unfold letter; omega)
  ·refine rpk (e := false) rfl rfl rfl rfl rfl rfl (rmB rfl rfl rfl rfl rfl (rmI rfl rfl rfl rfl rfl ?_))
   refine rge rfl rfl rfl rfl rfl rfl ?_ ?_ <;> intro h1_8
   ·refine rmB rfl rfl rfl rfl rfl (rmI rfl rfl rfl rfl rfl ?_)
    refine rle rfl rfl rfl rfl rfl rfl ?_ ?_ <;> intro h1_11
    ·refine rpk (e := true) rfl rfl rfl rfl rfl rfl (rpk (e := true) rfl rfl rfl rfl rfl rfl (rmB rfl rfl rfl rfl rfl (rSkip rfl rfl rfl (rSkip rfl rfl rfl (rpk (e := true) rfl rfl rfl rfl rfl rfl (raB rfl rfl rfl rfl rfl (rNil (qSeq (wRet ?_)))))))))
     first | (refine finT rfl ?_; unfold letter; omega) | (refine finF rfl ?_; unfold letter; omega)
    ·refine rpk (e := false) rfl rfl rfl rfl rfl rfl (rpk (e := false) rfl rfl rfl rfl rfl rfl (rmB rfl rfl rfl rfl rfl (rmI rfl rfl rfl rfl rfl ?_)))
     refine req rfl rfl rfl rfl rfl rfl ?_ ?_ <;> intro h1_16
     ·refine rpk (e := true) rfl rfl rfl rfl rfl rfl (raB rfl rfl rfl rfl rfl (rNil (qSeq (wRet ?_))))
      first | (refine finT rfl ?_; unfold letter; omega) | (refine finF rfl ?_; unfold letter; omega)
     ·refine rpk (e := false) rfl rfl rfl rfl rfl rfl (raB rfl rfl rfl rfl rfl (rNil (qSeq (wRet ?_))))
      first | (refine finT rfl ?_; unfold letter; omega) | (refine finF rfl ?_; unfold letter; omega)
   ·refine rmB rfl rfl rfl rfl rfl (rSkip rfl rfl rfl (rSkip rfl rfl rfl (rpk (e := false) rfl rfl rfl rfl rfl rfl (rpk (e := false) rfl rfl rfl rfl rfl rfl (rmB rfl rfl rfl rfl rfl (rmI rfl rfl rfl rfl rfl ?_))))))
    refine req rfl rfl rfl rfl rfl rfl ?_ ?_ <;> intro h1_16
    ·refine rpk (e := true) rfl rfl rfl rfl rfl rfl (raB rfl rfl rfl rfl rfl (rNil (qSeq (wRet ?_))))
     first | (refine finT rfl ?_; unfold letter; omega) | (refine finF rfl ?_; unfold letter; omega)
    ·refine rpk (e := false) rfl rfl rfl rfl rfl rfl (raB rfl rfl rfl rfl rfl (rNil (qSeq (wRet ?_))))
     first | (refine finT rfl ?_; unfold letter; omega) | (refine finF rfl ?_; unfold letter; omega)
 ·refine rmB rfl rfl rfl rfl rfl (rSkip rfl rfl rfl (rSkip rfl rfl rfl (rpk (e := false) rfl rfl rfl rfl rfl rfl (rmB rfl rfl rfl rfl rfl (rmI rfl rfl rfl rfl rfl ?_)))))
  refine rge rfl rfl rfl rfl rfl rfl ?_ ?_ <;> intro h1_8
  ·refine rmB rfl rfl rfl rfl rfl (rmI rfl rfl rfl rfl rfl ?_)
   refine rle rfl rfl rfl rfl rfl rfl ?_ ?_ <;> intro h1_11
   ·refine rpk (e := true) rfl rfl rfl rfl rfl rfl (rpk (e := true) rfl rfl rfl rfl rfl rfl (rmB rfl rfl rfl rfl rfl (rSkip rfl rfl rfl (rSkip rfl rfl rfl (rpk (e := true) rfl rfl rfl rfl rfl rfl (raB rfl rfl rfl rfl rfl (rNil (qSeq (wRet ?_)))))))))
    first | (refine finT rfl ?_; unfold letter; omega) | (refine finF rfl ?_; unfold letter; omega)
   ·refine rpk (e := false) rfl rfl rfl rfl rfl rfl (rpk (e := false) rfl rfl rfl rfl rfl rfl (rmB rfl rfl rfl rfl rfl (rmI rfl rfl rfl rfl rfl ?_)))
    refine req rfl rfl rfl rfl rfl rfl ?_ ?_ <;> intro h1_16
    ·refine rpk (e := true) rfl rfl rfl rfl rfl rfl (raB rfl rfl rfl rfl rfl (rNil (qSeq (wRet ?_))))
     first | (refine finT rfl ?_; unfold letter; omega) | (refine finF rfl ?_; unfold letter; omega)
    ·refine rpk (e := false) rfl rfl rfl rfl rfl rfl (raB rfl rfl rfl rfl rfl (rNil (qSeq (wRet ?_))))
     first | (refine finT rfl ?_; unfold letter; omega) | (refine finF rfl ?_; unfold letter; omega)
  ·refine rmB rfl rfl rfl rfl rfl (rSkip rfl rfl rfl (rSkip rfl rfl rfl (rpk (e := false) rfl rfl rfl rfl rfl rfl (rpk (e := false) rfl rfl rfl rfl rfl rfl (rmB rfl rfl rfl rfl rfl (rmI rfl rfl rfl rfl rfl ?_))))))
   refine req rfl rfl rfl rfl rfl rfl ?_ ?_ <;> intro h1_16
   ·refine rpk (e := true) rfl rfl rfl rfl rfl rfl (raB rfl rfl rfl rfl rfl (rNil (qSeq (wRet ?_))))
    first | (refine finT rfl ?_; unfold letter; omega) | (refine finF rfl ?_; unfold letter; omega)
   ·refine rpk (e := false) rfl rfl rfl rfl rfl rfl (raB rfl rfl rfl rfl rfl (rNil (qSeq (wRet ?_))))
    first | (refine finT rfl ?_; unfold letter; omega) | (refine finF rfl ?_; unfold letter; omega)
theorem p83 (a : Int) : Pure En 145 [.one (.int .u8 a)] [.one (.bool (decide (letter a)))] := by
 refine Pure.of_wp Try.func145 rfl (Nat.le_of_ble_eq_true rfl) ?_
 refine wSeq (wRegion (raB rfl rfl rfl rfl rfl (rNil (qSeq (wSeq (wRegion (rmI rfl rfl rfl rfl rfl ?_)))))))
 refine rge rfl rfl rfl rfl rfl rfl ?_ ?_ <;> intro h1_1
 ·refine rmB rfl rfl rfl rfl rfl (rmI rfl rfl rfl rfl rfl ?_)
  refine rle rfl rfl rfl rfl rfl rfl ?_ ?_ <;> intro h1_4
  ·refine rpk (e := true) rfl rfl rfl rfl rfl rfl (rmB rfl rfl rfl rfl rfl (rSkip rfl rfl rfl (rSkip rfl rfl rfl (rSkip rfl rfl rfl (rSkip rfl rfl rfl (rSkip rfl rfl rfl (rSkip rfl rfl rfl (rpk (e := true) rfl rfl rfl rfl rfl rfl (rmB rfl rfl rfl rfl rfl (rSkip rfl rfl rfl (rSkip rfl rfl rfl (rpk (e := true) rfl rfl rfl rfl rfl rfl ?_))))))))))))
   refine raB rfl rfl rfl rfl rfl (rNil (qSeq (wRet ?_)))
   first | (refine finT rfl ?_; unfold letter; omega) | (refine finF rfl ?_; unfold letter; omega)
  ·refine rpk (e := false) rfl rfl rfl rfl rfl rfl (rmB rfl rfl rfl rfl rfl (rmI rfl rfl rfl rfl rfl ?_))
   refine rge rfl rfl rfl rfl rfl rfl ?_ ?_ <;> intro h1_8
   ·refine rmB rfl rfl rfl rfl rfl (rmI rfl rfl rfl rfl rfl ?_)
    refine rle rfl rfl rfl rfl rfl rfl ?_ ?_ <;> intro h1_11
    ·refine rpk (e := true) rfl rfl rfl rfl rfl rfl (rpk (e := true) rfl rfl rfl rfl rfl rfl (rmB rfl rfl rfl rfl rfl (rSkip rfl rfl rfl (rSkip rfl rfl rfl (rpk (e := true) rfl rfl rfl rfl rfl rfl (raB rfl rfl rfl rfl rfl (rNil (qSeq (wRet ?_)))))))))
     first | (refine finT rfl ?_; unfold letter; omega) | (refine finF rfl ?_; unfold letter; omega)
    ·refine rpk (e := false) rfl rfl rfl rfl rfl rfl (rpk (e := false) rfl rfl rfl rfl rfl rfl (rmB rfl rfl rfl rfl rfl (rmI rfl rfl rfl rfl rfl ?_)))
     refine req rfl rfl rfl rfl rfl rfl ?_ ?_ <;> intro h1_16
     ·refine rpk (e := true) rfl rfl rfl rfl rfl rfl (raB rfl rfl rfl rfl rfl (rNil (qSeq (wRet ?_))))
      first | (refine finT rfl ?_; unfold letter; omega) | (refine finF rfl ?_; unfold letter; omega)
     ·refine rpk (e := false) rfl rfl rfl rfl rfl rfl (raB rfl rfl rfl rfl rfl (rNil (qSeq (wRet ?_))))
      first | (refine finT rfl ?_; unfold letter; omega) | (refine finF rfl ?_; unfold letter; omega)
   ·refine rmB rfl rfl rfl rfl rfl (rSkip rfl rfl rfl (rSkip rfl rfl rfl (rpk (e := false) rfl rfl rfl rfl rfl rfl (rpk (e := false) rfl rfl rfl rfl rfl rfl (rmB rfl rfl rfl rfl rfl (rmI rfl rfl rfl rfl rfl ?_))))))
    refine req rfl rfl rfl rfl rfl rfl ?_ ?_ <;> intro h1_16
    ·refine rpk (e := true) rfl rfl rfl rfl rfl rfl (raB rfl rfl rfl rfl rfl (rNil (qSeq (wRet ?_))))
     first | (refine finT rfl ?_; unfold letter; omega) | (refine finF rfl ?_; unfold letter; omega)
    ·refine rpk (e := false) rfl rfl rfl rfl rfl rfl (raB rfl rfl rfl rfl rfl (rNil (qSeq (wRet ?_))))
     first | (refine finT rfl ?_; unfold letter; omega) | (refine finF rfl ?_; unfold letter; omega)
 ·refine rmB rfl rfl rfl rfl rfl (rSkip rfl rfl rfl (rSkip rfl rfl rfl (rpk (e := false) rfl rfl rfl rfl rfl rfl (rmB rfl rfl rfl rfl rfl (rmI rfl rfl rfl rfl rfl ?_)))))
  refine rge rfl rfl rfl rfl rfl rfl ?_ ?_ <;> intro h1_8
  ·refine rmB rfl rfl rfl rfl rfl (rmI rfl rfl rfl rfl rfl ?_)
   refine rle rfl rfl rfl rfl rfl rfl ?_ ?_ <;> intro h1_11
   ·refine rpk (e := true) rfl rfl rfl rfl rfl rfl (rpk (e := true) rfl rfl rfl rfl rfl rfl (rmB rfl rfl rfl rfl rfl (rSkip rfl rfl rfl (rSkip rfl rfl rfl (rpk (e := true) rfl rfl rfl rfl rfl rfl (raB rfl rfl rfl rfl rfl (rNil (qSeq (wRet ?_)))))))))
    first | (refine finT rfl ?_; unfold letter; omega) | (refine finF rfl ?_; unfold letter; omega)
   ·refine rpk (e := false) rfl rfl rfl rfl rfl rfl (rpk (e := false) rfl rfl rfl rfl rfl rfl (rmB rfl rfl rfl rfl rfl (rmI rfl rfl rfl rfl rfl ?_)))
    refine req rfl rfl rfl rfl rfl rfl ?_ ?_ <;> intro h1_16
    ·refine rpk (e := true) rfl rfl rfl rfl rfl rfl (raB rfl rfl rfl rfl rfl (rNil (qSeq (wRet ?_))))
     first | (refine finT rfl ?_; unfold letter; omega) | (refine finF rfl ?_; unfold letter; omega)
    ·refine rpk (e := false) rfl rfl rfl rfl rfl rfl (raB rfl rfl rfl rfl rfl (rNil (qSeq (wRet ?_))))
     first | (refine finT rfl ?_; unfold letter; omega) | (refine finF rfl ?_; unfold letter; omega)
  ·refine rmB rfl rfl rfl rfl rfl (rSkip rfl rfl rfl (rSkip rfl rfl rfl (rpk (e := false) rfl rfl rfl rfl rfl rfl (rpk (e := false) rfl rfl rfl rfl rfl rfl (rmB rfl rfl rfl rfl rfl (rmI rfl rfl rfl rfl rfl ?_))))))
   refine req rfl rfl rfl rfl rfl rfl ?_ ?_ <;> intro h1_16
   ·refine rpk (e := true) rfl rfl rfl rfl rfl rfl (raB rfl rfl rfl rfl rfl (rNil (qSeq (wRet ?_))))
    first | (refine finT rfl ?_; unfold letter; omega) | (refine finF rfl ?_; unfold letter; omega)
   ·refine rpk (e := false) rfl rfl rfl rfl rfl rfl (raB rfl rfl rfl rfl rfl (rNil (qSeq (wRet ?_))))
    first | (refine finT rfl ?_; unfold letter; omega) | (refine finF rfl ?_; unfold letter; omega)
theorem p94 (a : Int) : Pure En 149 [.one (.int .u8 a)] [.one (.bool (decide (digit a)))] := by
 refine Pure.of_wp Try.func149 rfl (Nat.le_of_ble_eq_true rfl) ?_
 refine wSeq (wRegion (raB rfl rfl rfl rfl rfl (rNil (qSeq (wSeq (wRegion (rmI rfl rfl rfl rfl rfl ?_)))))))
 refine rge rfl rfl rfl rfl rfl rfl ?_ ?_ <;> intro h1_1
 ·refine rmB rfl rfl rfl rfl rfl (rmI rfl rfl rfl rfl rfl ?_)
  refine rle rfl rfl rfl rfl rfl rfl ?_ ?_ <;> intro h1_4
  ·refine rpk (e := true) rfl rfl rfl rfl rfl rfl (raB rfl rfl rfl rfl rfl (rNil (qSeq (wRet ?_))))
   first | (refine finT rfl ?_; unfold digit; omega) | (refine finF rfl ?_; unfold digit; omega)
  ·refine rpk (e := false) rfl rfl rfl rfl rfl rfl (raB rfl rfl rfl rfl rfl (rNil (qSeq (wRet ?_))))
   first | (refine finT rfl ?_; unfold digit; omega) | (refine finF rfl ?_; unfold digit; omega)
 ·refine rmB rfl rfl rfl rfl rfl (rSkip rfl rfl rfl (rSkip rfl rfl rfl (rpk (e := false) rfl rfl rfl rfl rfl rfl (raB rfl rfl rfl rfl rfl (rNil (qSeq (wRet ?_)))))))
  first | (refine finT rfl ?_; unfold digit; omega) | (refine finF rfl ?_; unfold digit; omega)
def word (s : ByteArray) : Prop := 1 ≤ s.size ∧ s.size ≤ 40 ∧ letter (bt s 0) ∧ ∀ j, j < s.size → letter (bt s j) ∨ digit (bt s j)
noncomputable instance (s : ByteArray) : Decidable (word s) := Classical.propDecidable _
theorem p91 (s : ByteArray) : Pure En 142 [.one (.str s)] [.one (.bool (decide (word s)))] := by
 refine Pure.of_wp Try.func142 rfl (Nat.le_of_ble_eq_true rfl) ?_
 refine wSeq (wRegion (raB rfl rfl rfl rfl rfl (rNil (qSeq (wSeq (wSeq (wRegion (rmS rfl rfl rfl rfl rfl (rls rfl rfl rfl rfl rfl rfl ?_)))))))))
 refine rlt rfl rfl rfl rfl rfl rfl ?_ ?_ <;> intro h1_2
 ·refine rmB rfl rfl rfl rfl rfl (rSkip rfl rfl rfl (rSkip rfl rfl rfl (rSkip rfl rfl rfl (rpk (e := true) rfl rfl rfl rfl rfl rfl (rmB rfl rfl rfl rfl rfl (rSkip rfl rfl rfl (rSkip rfl rfl rfl (rSkip rfl rfl rfl (rSkip rfl rfl rfl (rpk (e := true) rfl rfl rfl rfl rfl rfl (rNil (qSeq ?_))))))))))))
  refine wT rfl (wSeq (wRegion (raB rfl rfl rfl rfl rfl (rNil (qSeq (wRet (qSeqR ?_)))))))
  first
   | exact finT rfl ⟨by omega, by omega, by assumption, fun j hj => hI.2.2 j (by omega)⟩
   | (refine finF rfl fun hw => ?_; obtain ⟨w1, w2, w3, w4⟩ := hw; first | omega | exact h1_11 w3 | exact (w4 i (by omega)).elim h6_3 h6_9)
 ·refine rmB rfl rfl rfl rfl rfl (rmS rfl rfl rfl rfl rfl (rls rfl rfl rfl rfl rfl rfl ?_))
  refine rgt rfl rfl rfl rfl rfl rfl ?_ ?_ <;> intro h1_6
  ·refine rpk (e := true) rfl rfl rfl rfl rfl rfl (rmB rfl rfl rfl rfl rfl (rSkip rfl rfl rfl (rSkip rfl rfl rfl (rSkip rfl rfl rfl (rSkip rfl rfl rfl (rpk (e := true) rfl rfl rfl rfl rfl rfl (rNil (qSeq (wT rfl (wSeq (wRegion (raB rfl rfl rfl rfl rfl ?_))))))))))))
   refine rNil (qSeq (wRet (qSeqR ?_)))
   first
    | exact finT rfl ⟨by omega, by omega, by assumption, fun j hj => hI.2.2 j (by omega)⟩
    | (refine finF rfl fun hw => ?_; obtain ⟨w1, w2, w3, w4⟩ := hw; first | omega | exact h1_11 w3 | exact (w4 i (by omega)).elim h6_3 h6_9)
  ·refine rpk (e := false) rfl rfl rfl rfl rfl rfl (rmB rfl rfl rfl rfl rfl (rmS rfl rfl rfl rfl rfl (rixsK (i := 0) rfl rfl rfl rfl ?_ ?_ rfl rfl rfl rfl ?_)))
   ·exact Q5
   ·exact Q5
   refine rclP (p93 _) rfl rfl rfl rfl rfl rfl ?_ ?_ <;> intro h1_11
   ·refine rnot (c := true) rfl rfl rfl rfl rfl (rpk (e := false) rfl rfl rfl rfl rfl rfl (rNil (qSeq (wF rfl (wSkip (qSeq (wSeq (wSeq (wRegion (raI rfl rfl rfl rfl rfl (rNil (qSeq ?_))))))))))))
    refine wBlock (wLoop ?_)
    refine loopGo0 (fun (i : Nat) => [.str s, .unk, .unk, .int .i64 i]) (fun (i : Nat) => 1 ≤ i ∧ i ≤ s.size ∧ ∀ j, j < i → letter (bt s j) ∨ digit (bt s j)) (fun (i : Nat) => s.size - i) 1 ?_ ?_ ?_
    ·exact ⟨by omega, by omega, allS all0 (.inl h1_11)⟩
    ·(repeat first | exact LE.nil _ | refine LE.unk _ _ ?_ | refine LE.eq _ _ _ rfl ?_)
    intro i hI ih
    refine lStep (wSeq (wSeq (wRegion (rmI rfl rfl rfl rfl rfl (rmS rfl rfl rfl rfl rfl (rls rfl rfl rfl rfl rfl rfl ?_))))))
    refine rlt rfl rfl rfl rfl rfl rfl ?_ ?_ <;> intro h4_3
    ·refine rNil (qSeq (wT rfl (wSkip (qSeq (wSeq (wBlock (wSeq (wRegion (rmS rfl rfl rfl rfl rfl (rmI rfl rfl rfl rfl rfl (rixs rfl rfl rfl rfl ?_ ?_ rfl rfl rfl ?_)))))))))))
     ·exact Q5
     ·exact Q5
     refine rclP (p93 _) rfl rfl rfl rfl rfl rfl ?_ ?_ <;> intro h6_3
     ·refine rnot (c := true) rfl rfl rfl rfl rfl (rmB rfl rfl rfl rfl rfl (rSkip rfl rfl rfl (rSkip rfl rfl rfl (rSkip rfl rfl rfl (rSkip rfl rfl rfl (rSkip rfl rfl rfl (rpk (e := false) rfl rfl rfl rfl rfl rfl (rNil (qSeq (wF rfl (wSkip (qBlock ?_))))))))))))
      refine qSeq (wRegion (rmI rfl rfl rfl rfl rfl (raddF rfl rfl rfl ?_ ?_ rfl rfl rfl ?_)))
      ·exact Q5
      ·exact Q5
      refine raI rfl rfl rfl rfl rfl (rNil (qLoop ?_))
      exact wlN (ih (i + 1) ⟨by omega, by omega, allS hI.2.2 (by first | exact .inl h6_3 | exact .inr h6_9)⟩ (by omega)) (by (repeat first | exact LE.nil _ | refine LE.unk _ _ ?_ | refine LE.eq _ _ _ rfl ?_))
     ·refine rnot (c := false) rfl rfl rfl rfl rfl (rmB rfl rfl rfl rfl rfl (rmS rfl rfl rfl rfl rfl (rmI rfl rfl rfl rfl rfl (rixs rfl rfl rfl rfl ?_ ?_ rfl rfl rfl ?_))))
      ·exact Q5
      ·exact Q5
      refine rclP (p94 _) rfl rfl rfl rfl rfl rfl ?_ ?_ <;> intro h6_9
      ·refine rnot (c := true) rfl rfl rfl rfl rfl (rpk (e := false) rfl rfl rfl rfl rfl rfl (rNil (qSeq (wF rfl (wSkip (qBlock (qSeq (wRegion (rmI rfl rfl rfl rfl rfl (raddF rfl rfl rfl ?_ ?_ rfl rfl rfl ?_))))))))))
       ·exact Q5
       ·exact Q5
       refine raI rfl rfl rfl rfl rfl (rNil (qLoop ?_))
       exact wlN (ih (i + 1) ⟨by omega, by omega, allS hI.2.2 (by first | exact .inl h6_3 | exact .inr h6_9)⟩ (by omega)) (by (repeat first | exact LE.nil _ | refine LE.unk _ _ ?_ | refine LE.eq _ _ _ rfl ?_))
      ·refine rnot (c := false) rfl rfl rfl rfl rfl (rpk (e := true) rfl rfl rfl rfl rfl rfl (rNil (qSeq (wT rfl (wSeq (wRegion (raB rfl rfl rfl rfl rfl (rNil (qSeq (wRet (qBlockR (qSeqR ?_))))))))))))
       refine qLoopR (qBlockR (qSeqR ?_))
       first
        | exact finT rfl ⟨by omega, by omega, by assumption, fun j hj => hI.2.2 j (by omega)⟩
        | (refine finF rfl fun hw => ?_; obtain ⟨w1, w2, w3, w4⟩ := hw; first | omega | exact h1_11 w3 | exact (w4 i (by omega)).elim h6_3 h6_9)
    ·refine rNil (qSeq (wF rfl (wExit (qSeqX (qLoopX (qBlockX (qSeq (wSeq (wRegion (raB rfl rfl rfl rfl rfl (rNil (qSeq ?_))))))))))))
     refine wRet ?_
     first
      | exact finT rfl ⟨by omega, by omega, by assumption, fun j hj => hI.2.2 j (by omega)⟩
      | (refine finF rfl fun hw => ?_; obtain ⟨w1, w2, w3, w4⟩ := hw; first | omega | exact h1_11 w3 | exact (w4 i (by omega)).elim h6_3 h6_9)
   ·refine rnot (c := false) rfl rfl rfl rfl rfl (rpk (e := true) rfl rfl rfl rfl rfl rfl (rNil (qSeq (wT rfl (wSeq (wRegion (raB rfl rfl rfl rfl rfl (rNil (qSeq (wRet (qSeqR ?_)))))))))))
    first
     | exact finT rfl ⟨by omega, by omega, by assumption, fun j hj => hI.2.2 j (by omega)⟩
     | (refine finF rfl fun hw => ?_; obtain ⟨w1, w2, w3, w4⟩ := hw; first | omega | exact h1_11 w3 | exact (w4 i (by omega)).elim h6_3 h6_9)
theorem p89 (s : ByteArray) : Pure En 119 [.one (.str s)] [.one (.bool (decide (word s)))] := by
 refine Pure.of_wp Try.func119 rfl (Nat.le_of_ble_eq_true rfl) ?_
 refine wSeq (wRegion (raB rfl rfl rfl rfl rfl (rNil (qSeq (wSeq (wRegion (rmS rfl rfl rfl rfl rfl ?_)))))))
 refine rclP (p91 _) rfl rfl rfl rfl rfl rfl ?_ ?_ <;> intro h1_1
 ·refine raB rfl rfl rfl rfl rfl (rNil (qSeq (wRet ?_)))
  first | exact finT rfl (by assumption) | exact finF rfl (by assumption)
 ·refine raB rfl rfl rfl rfl rfl (rNil (qSeq (wRet ?_)))
  first | exact finT rfl (by assumption) | exact finF rfl (by assumption)
open Go.V
set_option linter.unusedVariables false
set_option maxRecDepth 20000
theorem p72 (s : ByteArray) : Pure En 133 [.one (.str s)] [.one (.bool (decide (word s)))] := by
 refine Pure.of_wp Try.func133 rfl (Nat.le_of_ble_eq_true rfl) ?_
 refine wSeq (wRegion (raB rfl rfl rfl rfl rfl (rNil (qSeq (wSeq (wSeq (wRegion (rmS rfl rfl rfl rfl rfl (rls rfl rfl rfl rfl rfl rfl ?_)))))))))
 refine rlt rfl rfl rfl rfl rfl rfl ?_ ?_ <;> intro h1_2
 ·refine rmB rfl rfl rfl rfl rfl (rSkip rfl rfl rfl (rSkip rfl rfl rfl (rSkip rfl rfl rfl (rpk (e := true) rfl rfl rfl rfl rfl rfl (rmB rfl rfl rfl rfl rfl (rSkip rfl rfl rfl (rSkip rfl rfl rfl (rSkip rfl rfl rfl (rSkip rfl rfl rfl (rpk (e := true) rfl rfl rfl rfl rfl rfl (rNil (qSeq ?_))))))))))))
  refine wT rfl (wSeq (wRegion (raB rfl rfl rfl rfl rfl (rNil (qSeq (wRet (qSeqR ?_)))))))
  first
   | exact finT rfl ⟨by omega, by omega, by assumption, fun j hj => hI.2 j (by omega)⟩
   | (refine finF rfl fun hw => ?_; obtain ⟨w1, w2, w3, w4⟩ := hw; first | omega | exact h1_11 w3 | (have := (w4 i (by omega)).resolve_left h6_3; unfold digit at this; unfold bt at *; omega) | (have := (w4 i (by omega)).resolve_left h6_3; unfold digit at this; first | exact absurd this.1 (Int.not_le.mpr h6_9) | exact absurd this.2 (Int.not_le.mpr h6_14)))
 ·refine rmB rfl rfl rfl rfl rfl (rmS rfl rfl rfl rfl rfl (rls rfl rfl rfl rfl rfl rfl ?_))
  refine rgt rfl rfl rfl rfl rfl rfl ?_ ?_ <;> intro h1_6
  ·refine rpk (e := true) rfl rfl rfl rfl rfl rfl (rmB rfl rfl rfl rfl rfl (rSkip rfl rfl rfl (rSkip rfl rfl rfl (rSkip rfl rfl rfl (rSkip rfl rfl rfl (rpk (e := true) rfl rfl rfl rfl rfl rfl (rNil (qSeq (wT rfl (wSeq (wRegion (raB rfl rfl rfl rfl rfl ?_))))))))))))
   refine rNil (qSeq (wRet (qSeqR ?_)))
   first
    | exact finT rfl ⟨by omega, by omega, by assumption, fun j hj => hI.2 j (by omega)⟩
    | (refine finF rfl fun hw => ?_; obtain ⟨w1, w2, w3, w4⟩ := hw; first | omega | exact h1_11 w3 | (have := (w4 i (by omega)).resolve_left h6_3; unfold digit at this; unfold bt at *; omega) | (have := (w4 i (by omega)).resolve_left h6_3; unfold digit at this; first | exact absurd this.1 (Int.not_le.mpr h6_9) | exact absurd this.2 (Int.not_le.mpr h6_14)))
  ·refine rpk (e := false) rfl rfl rfl rfl rfl rfl (rmB rfl rfl rfl rfl rfl (rmS rfl rfl rfl rfl rfl (rixsK (i := 0) rfl rfl rfl rfl ?_ ?_ rfl rfl rfl rfl ?_)))
   ·exact Q5
   ·exact Q5
   refine rclP (p83 _) rfl rfl rfl rfl rfl rfl ?_ ?_ <;> intro h1_11
   ·refine rnot (c := true) rfl rfl rfl rfl rfl (rpk (e := false) rfl rfl rfl rfl rfl rfl (rNil (qSeq (wF rfl (wSkip (qSeq (wSeq (wSeq (wRegion (rmS rfl rfl rfl rfl rfl (rls rfl rfl rfl rfl rfl rfl (rmI rfl rfl rfl rfl rfl ?_))))))))))))
    refine rNil (qSeq (wBlock (wLoop ?_)))
    refine loopGo0 (fun (i : Nat) => [.str s, .unk, .unk, .unk, .unk, .unk, .unk, .unk, .unk, .unk, .unk, .unk, .unk, .unk, .unk, .unk, .unk, .unk, .unk, .int .i64 s.size, .int .i64 i]) (fun (i : Nat) => i ≤ s.size ∧ ∀ j, j < i → letter (bt s j) ∨ digit (bt s j)) (fun (i : Nat) => s.size - i) 0 ?_ ?_ ?_
    ·exact ⟨by omega, all0⟩
    ·(repeat first | exact LE.nil _ | refine LE.unk _ _ ?_ | refine LE.eq _ _ _ rfl ?_)
    intro i hI ih
    refine lStep (wSeq (wRegion ?_))
    refine rlt rfl rfl rfl rfl rfl rfl ?_ ?_ <;> intro h4_0
    ·refine rNil (qSeq (wSeq (wT rfl (wSkip (qSeq (wSeq (wBlock (wSeq (wRegion (rmI rfl rfl rfl rfl rfl (raI rfl rfl rfl rfl rfl (rNil ?_))))))))))))
     refine qSeq (wSeq (wRegion (rmS rfl rfl rfl rfl rfl (rmI rfl rfl rfl rfl rfl (rixs rfl rfl rfl rfl ?_ ?_ rfl rfl rfl ?_)))))
     ·exact Q5
     ·exact Q5
     refine rclP (p83 _) rfl rfl rfl rfl rfl rfl ?_ ?_ <;> intro h6_3
     ·refine rnot (c := true) rfl rfl rfl rfl rfl (rmB rfl rfl rfl rfl rfl (rSkip rfl rfl rfl (rSkip rfl rfl rfl (rSkip rfl rfl rfl (rSkip rfl rfl rfl (rSkip rfl rfl rfl (rSkip rfl rfl rfl (rSkip rfl rfl rfl (rSkip rfl rfl rfl (rSkip rfl rfl rfl (rSkip rfl rfl rfl (rpk (e := false) rfl rfl rfl rfl rfl rfl ?_))))))))))))
      refine rNil (qSeq (wF rfl (wSkip (qBlock (qSeq (wRegion (raddF rfl rfl rfl ?_ ?_ rfl rfl rfl ?_)))))))
      ·exact Q5
      ·exact Q5
      refine rmI rfl rfl rfl rfl rfl (rNil (qLoop ?_))
      exact wlN (ih (i + 1) ⟨by omega, allS hI.2 (by first | exact .inl h6_3 | exact .inr ⟨Int.not_lt.mp h6_9, Int.not_lt.mp h6_14⟩)⟩ (by omega)) (by (repeat first | exact LE.nil _ | refine LE.unk _ _ ?_ | refine LE.eq _ _ _ rfl ?_))
     ·refine rnot (c := false) rfl rfl rfl rfl rfl (rmB rfl rfl rfl rfl rfl (rmS rfl rfl rfl rfl rfl (rmI rfl rfl rfl rfl rfl (rixs rfl rfl rfl rfl ?_ ?_ rfl rfl rfl ?_))))
      ·exact Q5
      ·exact Q5
      refine rlt rfl rfl rfl rfl rfl rfl ?_ ?_ <;> intro h6_9
      ·refine rmB rfl rfl rfl rfl rfl (rSkip rfl rfl rfl (rSkip rfl rfl rfl (rSkip rfl rfl rfl (rSkip rfl rfl rfl (rpk (e := true) rfl rfl rfl rfl rfl rfl (rpk (e := true) rfl rfl rfl rfl rfl rfl (rNil (qSeq (wT rfl (wSeq (wRegion (raB rfl rfl rfl rfl rfl ?_))))))))))))
       refine rNil (qSeq (wRet (qBlockR (qSeqR (qLoopR (qBlockR (qSeqR ?_)))))))
       first
        | exact finT rfl ⟨by omega, by omega, by assumption, fun j hj => hI.2 j (by omega)⟩
        | (refine finF rfl fun hw => ?_; obtain ⟨w1, w2, w3, w4⟩ := hw; first | omega | exact h1_11 w3 | (have := (w4 i (by omega)).resolve_left h6_3; unfold digit at this; unfold bt at *; omega) | (have := (w4 i (by omega)).resolve_left h6_3; unfold digit at this; first | exact absurd this.1 (Int.not_le.mpr h6_9) | exact absurd this.2 (Int.not_le.mpr h6_14)))
      ·refine rmB rfl rfl rfl rfl rfl (rmS rfl rfl rfl rfl rfl (rmI rfl rfl rfl rfl rfl (rixs rfl rfl rfl rfl ?_ ?_ rfl rfl rfl ?_)))
       ·exact Q5
       ·exact Q5
       refine rgt rfl rfl rfl rfl rfl rfl ?_ ?_ <;> intro h6_14
       ·refine rpk (e := true) rfl rfl rfl rfl rfl rfl (rpk (e := true) rfl rfl rfl rfl rfl rfl (rNil (qSeq (wT rfl (wSeq (wRegion (raB rfl rfl rfl rfl rfl (rNil (qSeq (wRet (qBlockR (qSeqR ?_))))))))))))
        refine qLoopR (qBlockR (qSeqR ?_))
        first
         | exact finT rfl ⟨by omega, by omega, by assumption, fun j hj => hI.2 j (by omega)⟩
         | (refine finF rfl fun hw => ?_; obtain ⟨w1, w2, w3, w4⟩ := hw; first | omega | exact h1_11 w3 | (have := (w4 i (by omega)).resolve_left h6_3; unfold digit at this; unfold bt at *; omega) | (have := (w4 i (by omega)).resolve_left h6_3; unfold digit at this; first | exact absurd this.1 (Int.not_le.mpr h6_9) | exact absurd this.2 (Int.not_le.mpr h6_14)))
       ·refine rpk (e := false) rfl rfl rfl rfl rfl rfl (rpk (e := false) rfl rfl rfl rfl rfl rfl (rNil (qSeq (wF rfl (wSkip (qBlock (qSeq (wRegion (raddF rfl rfl rfl ?_ ?_ rfl rfl rfl ?_)))))))))
        ·exact Q5
        ·exact Q5
        refine rmI rfl rfl rfl rfl rfl (rNil (qLoop ?_))
        exact wlN (ih (i + 1) ⟨by omega, allS hI.2 (by first | exact .inl h6_3 | exact .inr ⟨Int.not_lt.mp h6_9, Int.not_lt.mp h6_14⟩)⟩ (by omega)) (by (repeat first | exact LE.nil _ | refine LE.unk _ _ ?_ | refine LE.eq _ _ _ rfl ?_))
    ·refine rNil (qSeq (wSeq (wF rfl (wExit (qSeqX (qLoopX (qBlockX (qSeq (wSeq (wRegion (raB rfl rfl rfl rfl rfl (rNil ?_))))))))))))
     refine qSeq (wRet ?_)
     first
      | exact finT rfl ⟨by omega, by omega, by assumption, fun j hj => hI.2 j (by omega)⟩
      | (refine finF rfl fun hw => ?_; obtain ⟨w1, w2, w3, w4⟩ := hw; first | omega | exact h1_11 w3 | (have := (w4 i (by omega)).resolve_left h6_3; unfold digit at this; unfold bt at *; omega) | (have := (w4 i (by omega)).resolve_left h6_3; unfold digit at this; first | exact absurd this.1 (Int.not_le.mpr h6_9) | exact absurd this.2 (Int.not_le.mpr h6_14)))
   ·refine rnot (c := false) rfl rfl rfl rfl rfl (rpk (e := true) rfl rfl rfl rfl rfl rfl (rNil (qSeq (wT rfl (wSeq (wRegion (raB rfl rfl rfl rfl rfl (rNil (qSeq (wRet (qSeqR ?_)))))))))))
    first
     | exact finT rfl ⟨by omega, by omega, by assumption, fun j hj => hI.2 j (by omega)⟩
     | (refine finF rfl fun hw => ?_; obtain ⟨w1, w2, w3, w4⟩ := hw; first | omega | exact h1_11 w3 | (have := (w4 i (by omega)).resolve_left h6_3; unfold digit at this; unfold bt at *; omega) | (have := (w4 i (by omega)).resolve_left h6_3; unfold digit at this; first | exact absurd this.1 (Int.not_le.mpr h6_9) | exact absurd this.2 (Int.not_le.mpr h6_14)))
def opName (s : ByteArray) : Prop := s.size ≤ 12 ∧ word s
noncomputable instance (s : ByteArray) : Decidable (opName s) := Classical.propDecidable _
theorem p53 (s : ByteArray) : Pure En 107 [.one (.str s)] [.one (.bool (decide (opName s)))] := by
 refine Pure.of_wp Try.func107 rfl (Nat.le_of_ble_eq_true rfl) ?_
 refine wSeq (wRegion (raB rfl rfl rfl rfl rfl (rNil (qSeq (wSeq (wRegion (rmS rfl rfl rfl rfl rfl (rls rfl rfl rfl rfl rfl rfl ?_))))))))
 refine rle rfl rfl rfl rfl rfl rfl ?_ ?_ <;> intro h1_2
 ·refine rmB rfl rfl rfl rfl rfl (rmS rfl rfl rfl rfl rfl ?_)
  refine rclP (p72 _) rfl rfl rfl rfl rfl rfl ?_ ?_ <;> intro h1_5
  ·refine rpk (e := true) rfl rfl rfl rfl rfl rfl (raB rfl rfl rfl rfl rfl (rNil (qSeq (wRet ?_))))
   first | exact finT rfl ⟨by omega, by assumption⟩ | (refine finF rfl fun hw => ?_; obtain ⟨w1, w2⟩ := hw; first | omega | exact h1_5 w2)
  ·refine rpk (e := false) rfl rfl rfl rfl rfl rfl (raB rfl rfl rfl rfl rfl (rNil (qSeq (wRet ?_))))
   first | exact finT rfl ⟨by omega, by assumption⟩ | (refine finF rfl fun hw => ?_; obtain ⟨w1, w2⟩ := hw; first | omega | exact h1_5 w2)
 ·refine rmB rfl rfl rfl rfl rfl (rSkip rfl rfl rfl (rSkip rfl rfl rfl (rpk (e := false) rfl rfl rfl rfl rfl rfl (raB rfl rfl rfl rfl rfl (rNil (qSeq (wRet ?_)))))))
  first | exact finT rfl ⟨by omega, by assumption⟩ | (refine finF rfl fun hw => ?_; obtain ⟨w1, w2⟩ := hw; first | omega | exact h1_5 w2)
theorem p85 (s : ByteArray) (n : Int) : Pure En 81 [.one (.str s), .one (.int .i64 n)] [.one (.bool (decide (s.size ≤ n ∧ word s)))] := by
 refine Pure.of_wp Try.func81 rfl (Nat.le_of_ble_eq_true rfl) ?_
 refine wSeq (wRegion (raB rfl rfl rfl rfl rfl (rNil (qSeq (wSeq (wRegion (rmS rfl rfl rfl rfl rfl (rls rfl rfl rfl rfl rfl rfl (rmI rfl rfl rfl rfl rfl ?_)))))))))
 refine rclP (p84 _ _ _) rfl rfl rfl rfl rfl rfl ?_ ?_ <;> intro h1_3
 ·refine rmB rfl rfl rfl rfl rfl (rmS rfl rfl rfl rfl rfl ?_)
  refine rclP (p89 _) rfl rfl rfl rfl rfl rfl ?_ ?_ <;> intro h1_6
  ·refine rpk (e := true) rfl rfl rfl rfl rfl rfl (raB rfl rfl rfl rfl rfl (rNil (qSeq (wRet ?_))))
   first | exact finT rfl ⟨by omega, by assumption⟩ | (refine finF rfl fun hw => ?_; obtain ⟨w1, w2⟩ := hw; first | exact h1_6 w2 | (have := w2.1; omega))
  ·refine rpk (e := false) rfl rfl rfl rfl rfl rfl (raB rfl rfl rfl rfl rfl (rNil (qSeq (wRet ?_))))
   first | exact finT rfl ⟨by omega, by assumption⟩ | (refine finF rfl fun hw => ?_; obtain ⟨w1, w2⟩ := hw; first | exact h1_6 w2 | (have := w2.1; omega))
 ·refine rmB rfl rfl rfl rfl rfl (rSkip rfl rfl rfl (rSkip rfl rfl rfl (rpk (e := false) rfl rfl rfl rfl rfl rfl (raB rfl rfl rfl rfl rfl (rNil (qSeq (wRet ?_)))))))
  first | exact finT rfl ⟨by omega, by assumption⟩ | (refine finF rfl fun hw => ?_; obtain ⟨w1, w2⟩ := hw; first | exact h1_6 w2 | (have := w2.1; omega))
structure Rq where
 cl : Int
 st : Int
 kd : Int
 le : Int
 nm : ByteArray
def Rq.T (r : Rq) : List T := [.int .i64 r.cl, .int .i64 r.st, .int .i64 r.kd, .int .i64 r.le, .str r.nm]
def Rq.OK (r : Rq) : Prop := (0 ≤ r.cl ∧ r.cl ≤ 255) ∧ (1 ≤ r.st ∧ r.st ≤ 65535) ∧ (1 ≤ r.kd ∧ r.kd ≤ 4) ∧ (0 ≤ r.le ∧ r.le ≤ 1000) ∧ opName r.nm ∧ (r.le > 0 ↔ (r.kd = 1 ∨ r.kd = 3))
noncomputable instance (r : Rq) : Decidable r.OK := Classical.propDecidable _
theorem p73 (r : Rq) : Pure En 69 [.agg r.T] [.one (.bool (decide r.OK))] := by
 refine Pure.of_wp Try.func69 rfl (Nat.le_of_ble_eq_true rfl) ?_
 refine wSeq (wRegion (rbx (u := .agg [.int _ _, .int _ _, .int _ _, .int _ _, .str _]) rfl rfl rfl rfl rfl rfl rfl (raB rfl rfl rfl rfl rfl (rNil (qSeq (wSeq (wRegion (rfa (off := 0) (s := 1) (r := false) rfl rfl rfl (Nat.succ_ne_zero _) rfl rfl rfl (rlc (v := .int _ _) rfl rfl rfl rfl rfl rfl rfl rfl rfl ?_)))))))))
 refine rclP (p84 _ _ _) rfl rfl rfl rfl rfl rfl ?_ ?_ <;> intro h1_2
 ·refine rmB rfl rfl rfl rfl rfl (rfa (off := 1) (s := 1) (r := false) rfl rfl rfl (Nat.succ_ne_zero _) rfl rfl rfl (rlc (v := .int _ _) rfl rfl rfl rfl rfl rfl rfl rfl rfl ?_))
  refine rclP (p84 _ _ _) rfl rfl rfl rfl rfl rfl ?_ ?_ <;> intro h1_6
  ·refine rpk (e := true) rfl rfl rfl rfl rfl rfl (rmB rfl rfl rfl rfl rfl (rfa (off := 2) (s := 1) (r := false) rfl rfl rfl (Nat.succ_ne_zero _) rfl rfl rfl (rlc (v := .int _ _) rfl rfl rfl rfl rfl rfl rfl rfl rfl ?_)))
   refine rclP (p84 _ _ _) rfl rfl rfl rfl rfl rfl ?_ ?_ <;> intro h1_11
   ·refine rpk (e := true) rfl rfl rfl rfl rfl rfl (rmB rfl rfl rfl rfl rfl (rfa (off := 3) (s := 1) (r := false) rfl rfl rfl (Nat.succ_ne_zero _) rfl rfl rfl (rlc (v := .int _ _) rfl rfl rfl rfl rfl rfl rfl rfl rfl ?_)))
    refine rclP (p84 _ _ _) rfl rfl rfl rfl rfl rfl ?_ ?_ <;> intro h1_16
    ·refine rpk (e := true) rfl rfl rfl rfl rfl rfl (rmB rfl rfl rfl rfl rfl (rfa (off := 4) (s := 1) (r := false) rfl rfl rfl (Nat.succ_ne_zero _) rfl rfl rfl (rlc (v := .str _) rfl rfl rfl rfl rfl rfl rfl rfl rfl ?_)))
     refine rclP (p85 _ _) rfl rfl rfl rfl rfl rfl ?_ ?_ <;> intro h1_21
     ·refine rpk (e := true) rfl rfl rfl rfl rfl rfl (rmB rfl rfl rfl rfl rfl (rfa (off := 3) (s := 1) (r := false) rfl rfl rfl (Nat.succ_ne_zero _) rfl rfl rfl (rlc (v := .int _ _) rfl rfl rfl rfl rfl rfl rfl rfl rfl ?_)))
      refine rgt rfl rfl rfl rfl rfl rfl ?_ ?_ <;> intro h1_26
      ·refine rfa (off := 2) (s := 1) (r := false) rfl rfl rfl (Nat.succ_ne_zero _) rfl rfl rfl (rlc (v := .int _ _) rfl rfl rfl rfl rfl rfl rfl rfl rfl ?_)
       refine req rfl rfl rfl rfl rfl rfl ?_ ?_ <;> intro h1_29
       ·refine rmB rfl rfl rfl rfl rfl (rSkip rfl rfl rfl (rSkip rfl rfl rfl (rSkip rfl rfl rfl (rpk (e := true) rfl rfl rfl rfl rfl rfl (rbeq (c := true) (e := true) rfl rfl rfl rfl rfl rfl rfl (rpk (e := true) rfl rfl rfl rfl rfl rfl (raB rfl rfl rfl rfl rfl (rNil (qSeq (wRet ?_))))))))))
        first
         | exact finT rfl ⟨by omega, by omega, by omega, by omega, ⟨by omega, h1_21.2⟩, by omega⟩
         | (refine finF rfl fun hw => ?_; obtain ⟨w1, w2, w3, w4, w5, w6⟩ := hw; first | omega | exact h1_21 ⟨by have := w5.1; omega, w5.2⟩)
       ·refine rmB rfl rfl rfl rfl rfl (rfa (off := 2) (s := 1) (r := false) rfl rfl rfl (Nat.succ_ne_zero _) rfl rfl rfl (rlc (v := .int _ _) rfl rfl rfl rfl rfl rfl rfl rfl rfl ?_))
        refine req rfl rfl rfl rfl rfl rfl ?_ ?_ <;> intro h1_33
        ·refine rpk (e := true) rfl rfl rfl rfl rfl rfl (rbeq (c := true) (e := true) rfl rfl rfl rfl rfl rfl rfl (rpk (e := true) rfl rfl rfl rfl rfl rfl (raB rfl rfl rfl rfl rfl (rNil (qSeq (wRet ?_))))))
         first
          | exact finT rfl ⟨by omega, by omega, by omega, by omega, ⟨by omega, h1_21.2⟩, by omega⟩
          | (refine finF rfl fun hw => ?_; obtain ⟨w1, w2, w3, w4, w5, w6⟩ := hw; first | omega | exact h1_21 ⟨by have := w5.1; omega, w5.2⟩)
        ·refine rpk (e := false) rfl rfl rfl rfl rfl rfl (rbeq (c := true) (e := false) rfl rfl rfl rfl rfl rfl rfl (rpk (e := false) rfl rfl rfl rfl rfl rfl (raB rfl rfl rfl rfl rfl (rNil (qSeq (wRet ?_))))))
         first
          | exact finT rfl ⟨by omega, by omega, by omega, by omega, ⟨by omega, h1_21.2⟩, by omega⟩
          | (refine finF rfl fun hw => ?_; obtain ⟨w1, w2, w3, w4, w5, w6⟩ := hw; first | omega | exact h1_21 ⟨by have := w5.1; omega, w5.2⟩)
      ·refine rfa (off := 2) (s := 1) (r := false) rfl rfl rfl (Nat.succ_ne_zero _) rfl rfl rfl (rlc (v := .int _ _) rfl rfl rfl rfl rfl rfl rfl rfl rfl ?_)
       refine req rfl rfl rfl rfl rfl rfl ?_ ?_ <;> intro h1_29
       ·refine rmB rfl rfl rfl rfl rfl (rSkip rfl rfl rfl (rSkip rfl rfl rfl (rSkip rfl rfl rfl (rpk (e := true) rfl rfl rfl rfl rfl rfl (rbeq (c := false) (e := true) rfl rfl rfl rfl rfl rfl rfl (rpk (e := false) rfl rfl rfl rfl rfl rfl (raB rfl rfl rfl rfl rfl (rNil (qSeq (wRet ?_))))))))))
        first
         | exact finT rfl ⟨by omega, by omega, by omega, by omega, ⟨by omega, h1_21.2⟩, by omega⟩
         | (refine finF rfl fun hw => ?_; obtain ⟨w1, w2, w3, w4, w5, w6⟩ := hw; first | omega | exact h1_21 ⟨by have := w5.1; omega, w5.2⟩)
       ·refine rmB rfl rfl rfl rfl rfl (rfa (off := 2) (s := 1) (r := false) rfl rfl rfl (Nat.succ_ne_zero _) rfl rfl rfl (rlc (v := .int _ _) rfl rfl rfl rfl rfl rfl rfl rfl rfl ?_))
        refine req rfl rfl rfl rfl rfl rfl ?_ ?_ <;> intro h1_33
        ·refine rpk (e := true) rfl rfl rfl rfl rfl rfl (rbeq (c := false) (e := true) rfl rfl rfl rfl rfl rfl rfl (rpk (e := false) rfl rfl rfl rfl rfl rfl (raB rfl rfl rfl rfl rfl (rNil (qSeq (wRet ?_))))))
         first
          | exact finT rfl ⟨by omega, by omega, by omega, by omega, ⟨by omega, h1_21.2⟩, by omega⟩
          | (refine finF rfl fun hw => ?_; obtain ⟨w1, w2, w3, w4, w5, w6⟩ := hw; first | omega | exact h1_21 ⟨by have := w5.1; omega, w5.2⟩)
        ·refine rpk (e := false) rfl rfl rfl rfl rfl rfl (rbeq (c := false) (e := false) rfl rfl rfl rfl rfl rfl rfl (rpk (e := true) rfl rfl rfl rfl rfl rfl (raB rfl rfl rfl rfl rfl (rNil (qSeq (wRet ?_))))))
         first
          | exact finT rfl ⟨by omega, by omega, by omega, by omega, ⟨by omega, h1_21.2⟩, by omega⟩
          | (refine finF rfl fun hw => ?_; obtain ⟨w1, w2, w3, w4, w5, w6⟩ := hw; first | omega | exact h1_21 ⟨by have := w5.1; omega, w5.2⟩)
     ·refine rpk (e := false) rfl rfl rfl rfl rfl rfl (rmB rfl rfl rfl rfl rfl (rSkip rfl rfl rfl (rSkip rfl rfl rfl (rSkip rfl rfl rfl (rSkip rfl rfl rfl (rSkip rfl rfl rfl (rSkip rfl rfl rfl (rSkip rfl rfl rfl (rSkip rfl rfl rfl (rSkip rfl rfl rfl (rSkip rfl rfl rfl (rSkip rfl rfl rfl ?_))))))))))))
      refine rSkip rfl rfl rfl (rpk (e := false) rfl rfl rfl rfl rfl rfl (raB rfl rfl rfl rfl rfl (rNil (qSeq (wRet ?_)))))
      first
       | exact finT rfl ⟨by omega, by omega, by omega, by omega, ⟨by omega, h1_21.2⟩, by omega⟩
       | (refine finF rfl fun hw => ?_; obtain ⟨w1, w2, w3, w4, w5, w6⟩ := hw; first | omega | exact h1_21 ⟨by have := w5.1; omega, w5.2⟩)
    ·refine rpk (e := false) rfl rfl rfl rfl rfl rfl (rmB rfl rfl rfl rfl rfl (rSkip rfl rfl rfl (rSkip rfl rfl rfl (rSkip rfl rfl rfl (rpk (e := false) rfl rfl rfl rfl rfl rfl (rmB rfl rfl rfl rfl rfl (rSkip rfl rfl rfl (rSkip rfl rfl rfl (rSkip rfl rfl rfl (rSkip rfl rfl rfl (rSkip rfl rfl rfl (rSkip rfl rfl rfl ?_))))))))))))
     refine rSkip rfl rfl rfl (rSkip rfl rfl rfl (rSkip rfl rfl rfl (rSkip rfl rfl rfl (rSkip rfl rfl rfl (rSkip rfl rfl rfl (rpk (e := false) rfl rfl rfl rfl rfl rfl (raB rfl rfl rfl rfl rfl (rNil (qSeq (wRet ?_))))))))))
     first
      | exact finT rfl ⟨by omega, by omega, by omega, by omega, ⟨by omega, h1_21.2⟩, by omega⟩
      | (refine finF rfl fun hw => ?_; obtain ⟨w1, w2, w3, w4, w5, w6⟩ := hw; first | omega | exact h1_21 ⟨by have := w5.1; omega, w5.2⟩)
   ·refine rpk (e := false) rfl rfl rfl rfl rfl rfl (rmB rfl rfl rfl rfl rfl (rSkip rfl rfl rfl (rSkip rfl rfl rfl (rSkip rfl rfl rfl (rpk (e := false) rfl rfl rfl rfl rfl rfl (rmB rfl rfl rfl rfl rfl (rSkip rfl rfl rfl (rSkip rfl rfl rfl (rSkip rfl rfl rfl (rpk (e := false) rfl rfl rfl rfl rfl rfl (rmB rfl rfl rfl rfl rfl (rSkip rfl rfl rfl ?_))))))))))))
    refine rSkip rfl rfl rfl (rSkip rfl rfl rfl (rSkip rfl rfl rfl (rSkip rfl rfl rfl (rSkip rfl rfl rfl (rSkip rfl rfl rfl (rSkip rfl rfl rfl (rSkip rfl rfl rfl (rSkip rfl rfl rfl (rSkip rfl rfl rfl (rSkip rfl rfl rfl (rpk (e := false) rfl rfl rfl rfl rfl rfl (raB rfl rfl rfl rfl rfl ?_))))))))))))
    refine rNil (qSeq (wRet ?_))
    first
     | exact finT rfl ⟨by omega, by omega, by omega, by omega, ⟨by omega, h1_21.2⟩, by omega⟩
     | (refine finF rfl fun hw => ?_; obtain ⟨w1, w2, w3, w4, w5, w6⟩ := hw; first | omega | exact h1_21 ⟨by have := w5.1; omega, w5.2⟩)
  ·refine rpk (e := false) rfl rfl rfl rfl rfl rfl (rmB rfl rfl rfl rfl rfl (rSkip rfl rfl rfl (rSkip rfl rfl rfl (rSkip rfl rfl rfl (rpk (e := false) rfl rfl rfl rfl rfl rfl (rmB rfl rfl rfl rfl rfl (rSkip rfl rfl rfl (rSkip rfl rfl rfl (rSkip rfl rfl rfl (rpk (e := false) rfl rfl rfl rfl rfl rfl (rmB rfl rfl rfl rfl rfl (rSkip rfl rfl rfl ?_))))))))))))
   refine rSkip rfl rfl rfl (rSkip rfl rfl rfl (rpk (e := false) rfl rfl rfl rfl rfl rfl (rmB rfl rfl rfl rfl rfl (rSkip rfl rfl rfl (rSkip rfl rfl rfl (rSkip rfl rfl rfl (rSkip rfl rfl rfl (rSkip rfl rfl rfl (rSkip rfl rfl rfl (rSkip rfl rfl rfl (rSkip rfl rfl rfl (rSkip rfl rfl rfl ?_))))))))))))
   refine rSkip rfl rfl rfl (rSkip rfl rfl rfl (rSkip rfl rfl rfl (rpk (e := false) rfl rfl rfl rfl rfl rfl (raB rfl rfl rfl rfl rfl (rNil (qSeq (wRet ?_)))))))
   first
    | exact finT rfl ⟨by omega, by omega, by omega, by omega, ⟨by omega, h1_21.2⟩, by omega⟩
    | (refine finF rfl fun hw => ?_; obtain ⟨w1, w2, w3, w4, w5, w6⟩ := hw; first | omega | exact h1_21 ⟨by have := w5.1; omega, w5.2⟩)
 ·refine rmB rfl rfl rfl rfl rfl (rSkip rfl rfl rfl (rSkip rfl rfl rfl (rSkip rfl rfl rfl (rpk (e := false) rfl rfl rfl rfl rfl rfl (rmB rfl rfl rfl rfl rfl (rSkip rfl rfl rfl (rSkip rfl rfl rfl (rSkip rfl rfl rfl (rpk (e := false) rfl rfl rfl rfl rfl rfl (rmB rfl rfl rfl rfl rfl (rSkip rfl rfl rfl (rSkip rfl rfl rfl ?_))))))))))))
  refine rSkip rfl rfl rfl (rpk (e := false) rfl rfl rfl rfl rfl rfl (rmB rfl rfl rfl rfl rfl (rSkip rfl rfl rfl (rSkip rfl rfl rfl (rSkip rfl rfl rfl (rpk (e := false) rfl rfl rfl rfl rfl rfl (rmB rfl rfl rfl rfl rfl (rSkip rfl rfl rfl (rSkip rfl rfl rfl (rSkip rfl rfl rfl (rSkip rfl rfl rfl (rSkip rfl rfl rfl ?_))))))))))))
  refine rSkip rfl rfl rfl (rSkip rfl rfl rfl (rSkip rfl rfl rfl (rSkip rfl rfl rfl (rSkip rfl rfl rfl (rSkip rfl rfl rfl (rSkip rfl rfl rfl (rpk (e := false) rfl rfl rfl rfl rfl rfl (raB rfl rfl rfl rfl rfl (rNil (qSeq (wRet ?_)))))))))))
  first
   | exact finT rfl ⟨by omega, by omega, by omega, by omega, ⟨by omega, h1_21.2⟩, by omega⟩
   | (refine finF rfl fun hw => ?_; obtain ⟨w1, w2, w3, w4, w5, w6⟩ := hw; first | omega | exact h1_21 ⟨by have := w5.1; omega, w5.2⟩)
theorem p26 (r : Rq) : Pure En 70 [.agg r.T] [.one (.bool (decide r.OK))] := by
 refine Pure.of_wp Try.func70 rfl (Nat.le_of_ble_eq_true rfl) ?_
 refine wSeq (wRegion (rbx (u := .agg [.int _ _, .int _ _, .int _ _, .int _ _, .str _]) rfl rfl rfl rfl rfl rfl rfl (raB rfl rfl rfl rfl rfl (rNil (qSeq (wSeq (wRegion (raI rfl rfl rfl rfl rfl (raI rfl rfl rfl rfl rfl (rNil (qSeq (wSeq ?_))))))))))))
 refine wSeq (wRegion (rfa (off := 2) (s := 1) (r := false) rfl rfl rfl (Nat.succ_ne_zero _) rfl rfl rfl (rlc (v := .int _ _) rfl rfl rfl rfl rfl rfl rfl rfl rfl ?_)))
 refine req rfl rfl rfl rfl rfl rfl ?_ ?_ <;> intro h2_2
 ·refine rmB rfl rfl rfl rfl rfl (rSkip rfl rfl rfl (rSkip rfl rfl rfl (rSkip rfl rfl rfl (rpk (e := true) rfl rfl rfl rfl rfl rfl (rNil (qSeq (wT rfl (wRegion (raI rfl rfl rfl rfl rfl (raI rfl rfl rfl rfl rfl (rNil (qSeq ?_))))))))))))
  refine wSeq (wRegion (rfa (off := 0) (s := 1) (r := false) rfl rfl rfl (Nat.succ_ne_zero _) rfl rfl rfl (rlc (v := .int _ _) rfl rfl rfl rfl rfl rfl rfl rfl rfl ?_)))
  refine rclP (p45 _ _ _) rfl rfl rfl rfl rfl rfl ?_ ?_ <;> intro h4_2
  ·refine rmB rfl rfl rfl rfl rfl (rfa (off := 1) (s := 1) (r := false) rfl rfl rfl (Nat.succ_ne_zero _) rfl rfl rfl (rlc (v := .int _ _) rfl rfl rfl rfl rfl rfl rfl rfl rfl ?_))
   refine rclP (p45 _ _ _) rfl rfl rfl rfl rfl rfl ?_ ?_ <;> intro h4_6
   ·refine rpk (e := true) rfl rfl rfl rfl rfl rfl (rmB rfl rfl rfl rfl rfl (rfa (off := 2) (s := 1) (r := false) rfl rfl rfl (Nat.succ_ne_zero _) rfl rfl rfl (rlc (v := .int _ _) rfl rfl rfl rfl rfl rfl rfl rfl rfl ?_)))
    refine rclP (p45 _ _ _) rfl rfl rfl rfl rfl rfl ?_ ?_ <;> intro h4_11
    ·refine rpk (e := true) rfl rfl rfl rfl rfl rfl (rmB rfl rfl rfl rfl rfl (rfa (off := 3) (s := 1) (r := false) rfl rfl rfl (Nat.succ_ne_zero _) rfl rfl rfl (rlc (v := .int _ _) rfl rfl rfl rfl rfl rfl rfl rfl rfl (rmI rfl rfl rfl rfl rfl (rmI rfl rfl rfl rfl rfl ?_)))))
     refine rclP (p45 _ _ _) rfl rfl rfl rfl rfl rfl ?_ ?_ <;> intro h4_18
     ·refine rpk (e := true) rfl rfl rfl rfl rfl rfl (rmB rfl rfl rfl rfl rfl (rfa (off := 4) (s := 1) (r := false) rfl rfl rfl (Nat.succ_ne_zero _) rfl rfl rfl (rlc (v := .str _) rfl rfl rfl rfl rfl rfl rfl rfl rfl ?_)))
      refine rclP (p53 _) rfl rfl rfl rfl rfl rfl ?_ ?_ <;> intro h4_23
      ·refine rpk (e := true) rfl rfl rfl rfl rfl rfl (raB rfl rfl rfl rfl rfl (rNil (qSeq (wRet ?_))))
       first
        | exact finT rfl ⟨by omega, by omega, by omega, by omega, by assumption, by omega⟩
        | (refine finF rfl fun hw => ?_; obtain ⟨w1, w2, w3, w4, w5, w6⟩ := hw; first | omega | exact h4_23 w5)
      ·refine rpk (e := false) rfl rfl rfl rfl rfl rfl (raB rfl rfl rfl rfl rfl (rNil (qSeq (wRet ?_))))
       first
        | exact finT rfl ⟨by omega, by omega, by omega, by omega, by assumption, by omega⟩
        | (refine finF rfl fun hw => ?_; obtain ⟨w1, w2, w3, w4, w5, w6⟩ := hw; first | omega | exact h4_23 w5)
     ·refine rpk (e := false) rfl rfl rfl rfl rfl rfl (rmB rfl rfl rfl rfl rfl (rSkip rfl rfl rfl (rSkip rfl rfl rfl (rSkip rfl rfl rfl (rpk (e := false) rfl rfl rfl rfl rfl rfl (raB rfl rfl rfl rfl rfl (rNil (qSeq (wRet ?_)))))))))
      first
       | exact finT rfl ⟨by omega, by omega, by omega, by omega, by assumption, by omega⟩
       | (refine finF rfl fun hw => ?_; obtain ⟨w1, w2, w3, w4, w5, w6⟩ := hw; first | omega | exact h4_23 w5)
    ·refine rpk (e := false) rfl rfl rfl rfl rfl rfl (rmB rfl rfl rfl rfl rfl (rSkip rfl rfl rfl (rSkip rfl rfl rfl (rSkip rfl rfl rfl (rSkip rfl rfl rfl (rSkip rfl rfl rfl (rpk (e := false) rfl rfl rfl rfl rfl rfl (rmB rfl rfl rfl rfl rfl (rSkip rfl rfl rfl (rSkip rfl rfl rfl (rSkip rfl rfl rfl (rpk (e := false) rfl rfl rfl rfl rfl rfl ?_))))))))))))
     refine raB rfl rfl rfl rfl rfl (rNil (qSeq (wRet ?_)))
     first
      | exact finT rfl ⟨by omega, by omega, by omega, by omega, by assumption, by omega⟩
      | (refine finF rfl fun hw => ?_; obtain ⟨w1, w2, w3, w4, w5, w6⟩ := hw; first | omega | exact h4_23 w5)
   ·refine rpk (e := false) rfl rfl rfl rfl rfl rfl (rmB rfl rfl rfl rfl rfl (rSkip rfl rfl rfl (rSkip rfl rfl rfl (rSkip rfl rfl rfl (rpk (e := false) rfl rfl rfl rfl rfl rfl (rmB rfl rfl rfl rfl rfl (rSkip rfl rfl rfl (rSkip rfl rfl rfl (rSkip rfl rfl rfl (rSkip rfl rfl rfl (rSkip rfl rfl rfl (rpk (e := false) rfl rfl rfl rfl rfl rfl ?_))))))))))))
    refine rmB rfl rfl rfl rfl rfl (rSkip rfl rfl rfl (rSkip rfl rfl rfl (rSkip rfl rfl rfl (rpk (e := false) rfl rfl rfl rfl rfl rfl (raB rfl rfl rfl rfl rfl (rNil (qSeq (wRet ?_))))))))
    first
     | exact finT rfl ⟨by omega, by omega, by omega, by omega, by assumption, by omega⟩
     | (refine finF rfl fun hw => ?_; obtain ⟨w1, w2, w3, w4, w5, w6⟩ := hw; first | omega | exact h4_23 w5)
  ·refine rmB rfl rfl rfl rfl rfl (rSkip rfl rfl rfl (rSkip rfl rfl rfl (rSkip rfl rfl rfl (rpk (e := false) rfl rfl rfl rfl rfl rfl (rmB rfl rfl rfl rfl rfl (rSkip rfl rfl rfl (rSkip rfl rfl rfl (rSkip rfl rfl rfl (rpk (e := false) rfl rfl rfl rfl rfl rfl (rmB rfl rfl rfl rfl rfl (rSkip rfl rfl rfl (rSkip rfl rfl rfl ?_))))))))))))
   refine rSkip rfl rfl rfl (rSkip rfl rfl rfl (rSkip rfl rfl rfl (rpk (e := false) rfl rfl rfl rfl rfl rfl (rmB rfl rfl rfl rfl rfl (rSkip rfl rfl rfl (rSkip rfl rfl rfl (rSkip rfl rfl rfl (rpk (e := false) rfl rfl rfl rfl rfl rfl (raB rfl rfl rfl rfl rfl (rNil (qSeq (wRet ?_))))))))))))
   first
    | exact finT rfl ⟨by omega, by omega, by omega, by omega, by assumption, by omega⟩
    | (refine finF rfl fun hw => ?_; obtain ⟨w1, w2, w3, w4, w5, w6⟩ := hw; first | omega | exact h4_23 w5)
 ·refine rmB rfl rfl rfl rfl rfl (rfa (off := 2) (s := 1) (r := false) rfl rfl rfl (Nat.succ_ne_zero _) rfl rfl rfl (rlc (v := .int _ _) rfl rfl rfl rfl rfl rfl rfl rfl rfl ?_))
  refine req rfl rfl rfl rfl rfl rfl ?_ ?_ <;> intro h2_6
  ·refine rpk (e := true) rfl rfl rfl rfl rfl rfl (rNil (qSeq (wT rfl (wRegion (raI rfl rfl rfl rfl rfl (raI rfl rfl rfl rfl rfl (rNil (qSeq (wSeq (wRegion (rfa (off := 0) (s := 1) (r := false) rfl rfl rfl (Nat.succ_ne_zero _) rfl rfl rfl (rlc (v := .int _ _) rfl rfl rfl rfl rfl rfl rfl rfl rfl ?_))))))))))))
   refine rclP (p45 _ _ _) rfl rfl rfl rfl rfl rfl ?_ ?_ <;> intro h4_2
   ·refine rmB rfl rfl rfl rfl rfl (rfa (off := 1) (s := 1) (r := false) rfl rfl rfl (Nat.succ_ne_zero _) rfl rfl rfl (rlc (v := .int _ _) rfl rfl rfl rfl rfl rfl rfl rfl rfl ?_))
    refine rclP (p45 _ _ _) rfl rfl rfl rfl rfl rfl ?_ ?_ <;> intro h4_6
    ·refine rpk (e := true) rfl rfl rfl rfl rfl rfl (rmB rfl rfl rfl rfl rfl (rfa (off := 2) (s := 1) (r := false) rfl rfl rfl (Nat.succ_ne_zero _) rfl rfl rfl (rlc (v := .int _ _) rfl rfl rfl rfl rfl rfl rfl rfl rfl ?_)))
     refine rclP (p45 _ _ _) rfl rfl rfl rfl rfl rfl ?_ ?_ <;> intro h4_11
     ·refine rpk (e := true) rfl rfl rfl rfl rfl rfl (rmB rfl rfl rfl rfl rfl (rfa (off := 3) (s := 1) (r := false) rfl rfl rfl (Nat.succ_ne_zero _) rfl rfl rfl (rlc (v := .int _ _) rfl rfl rfl rfl rfl rfl rfl rfl rfl (rmI rfl rfl rfl rfl rfl (rmI rfl rfl rfl rfl rfl ?_)))))
      refine rclP (p45 _ _ _) rfl rfl rfl rfl rfl rfl ?_ ?_ <;> intro h4_18
      ·refine rpk (e := true) rfl rfl rfl rfl rfl rfl (rmB rfl rfl rfl rfl rfl (rfa (off := 4) (s := 1) (r := false) rfl rfl rfl (Nat.succ_ne_zero _) rfl rfl rfl (rlc (v := .str _) rfl rfl rfl rfl rfl rfl rfl rfl rfl ?_)))
       refine rclP (p53 _) rfl rfl rfl rfl rfl rfl ?_ ?_ <;> intro h4_23
       ·refine rpk (e := true) rfl rfl rfl rfl rfl rfl (raB rfl rfl rfl rfl rfl (rNil (qSeq (wRet ?_))))
        first
         | exact finT rfl ⟨by omega, by omega, by omega, by omega, by assumption, by omega⟩
         | (refine finF rfl fun hw => ?_; obtain ⟨w1, w2, w3, w4, w5, w6⟩ := hw; first | omega | exact h4_23 w5)
       ·refine rpk (e := false) rfl rfl rfl rfl rfl rfl (raB rfl rfl rfl rfl rfl (rNil (qSeq (wRet ?_))))
        first
         | exact finT rfl ⟨by omega, by omega, by omega, by omega, by assumption, by omega⟩
         | (refine finF rfl fun hw => ?_; obtain ⟨w1, w2, w3, w4, w5, w6⟩ := hw; first | omega | exact h4_23 w5)
      ·refine rpk (e := false) rfl rfl rfl rfl rfl rfl (rmB rfl rfl rfl rfl rfl (rSkip rfl rfl rfl (rSkip rfl rfl rfl (rSkip rfl rfl rfl (rpk (e := false) rfl rfl rfl rfl rfl rfl (raB rfl rfl rfl rfl rfl (rNil (qSeq (wRet ?_)))))))))
       first
        | exact finT rfl ⟨by omega, by omega, by omega, by omega, by assumption, by omega⟩
        | (refine finF rfl fun hw => ?_; obtain ⟨w1, w2, w3, w4, w5, w6⟩ := hw; first | omega | exact h4_23 w5)
     ·refine rpk (e := false) rfl rfl rfl rfl rfl rfl (rmB rfl rfl rfl rfl rfl (rSkip rfl rfl rfl (rSkip rfl rfl rfl (rSkip rfl rfl rfl (rSkip rfl rfl rfl (rSkip rfl rfl rfl (rpk (e := false) rfl rfl rfl rfl rfl rfl (rmB rfl rfl rfl rfl rfl (rSkip rfl rfl rfl (rSkip rfl rfl rfl (rSkip rfl rfl rfl (rpk (e := false) rfl rfl rfl rfl rfl rfl ?_))))))))))))
      refine raB rfl rfl rfl rfl rfl (rNil (qSeq (wRet ?_)))
      first
       | exact finT rfl ⟨by omega, by omega, by omega, by omega, by assumption, by omega⟩
       | (refine finF rfl fun hw => ?_; obtain ⟨w1, w2, w3, w4, w5, w6⟩ := hw; first | omega | exact h4_23 w5)
    ·refine rpk (e := false) rfl rfl rfl rfl rfl rfl (rmB rfl rfl rfl rfl rfl (rSkip rfl rfl rfl (rSkip rfl rfl rfl (rSkip rfl rfl rfl (rpk (e := false) rfl rfl rfl rfl rfl rfl (rmB rfl rfl rfl rfl rfl (rSkip rfl rfl rfl (rSkip rfl rfl rfl (rSkip rfl rfl rfl (rSkip rfl rfl rfl (rSkip rfl rfl rfl (rpk (e := false) rfl rfl rfl rfl rfl rfl ?_))))))))))))
     refine rmB rfl rfl rfl rfl rfl (rSkip rfl rfl rfl (rSkip rfl rfl rfl (rSkip rfl rfl rfl (rpk (e := false) rfl rfl rfl rfl rfl rfl (raB rfl rfl rfl rfl rfl (rNil (qSeq (wRet ?_))))))))
     first
      | exact finT rfl ⟨by omega, by omega, by omega, by omega, by assumption, by omega⟩
      | (refine finF rfl fun hw => ?_; obtain ⟨w1, w2, w3, w4, w5, w6⟩ := hw; first | omega | exact h4_23 w5)
   ·refine rmB rfl rfl rfl rfl rfl (rSkip rfl rfl rfl (rSkip rfl rfl rfl (rSkip rfl rfl rfl (rpk (e := false) rfl rfl rfl rfl rfl rfl (rmB rfl rfl rfl rfl rfl (rSkip rfl rfl rfl (rSkip rfl rfl rfl (rSkip rfl rfl rfl (rpk (e := false) rfl rfl rfl rfl rfl rfl (rmB rfl rfl rfl rfl rfl (rSkip rfl rfl rfl (rSkip rfl rfl rfl ?_))))))))))))
    refine rSkip rfl rfl rfl (rSkip rfl rfl rfl (rSkip rfl rfl rfl (rpk (e := false) rfl rfl rfl rfl rfl rfl (rmB rfl rfl rfl rfl rfl (rSkip rfl rfl rfl (rSkip rfl rfl rfl (rSkip rfl rfl rfl (rpk (e := false) rfl rfl rfl rfl rfl rfl (raB rfl rfl rfl rfl rfl (rNil (qSeq (wRet ?_))))))))))))
    first
     | exact finT rfl ⟨by omega, by omega, by omega, by omega, by assumption, by omega⟩
     | (refine finF rfl fun hw => ?_; obtain ⟨w1, w2, w3, w4, w5, w6⟩ := hw; first | omega | exact h4_23 w5)
  ·refine rpk (e := false) rfl rfl rfl rfl rfl rfl (rNil (qSeq (wF rfl (wSkip (qSeq (wSeq (wRegion (rfa (off := 0) (s := 1) (r := false) rfl rfl rfl (Nat.succ_ne_zero _) rfl rfl rfl (rlc (v := .int _ _) rfl rfl rfl rfl rfl rfl rfl rfl rfl ?_)))))))))
   refine rclP (p45 _ _ _) rfl rfl rfl rfl rfl rfl ?_ ?_ <;> intro h4_2
   ·refine rmB rfl rfl rfl rfl rfl (rfa (off := 1) (s := 1) (r := false) rfl rfl rfl (Nat.succ_ne_zero _) rfl rfl rfl (rlc (v := .int _ _) rfl rfl rfl rfl rfl rfl rfl rfl rfl ?_))
    refine rclP (p45 _ _ _) rfl rfl rfl rfl rfl rfl ?_ ?_ <;> intro h4_6
    ·refine rpk (e := true) rfl rfl rfl rfl rfl rfl (rmB rfl rfl rfl rfl rfl (rfa (off := 2) (s := 1) (r := false) rfl rfl rfl (Nat.succ_ne_zero _) rfl rfl rfl (rlc (v := .int _ _) rfl rfl rfl rfl rfl rfl rfl rfl rfl ?_)))
     refine rclP (p45 _ _ _) rfl rfl rfl rfl rfl rfl ?_ ?_ <;> intro h4_11
     ·refine rpk (e := true) rfl rfl rfl rfl rfl rfl (rmB rfl rfl rfl rfl rfl (rfa (off := 3) (s := 1) (r := false) rfl rfl rfl (Nat.succ_ne_zero _) rfl rfl rfl (rlc (v := .int _ _) rfl rfl rfl rfl rfl rfl rfl rfl rfl (rmI rfl rfl rfl rfl rfl (rmI rfl rfl rfl rfl rfl ?_)))))
      refine rclP (p45 _ _ _) rfl rfl rfl rfl rfl rfl ?_ ?_ <;> intro h4_18
      ·refine rpk (e := true) rfl rfl rfl rfl rfl rfl (rmB rfl rfl rfl rfl rfl (rfa (off := 4) (s := 1) (r := false) rfl rfl rfl (Nat.succ_ne_zero _) rfl rfl rfl (rlc (v := .str _) rfl rfl rfl rfl rfl rfl rfl rfl rfl ?_)))
       refine rclP (p53 _) rfl rfl rfl rfl rfl rfl ?_ ?_ <;> intro h4_23
       ·refine rpk (e := true) rfl rfl rfl rfl rfl rfl (raB rfl rfl rfl rfl rfl (rNil (qSeq (wRet ?_))))
        first
         | exact finT rfl ⟨by omega, by omega, by omega, by omega, by assumption, by omega⟩
         | (refine finF rfl fun hw => ?_; obtain ⟨w1, w2, w3, w4, w5, w6⟩ := hw; first | omega | exact h4_23 w5)
       ·refine rpk (e := false) rfl rfl rfl rfl rfl rfl (raB rfl rfl rfl rfl rfl (rNil (qSeq (wRet ?_))))
        first
         | exact finT rfl ⟨by omega, by omega, by omega, by omega, by assumption, by omega⟩
         | (refine finF rfl fun hw => ?_; obtain ⟨w1, w2, w3, w4, w5, w6⟩ := hw; first | omega | exact h4_23 w5)
      ·refine rpk (e := false) rfl rfl rfl rfl rfl rfl (rmB rfl rfl rfl rfl rfl (rSkip rfl rfl rfl (rSkip rfl rfl rfl (rSkip rfl rfl rfl (rpk (e := false) rfl rfl rfl rfl rfl rfl (raB rfl rfl rfl rfl rfl (rNil (qSeq (wRet ?_)))))))))
       first
        | exact finT rfl ⟨by omega, by omega, by omega, by omega, by assumption, by omega⟩
        | (refine finF rfl fun hw => ?_; obtain ⟨w1, w2, w3, w4, w5, w6⟩ := hw; first | omega | exact h4_23 w5)
     ·refine rpk (e := false) rfl rfl rfl rfl rfl rfl (rmB rfl rfl rfl rfl rfl (rSkip rfl rfl rfl (rSkip rfl rfl rfl (rSkip rfl rfl rfl (rSkip rfl rfl rfl (rSkip rfl rfl rfl (rpk (e := false) rfl rfl rfl rfl rfl rfl (rmB rfl rfl rfl rfl rfl (rSkip rfl rfl rfl (rSkip rfl rfl rfl (rSkip rfl rfl rfl (rpk (e := false) rfl rfl rfl rfl rfl rfl ?_))))))))))))
      refine raB rfl rfl rfl rfl rfl (rNil (qSeq (wRet ?_)))
      first
       | exact finT rfl ⟨by omega, by omega, by omega, by omega, by assumption, by omega⟩
       | (refine finF rfl fun hw => ?_; obtain ⟨w1, w2, w3, w4, w5, w6⟩ := hw; first | omega | exact h4_23 w5)
    ·refine rpk (e := false) rfl rfl rfl rfl rfl rfl (rmB rfl rfl rfl rfl rfl (rSkip rfl rfl rfl (rSkip rfl rfl rfl (rSkip rfl rfl rfl (rpk (e := false) rfl rfl rfl rfl rfl rfl (rmB rfl rfl rfl rfl rfl (rSkip rfl rfl rfl (rSkip rfl rfl rfl (rSkip rfl rfl rfl (rSkip rfl rfl rfl (rSkip rfl rfl rfl (rpk (e := false) rfl rfl rfl rfl rfl rfl ?_))))))))))))
     refine rmB rfl rfl rfl rfl rfl (rSkip rfl rfl rfl (rSkip rfl rfl rfl (rSkip rfl rfl rfl (rpk (e := false) rfl rfl rfl rfl rfl rfl (raB rfl rfl rfl rfl rfl (rNil (qSeq (wRet ?_))))))))
     first
      | exact finT rfl ⟨by omega, by omega, by omega, by omega, by assumption, by omega⟩
      | (refine finF rfl fun hw => ?_; obtain ⟨w1, w2, w3, w4, w5, w6⟩ := hw; first | omega | exact h4_23 w5)
   ·refine rmB rfl rfl rfl rfl rfl (rSkip rfl rfl rfl (rSkip rfl rfl rfl (rSkip rfl rfl rfl (rpk (e := false) rfl rfl rfl rfl rfl rfl (rmB rfl rfl rfl rfl rfl (rSkip rfl rfl rfl (rSkip rfl rfl rfl (rSkip rfl rfl rfl (rpk (e := false) rfl rfl rfl rfl rfl rfl (rmB rfl rfl rfl rfl rfl (rSkip rfl rfl rfl (rSkip rfl rfl rfl ?_))))))))))))
    refine rSkip rfl rfl rfl (rSkip rfl rfl rfl (rSkip rfl rfl rfl (rpk (e := false) rfl rfl rfl rfl rfl rfl (rmB rfl rfl rfl rfl rfl (rSkip rfl rfl rfl (rSkip rfl rfl rfl (rSkip rfl rfl rfl (rpk (e := false) rfl rfl rfl rfl rfl rfl (raB rfl rfl rfl rfl rfl (rNil (qSeq (wRet ?_))))))))))))
    first
     | exact finT rfl ⟨by omega, by omega, by omega, by omega, by assumption, by omega⟩
     | (refine finF rfl fun hw => ?_; obtain ⟨w1, w2, w3, w4, w5, w6⟩ := hw; first | omega | exact h4_23 w5)
end Go.Proofs.Ytknnniaoboaghaa
