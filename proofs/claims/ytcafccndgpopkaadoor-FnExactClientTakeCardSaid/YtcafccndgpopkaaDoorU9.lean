import Derived.Test.YtcafccndgpopkaaDoorU8
namespace Go.Proofs.YtcafccndgpopkaaDoor
open Go.V
set_option linter.unusedVariables false
set_option linter.unusedSimpArgs false
set_option maxRecDepth 20000
set_option maxHeartbeats 4000000

/-! The answer that enough nodes gave first. -/
def Rp0 : Rp := ⟨0, 0, 0, An0, ⟨#[]⟩⟩
def skp (n c s : Int) (f : An → List Int) (r : Rp) : Prop := r.cl ≠ c ∨ r.st ≠ s ∨ ¬ r.OK n ∨ r.nd ∈ f r.an
noncomputable instance (n c s : Int) (f : An → List Int) (r : Rp) : Decidable (skp n c s f r) := Classical.propDecidable _
noncomputable instance (a b : An) : Decidable (a = b) := Classical.propDecidable _
noncomputable def addF (f : An → List Int) (r : Rp) : An → List Int := fun b => if b = r.an then f r.an ++ [r.nd] else f b
noncomputable def goD (n c s : Int) : (An → List Int) → List Rp → Option An
  | _, [] => none
  | f, r :: R => if skp n c s f r then goD n c s f R else if IntKind.i64.wrap ((n - 1).tdiv 3) < ((f r.an).length + 1 : Nat) then some r.an else goD n c s (addF f r) R
noncomputable def dec (n c s : Int) (L : List Rp) : Option An := goD n c s (fun _ => []) L
theorem drop_get {L : List Rp} {i : Nat} (h : i < L.length) : L.drop i = L.getD i Rp0 :: L.drop (i + 1) := by
  rw [List.getD_eq_getElem?_getD, List.getElem?_eq_getElem h, Option.getD_some, List.drop_eq_getElem_cons h]

structure Me where
  an : An
  l : List Int
  ln : Nat
  id : Nat
def Me.row (e : Me) : List V := [.agg e.an.V, .view e.id 0 e.ln]
def iV (x : Int) : List V := [.int .i64 x]
structure Inv (n c s : Int) (L : List Rp) (i : Nat) (M : List Me) (f : An → List Int) (hh : Heap) (N : Nat) : Prop where
  le : i ≤ L.length
  n2 : 2 ≤ N
  z : hh 0 = some ⟨[An0.V], 4, 42⟩
  mp : hh 1 = some ⟨M.map Me.row, 0, 115⟩
  bl : ∀ e ∈ M, hh e.id = some ⟨e.l.map iV, 1, 3⟩ ∧ 2 ≤ e.id ∧ e.id < N
  ln : ∀ e ∈ M, e.l.length = e.ln ∧ e.ln ≤ i
  ok : ∀ e ∈ M, e.an.OK
  di : ∀ (j k : Nat) (x y : Me), M[j]? = some x → M[k]? = some y → (x.an = y.an ∨ x.id = y.id) → j = k
  fe : ∀ e ∈ M, f e.an = e.l
  fn : ∀ a, (∀ e ∈ M, e.an ≠ a) → f a = []
  len : M.length ≤ i
  go : goD n c s f (L.drop i) = dec n c s L
theorem An.V_inj {a b : An} (h : V.agg a.V = V.agg b.V) : a = b := by
  cases a; cases b
  simp only [An.V, V.agg.injEq, List.cons.injEq, V.int.injEq, and_true, true_and] at h
  obtain ⟨h1, h2, h3, h4⟩ := h
  simp [h1, h2, h3, h4]
theorem keysM {M : List Me} (h : ∀ e ∈ M, e.an.OK) : KeysOK En.P 42 (M.map Me.row) := by
  intro i row hr
  rw [List.getElem?_map] at hr
  cases hz : M[i]? with
  | none => simp [hz] at hr
  | some e =>
    simp only [hz, Option.map_some, Option.some.injEq] at hr
    subst hr
    exact ⟨_, _, rfl, keyA _ (h e (List.mem_of_getElem? hz))⟩
theorem rowGet {M : List Me} {j : Nat} {e : Me} {a : An} (h : M[j]? = some e) (ha : e.an = a) : (M.map Me.row)[j]? = some [.agg a.V, .view e.id 0 e.ln] := by
  rw [List.getElem?_map, h]; subst ha; rfl
theorem rowUniq {M : List Me} {j : Nat} {e : Me} {a : An} (hd : ∀ (j k : Nat) (x y : Me), M[j]? = some x → M[k]? = some y → (x.an = y.an ∨ x.id = y.id) → j = k) (h : M[j]? = some e) (ha : e.an = a) :
    ∀ (k : Nat) (x : V), (M.map Me.row)[k]? = some [.agg a.V, x] → k = j := by
  intro k x hk
  rw [List.getElem?_map] at hk
  cases hz : M[k]? with
  | none => simp [hz] at hk
  | some e' =>
    simp only [hz, Option.map_some, Option.some.injEq, Me.row, List.cons.injEq] at hk
    exact hd k j e' e hz h (.inl ((An.V_inj hk.1).trans ha.symm))
theorem rowNo {M : List Me} {a : An} (h : ∀ e ∈ M, e.an ≠ a) : ∀ (k : Nat) (k' x : V), (M.map Me.row)[k]? = some [k', x] → k' ≠ .agg a.V := by
  intro k k' x hk e
  subst e
  rw [List.getElem?_map] at hk
  cases hz : M[k]? with
  | none => simp [hz] at hk
  | some e' =>
    simp only [hz, Option.map_some, Option.some.injEq, Me.row, List.cons.injEq] at hk
    exact h e' (List.mem_of_getElem? hz) (An.V_inj hk.1)

theorem Inv.skip {n c s : Int} {L : List Rp} {i : Nat} {M : List Me} {f : An → List Int} {hh h' : Heap} {N N' : Nat} (I : Inv n c s L i M f hh N) (hi : i < L.length) (hs : skp n c s f (L.getD i Rp0)) (hN : N ≤ N') (ha : ∀ id, id < N → h' id = hh id) : Inv n c s L (i + 1) M f h' N' where
  le := hi
  n2 := Nat.le_trans I.n2 hN
  z := (ha 0 (by have := I.n2; omega)).trans I.z
  mp := (ha 1 (by have := I.n2; omega)).trans I.mp
  bl := fun e he => by
    obtain ⟨h1, h2, h3⟩ := I.bl e he
    exact ⟨(ha _ h3).trans h1, h2, by omega⟩
  ln := fun e he => ⟨(I.ln e he).1, by have := (I.ln e he).2; omega⟩
  ok := I.ok
  di := I.di
  fe := I.fe
  fn := I.fn
  len := by have := I.len; omega
  go := by
    rw [← I.go, drop_get hi]
    simp only [goD, hs, if_true]

theorem Inv.hit {n c s : Int} {L : List Rp} {i j : Nat} {M : List Me} {f : An → List Int} {hh h' : Heap} {N : Nat} {e : Me} (I : Inv n c s L i M f hh N) (hi : i < L.length) (hs : ¬ skp n c s f (L.getD i Rp0))
    (hq : ¬ IntKind.i64.wrap ((n - 1).tdiv 3) < ((f (L.getD i Rp0).an).length + 1 : Nat)) (hj : M[j]? = some e) (he : e.an = (L.getD i Rp0).an)
    (ha : ∀ id, id < N → id ≠ 1 → id ≠ e.id → h' id = hh id) (h1 : h' 1 = some ⟨(M.set j ⟨e.an, e.l ++ [(L.getD i Rp0).nd], e.ln + 1, N + 2⟩).map Me.row, 0, 115⟩) (h2 : h' (N + 2) = some ⟨(e.l ++ [(L.getD i Rp0).nd]).map iV, 1, 3⟩) :
    Inv n c s L (i + 1) (M.set j ⟨e.an, e.l ++ [(L.getD i Rp0).nd], e.ln + 1, N + 2⟩) (addF f (L.getD i Rp0)) h' (N + 3) := by
  have hem : e ∈ M := List.mem_of_getElem? hj
  have hjl : j < M.length := (List.getElem?_eq_some_iff.1 hj).1
  obtain ⟨hb1, hb2, hb3⟩ := I.bl e hem
  have hn := I.n2
  have hset : ∀ (k : Nat) (x : Me), (M.set j ⟨e.an, e.l ++ [(L.getD i Rp0).nd], e.ln + 1, N + 2⟩)[k]? = some x → (k = j ∧ x = ⟨e.an, e.l ++ [(L.getD i Rp0).nd], e.ln + 1, N + 2⟩) ∨ (k ≠ j ∧ M[k]? = some x) := by
    intro k x hk
    by_cases hkj : k = j
    · subst hkj
      rw [List.getElem?_set_self hjl] at hk
      exact .inl ⟨rfl, (Option.some.inj hk).symm⟩
    · rw [List.getElem?_set_ne (Ne.symm hkj)] at hk
      exact .inr ⟨hkj, hk⟩
  have hmem : ∀ x ∈ (M.set j ⟨e.an, e.l ++ [(L.getD i Rp0).nd], e.ln + 1, N + 2⟩), x = ⟨e.an, e.l ++ [(L.getD i Rp0).nd], e.ln + 1, N + 2⟩ ∨ (x ∈ M ∧ x.an ≠ e.an ∧ x.id ≠ e.id) := by
    intro x hx
    obtain ⟨k, hk⟩ := List.getElem?_of_mem hx
    rcases hset k x hk with ⟨_, h⟩ | ⟨h, h'⟩
    · exact .inl h
    · exact .inr ⟨List.mem_of_getElem? h', fun q => h (I.di k j x e h' hj (.inl q)), fun q => h (I.di k j x e h' hj (.inr q))⟩
  refine ⟨hi, by omega, (ha 0 (by omega) (by omega) (by omega)).trans I.z, h1, fun x hx => ?_, fun x hx => ?_, fun x hx => ?_, fun k m x y hx hy hxy => ?_, fun x hx => ?_, fun a hno => ?_, by rw [List.length_set]; have := I.len; omega, ?_⟩
  · rcases hmem x hx with rfl | ⟨h, h3, h4⟩
    · exact ⟨h2, by dsimp only; omega, by dsimp only; omega⟩
    · obtain ⟨q1, q2, q3⟩ := I.bl x h
      exact ⟨(ha x.id q3 (by omega) h4).trans q1, q2, by omega⟩
  · rcases hmem x hx with rfl | ⟨h, h3, h4⟩
    · have := I.ln e hem
      exact ⟨by simp [this.1], by dsimp only; omega⟩
    · have := I.ln x h
      exact ⟨this.1, by omega⟩
  · rcases hmem x hx with rfl | ⟨h, h3, h4⟩
    · exact I.ok e hem
    · exact I.ok x h
  · rcases hset k x hx with ⟨rfl, rfl⟩ | ⟨hk, hx'⟩ <;> rcases hset m y hy with ⟨rfl, rfl⟩ | ⟨hm, hy'⟩
    · rfl
    · rcases hxy with h | h
      · exact I.di k m e y hj hy' (.inl h)
      · have := (I.bl y (List.mem_of_getElem? hy')).2.2
        dsimp only at h; omega
    · rcases hxy with h | h
      · exact I.di k m x e hx' hj (.inl h)
      · have := (I.bl x (List.mem_of_getElem? hx')).2.2
        dsimp only at h; omega
    · exact I.di k m x y hx' hy' hxy
  · rcases hmem x hx with rfl | ⟨h, h3, h4⟩
    · dsimp only
      unfold addF
      rw [if_pos he, ← he, I.fe e hem]
    · unfold addF
      rw [if_neg (by rw [← he]; exact h3)]
      exact I.fe x h
  · have h3 : a ≠ e.an := fun q => hno ⟨e.an, e.l ++ [(L.getD i Rp0).nd], e.ln + 1, N + 2⟩ (List.mem_of_getElem? (List.getElem?_set_self hjl)) q.symm
    unfold addF
    rw [if_neg (by rw [← he]; exact h3)]
    refine I.fn a fun x hx q => ?_
    obtain ⟨k, hk⟩ := List.getElem?_of_mem hx
    by_cases hkj : k = j
    · subst hkj; rw [hj] at hk; obtain rfl := Option.some.inj hk; exact h3 q.symm
    · exact hno x (List.mem_of_getElem? (i := k) (by rw [List.getElem?_set_ne (Ne.symm hkj)]; exact hk)) q
  · rw [← I.go, drop_get hi]
    simp only [goD, hs, hq, if_false]

theorem Inv.miss {n c s : Int} {L : List Rp} {i : Nat} {M : List Me} {f : An → List Int} {hh h' : Heap} {N : Nat} (I : Inv n c s L i M f hh N) (hi : i < L.length) (hs : ¬ skp n c s f (L.getD i Rp0)) (hok : (L.getD i Rp0).an.OK)
    (hq : ¬ IntKind.i64.wrap ((n - 1).tdiv 3) < ((f (L.getD i Rp0).an).length + 1 : Nat)) (hno : ∀ e ∈ M, e.an ≠ (L.getD i Rp0).an)
    (ha : ∀ id, id < N → id ≠ 1 → h' id = hh id) (h1 : h' 1 = some ⟨(M ++ [Me.mk (L.getD i Rp0).an [(L.getD i Rp0).nd] 1 (N + 2)]).map Me.row, 0, 115⟩) (h2 : h' (N + 2) = some ⟨[(L.getD i Rp0).nd].map iV, 1, 3⟩) :
    Inv n c s L (i + 1) (M ++ [Me.mk (L.getD i Rp0).an [(L.getD i Rp0).nd] 1 (N + 2)]) (addF f (L.getD i Rp0)) h' (N + 3) := by
  have hn := I.n2
  have hset : ∀ (k : Nat) (x : Me), (M ++ [Me.mk (L.getD i Rp0).an [(L.getD i Rp0).nd] 1 (N + 2)])[k]? = some x → (k = M.length ∧ x = ⟨(L.getD i Rp0).an, [(L.getD i Rp0).nd], 1, N + 2⟩) ∨ (k < M.length ∧ M[k]? = some x) := by
    intro k x hk
    by_cases hkj : k < M.length
    · rw [List.getElem?_append_left hkj] at hk; exact .inr ⟨hkj, hk⟩
    · have hkl := (List.getElem?_eq_some_iff.1 hk).1
      simp at hkl
      have : k = M.length := by omega
      subst this
      simp at hk
      exact .inl ⟨rfl, hk.symm⟩
  refine ⟨hi, by omega, (ha 0 (by omega) (by omega)).trans I.z, h1, fun x hx => ?_, fun x hx => ?_, fun x hx => ?_, fun k m x y hx hy hxy => ?_, fun x hx => ?_, fun a hno' => ?_, by rw [List.length_append]; have := I.len; simp; omega, ?_⟩
  · rcases List.mem_append.1 hx with h | h
    · obtain ⟨q1, q2, q3⟩ := I.bl x h
      exact ⟨(ha x.id q3 (by omega)).trans q1, q2, by omega⟩
    · obtain rfl := List.mem_singleton.1 h
      exact ⟨h2, by dsimp only; omega, by dsimp only; omega⟩
  · rcases List.mem_append.1 hx with h | h
    · have := I.ln x h
      exact ⟨this.1, by omega⟩
    · obtain rfl := List.mem_singleton.1 h
      exact ⟨rfl, by dsimp only; omega⟩
  · rcases List.mem_append.1 hx with h | h
    · exact I.ok x h
    · obtain rfl := List.mem_singleton.1 h
      exact hok
  · rcases hset k x hx with ⟨rfl, rfl⟩ | ⟨hk, hx'⟩ <;> rcases hset m y hy with ⟨rfl, rfl⟩ | ⟨hm, hy'⟩
    · rfl
    · rcases hxy with h | h
      · exact absurd h.symm (hno y (List.mem_of_getElem? hy'))
      · have := (I.bl y (List.mem_of_getElem? hy')).2.2
        dsimp only at h; omega
    · rcases hxy with h | h
      · exact absurd h (hno x (List.mem_of_getElem? hx'))
      · have := (I.bl x (List.mem_of_getElem? hx')).2.2
        dsimp only at h; omega
    · exact I.di k m x y hx' hy' hxy
  · rcases List.mem_append.1 hx with h | h
    · unfold addF
      rw [if_neg (hno x h)]
      exact I.fe x h
    · obtain rfl := List.mem_singleton.1 h
      dsimp only
      unfold addF
      rw [if_pos rfl, I.fn _ hno]; rfl
  · have h3 : a ≠ (L.getD i Rp0).an := fun q => hno' _ (List.mem_append.2 (.inr (List.mem_singleton.2 rfl))) q.symm
    unfold addF
    rw [if_neg h3]
    exact I.fn a fun x hx => hno' x (List.mem_append.2 (.inl hx))
  · rw [← I.go, drop_get hi]
    simp only [goD, hs, hq, if_false]

theorem Inv.found {n c s : Int} {L : List Rp} {i : Nat} {M : List Me} {f : An → List Int} {hh : Heap} {N : Nat} (I : Inv n c s L i M f hh N) (hi : i < L.length) (hs : ¬ skp n c s f (L.getD i Rp0))
    (hq : IntKind.i64.wrap ((n - 1).tdiv 3) < ((f (L.getD i Rp0).an).length + 1 : Nat)) : dec n c s L = some (L.getD i Rp0).an := by
  rw [← I.go, drop_get hi]
  simp only [goD, hs, hq, if_false, if_true]
theorem Inv.done {n c s : Int} {L : List Rp} {i : Nat} {M : List Me} {f : An → List Int} {hh : Heap} {N : Nat} (I : Inv n c s L i M f hh N) (hi : ¬ i < L.length) : dec n c s L = none := by
  rw [← I.go, List.drop_eq_nil_of_le (by omega)]
  rfl
end Go.Proofs.YtcafccndgpopkaaDoor
