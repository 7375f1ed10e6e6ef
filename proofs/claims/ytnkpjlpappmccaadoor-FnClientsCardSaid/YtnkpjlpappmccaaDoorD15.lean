import Derived.Test.YtnkpjlpappmccaaDoorD14
namespace Go.Proofs.YtnkpjlpappmccaaDoor
open Go.V
set_option linter.unusedVariables false
set_option linter.unusedSimpArgs false
set_option maxRecDepth 20000
set_option maxHeartbeats 4000000

/-! What the law's values are. -/
theorem p4U (i : Int) (h : 0 ≤ i ∧ i ≤ 255) : Pure En 4 [.one (.int .i64 i)] [.agg ((Cl.mk i 0 false Rq0 [] []).U .nsl .nsl), .one (.int .i64 0)] := by
  refine Pure.of_wp Tryd.func4 rfl (Nat.le_of_ble_eq_true rfl) ?_
  refine wSeq ?_
  refine wRegion ?_
  refine ral rfl rfl rfl rfl rfl rfl ?_
  refine raI rfl rfl rfl rfl rfl ?_
  refine rNil ?_
  refine qSeq ?_
  refine wSeq ?_
  refine wSeq ?_
  refine wRegion ?_
  refine rmI rfl rfl rfl rfl rfl ?_
  refine rclP (p12 _ _ _) rfl rfl rfl rfl rfl rfl ?_ ?_ <;> intro h1_1
  · refine rnot (c := true) rfl rfl rfl rfl rfl ?_
    refine rNil ?_
    refine qSeq ?_
    refine wF rfl ?_
    refine wSkip ?_
    refine qSeq ?_
    refine wSeq ?_
    refine wRegion ?_
    refine rmI rfl rfl rfl rfl rfl ?_
    refine rbd (cs := [.int _ _, .int _ _, .bool _, .int _ _, .int _ _, .int _ _, .int _ _, .str _, _, _]) rfl rfl rfl rfl rfl ?_
    refine rst (u := .agg [.int _ _, .int _ _, .bool _, .int _ _, .int _ _, .int _ _, .int _ _, .str _, _, _]) rfl rfl rfl rfl rfl rfl rfl rfl rfl (Nat.le_of_ble_eq_true rfl) rfl rfl rfl ?_
    refine raI rfl rfl rfl rfl rfl ?_
    refine rNil ?_
    refine qSeq ?_
    refine wRet ?_
    first | exact fin rfl rfl | exact absurd h h1_1
  · refine rnot (c := false) rfl rfl rfl rfl rfl ?_
    refine rNil ?_
    refine qSeq ?_
    refine wT rfl ?_
    refine wSeq ?_
    refine wRegion ?_
    refine rbd (cs := [.int _ _, .int _ _, .bool _, .int _ _, .int _ _, .int _ _, .int _ _, .str _, _, _]) rfl rfl rfl rfl rfl ?_
    refine rst (u := .agg [.int _ _, .int _ _, .bool _, .int _ _, .int _ _, .int _ _, .int _ _, .str _, _, _]) rfl rfl rfl rfl rfl rfl rfl rfl rfl (Nat.le_of_ble_eq_true rfl) rfl rfl rfl ?_
    refine raI rfl rfl rfl rfl rfl ?_
    refine rNil ?_
    refine qSeq ?_
    refine wRet ?_
    refine qSeqR ?_
    first | exact fin rfl rfl | exact absurd h h1_1
theorem u8_b (x : Int) : 0 ≤ IntKind.u8.wrap x ∧ IntKind.u8.wrap x ≤ 255 := by
  have : IntKind.u8.wrap x = x % (2 ^ 8 : Int) := rfl
  rw [this]
  have h1 := Int.emod_nonneg x (b := (2 ^ 8 : Int)) (by decide)
  have h2 := Int.emod_lt_of_pos x (b := (2 ^ 8 : Int)) (by decide)
  have : (2 ^ 8 : Int) = 256 := rfl
  omega
theorem bytes.cons {C : List Int} (h : bytes C) (x : Int) : bytes (IntKind.u8.wrap x :: C) := by
  intro b hb
  rcases List.mem_cons.1 hb with rfl | hb
  · exact u8_b x
  · exact h b hb
theorem rowsB (w : Int) (C : List Int) : ([[V.int .u8 w]].drop 0 ++ (C.map bT).map fun r => r.map (T.toV false)) = (w :: C).map bV := by
  rw [List.map_map]; rfl
theorem rowsB2 (L : List Int) : rowsV (L.map bT) = L.map bV := by
  unfold rowsV; rw [List.map_map]; rfl
theorem lenB (C : List Int) : ∀ c ∈ (C.map bT).map (fun r => r.map (T.toV false)), c.length = 1 := by
  rw [List.map_map]; intro c hc; obtain ⟨r, hr, rfl⟩ := List.mem_map.1 hc; rfl

theorem wordOK {s : ByteArray} (h : s ∈ [nmA, nmB, nmL]) : opName s := by
  rcases List.mem_cons.1 h with rfl | h
  · exact ⟨by decide, by decide, by decide, by decide, by decide⟩
  · rcases List.mem_cons.1 h with rfl | h
    · exact ⟨by decide, by decide, by decide, by decide, by decide⟩
    · obtain rfl := List.mem_singleton.1 h
      exact ⟨by decide, by decide, by decide, by decide, by decide⟩
theorem rqOK {rq : Rq} (h : rq.good) {id : Int} {i : Nat} (hid : 0 ≤ id ∧ id ≤ 255) (hi : i ≤ 3) : (Rq.mk id ((i : Int) + 1) rq.kd rq.le rq.nm).OK := by
  obtain ⟨h1, h2, h3, h4, h5⟩ := h
  exact ⟨hid, by dsimp only; omega, by dsimp only; omega, by dsimp only; omega, wordOK h4, by dsimp only; omega⟩
theorem nmSz {rq : Rq} (h : rq.good) : rq.nm.size ≤ 65536 := Nat.le_trans (wordOK h.2.2.2.1).1 (by decide)
theorem anOK {a : An} (h : a.good) : a.OK := by
  unfold An.good at h; unfold An.OK; omega
def lieA (a : An) : An := ⟨a.kd, a.tk + 1, a.hd, a.ex⟩
theorem lieOK {a : An} (h : a.good) : (lieA a).OK := by
  unfold An.good at h; unfold An.OK lieA; dsimp only; omega
noncomputable def RP (nd id st : Int) (a : An) : Rp := ⟨nd, id, st, a, rm ⟨nd, id, st, a, ⟨#[]⟩⟩⟩
theorem rpOk {nd id : Int} {i : Nat} {a : An} (hn : nd = 1 ∨ nd = 2 ∨ nd = 3) (hid : 0 ≤ id ∧ id ≤ 255) (hi : i ≤ 3) (ha : a.OK) : (Rp.mk nd id ((i : Int) + 1) a ⟨#[]⟩).ok :=
  ⟨by dsimp only; omega, hid, by dsimp only; omega, ha⟩
theorem rpOK {nd id : Int} {i : Nat} {a : An} (hn : nd = 1 ∨ nd = 2 ∨ nd = 3) (hid : 0 ≤ id ∧ id ≤ 255) (hi : i ≤ 3) (ha : a.OK) :
    (RP nd id ((i : Int) + 1) a).OK 4 ∧ (RP nd id ((i : Int) + 1) a).cl = id ∧ (RP nd id ((i : Int) + 1) a).st = (i : Int) + 1 :=
  ⟨⟨.inr (.inl rfl), rpOk hn hid hi ha, by unfold RP; dsimp only; omega, rfl⟩, rfl, rfl⟩
/-- A client whose call is under way. -/
def CK (id : Int) (i : Nat) (rq : Rq) (acc : List An) (rps : List Rp) : Cl := ⟨id, (i : Int) + 1, true, ⟨id, (i : Int) + 1, rq.kd, rq.le, rq.nm⟩, rps, acc⟩
theorem idleOK {id : Int} {i : Nat} {acc : List An} (hid : 0 ≤ id ∧ id ≤ 255) (hi : i ≤ 3) (hl : acc.length = i) (ha : ∀ x ∈ acc, x.OK) : (Cl.mk id i false Rq0 [] acc).OK 4 :=
  ⟨.inr (.inl rfl), hid, by dsimp only; omega, ha, .inl ⟨rfl, by dsimp only; omega, rfl, rfl⟩⟩
theorem busyOK {id : Int} {i : Nat} {rq : Rq} {acc : List An} {rps : List Rp} (hrq : rq.good) (hid : 0 ≤ id ∧ id ≤ 255) (hi : i ≤ 3) (hl : acc.length = i) (ha : ∀ x ∈ acc, x.OK) (h40 : rps.length ≤ 40)
    (hr : ∀ r ∈ rps, r.OK 4 ∧ r.cl = id ∧ r.st = (i : Int) + 1) (hd : dec 4 id ((i : Int) + 1) rps = none) : (CK id i rq acc rps).OK 4 :=
  ⟨.inr (.inl rfl), hid, by unfold CK; dsimp only; omega, ha, .inr ⟨rfl, by unfold CK; dsimp only; omega, ⟨rqOK hrq hid hi, rfl, rfl⟩, h40, hr, hd⟩⟩
theorem dec4 {c s : Int} {l p q : Rp} (hl : l.OK 4 ∧ l.cl = c ∧ l.st = s) (hp : p.OK 4 ∧ p.cl = c ∧ p.st = s) (hq : q.OK 4 ∧ q.cl = c ∧ q.st = s) (e : q.an = p.an) (ne : p.an ≠ l.an) (nd : q.nd ≠ p.nd) :
    dec 4 c s [l] = none ∧ dec 4 c s [l, l] = none ∧ dec 4 c s [l, l, p] = none ∧ dec 4 c s [l, l, p, q] = some p.an := by
  have hw : IntKind.i64.wrap ((4 - 1 : Int).tdiv 3) = 1 := rfl
  have a1 : ¬ skp 4 c s (fun _ => []) l := by
    rintro (h | h | h | h)
    · exact h hl.2.1
    · exact h hl.2.2
    · exact h hl.1
    · exact absurd h List.not_mem_nil
  have a2 : skp 4 c s (addF (fun _ => []) l) l := .inr (.inr (.inr (by unfold addF; rw [if_pos rfl]; exact List.mem_singleton.2 rfl)))
  have a3 : ¬ skp 4 c s (addF (fun _ => []) l) p := by
    rintro (h | h | h | h)
    · exact h hp.2.1
    · exact h hp.2.2
    · exact h hp.1
    · unfold addF at h; rw [if_neg ne] at h; exact absurd h List.not_mem_nil
  have f3 : (addF (fun _ => []) l) p.an = [] := by unfold addF; rw [if_neg ne]
  have f4 : (addF (addF (fun _ => []) l) p) q.an = [p.nd] := by
    rw [e]
    show (if p.an = p.an then (addF (fun _ => []) l) p.an ++ [p.nd] else _) = _
    rw [if_pos rfl, f3]; rfl
  have a4 : ¬ skp 4 c s (addF (addF (fun _ => []) l) p) q := by
    rintro (h | h | h | h)
    · exact h hq.2.1
    · exact h hq.2.2
    · exact h hq.1
    · rw [f4] at h; exact nd (List.mem_singleton.1 h)
  have b1 : ¬ IntKind.i64.wrap ((4 - 1 : Int).tdiv 3) < (((fun _ => []) l.an : List Int).length + 1 : Nat) := by rw [hw]; show ¬ (1 : Int) < ((0 + 1 : Nat) : Int); decide
  have b3 : ¬ IntKind.i64.wrap ((4 - 1 : Int).tdiv 3) < (((addF (fun _ => []) l) p.an).length + 1 : Nat) := by rw [hw, f3]; decide
  have b4 : IntKind.i64.wrap ((4 - 1 : Int).tdiv 3) < (((addF (addF (fun _ => []) l) p) q.an).length + 1 : Nat) := by
    rw [hw, f4]
    show (1 : Int) < ((1 + 1 : Nat) : Int)
    decide
  unfold dec
  refine ⟨?_, ?_, ?_, ?_⟩
  · unfold goD; rw [if_neg a1, if_neg b1]; rfl
  · unfold goD; rw [if_neg a1, if_neg b1]; unfold goD; rw [if_pos a2]; rfl
  · unfold goD; rw [if_neg a1, if_neg b1]; unfold goD; rw [if_pos a2]; unfold goD; rw [if_neg a3, if_neg b3]; rfl
  · unfold goD; rw [if_neg a1, if_neg b1]; unfold goD; rw [if_pos a2]; unfold goD; rw [if_neg a3, if_neg b3]; unfold goD; rw [if_neg a4, if_pos b4, e]
theorem lastGet {acc : List An} {a : An} {i : Nat} (h : acc.length = i) : ((acc ++ [a]).map An.T)[(i : Int).toNat]? = some a.T := by
  subst h; simp

/-- All that the law needs of its replies. -/
structure Facts (id : Int) (i : Nat) (acc : List An) (rq : Rq) (an : An) : Prop where
  c0 : (CK id i rq acc []).OK 4
  c1 : (CK id i rq acc [RP 3 id ((i : Int) + 1) (lieA an)]).OK 4
  c2 : (CK id i rq acc [RP 3 id ((i : Int) + 1) (lieA an), RP 3 id ((i : Int) + 1) (lieA an)]).OK 4
  c3 : (CK id i rq acc [RP 3 id ((i : Int) + 1) (lieA an), RP 3 id ((i : Int) + 1) (lieA an), RP 1 id ((i : Int) + 1) an]).OK 4
  d1 : dec 4 id ((i : Int) + 1) ([] ++ [RP 3 id ((i : Int) + 1) (lieA an)]) = none
  d2 : dec 4 id ((i : Int) + 1) ([RP 3 id ((i : Int) + 1) (lieA an)] ++ [RP 3 id ((i : Int) + 1) (lieA an)]) = none
  d3 : dec 4 id ((i : Int) + 1) ([RP 3 id ((i : Int) + 1) (lieA an), RP 3 id ((i : Int) + 1) (lieA an)] ++ [RP 1 id ((i : Int) + 1) an]) = none
  d4 : dec 4 id ((i : Int) + 1) ([RP 3 id ((i : Int) + 1) (lieA an), RP 3 id ((i : Int) + 1) (lieA an), RP 1 id ((i : Int) + 1) an] ++ [RP 2 id ((i : Int) + 1) an]) = some an
theorem facts {id : Int} {i : Nat} {acc : List An} {rq : Rq} {an : An} (hrq : rq.good) (han : an.good) (hid : 0 ≤ id ∧ id ≤ 255) (hi : i ≤ 3) (hl : acc.length = i) (ha : ∀ x ∈ acc, x.OK) : Facts id i acc rq an := by
  have r3 := rpOK (nd := 3) (.inr (.inr rfl)) hid hi (lieOK han)
  have r1 := rpOK (nd := 1) (.inl rfl) hid hi (anOK han)
  have r2 := rpOK (nd := 2) (.inr (.inl rfl)) hid hi (anOK han)
  have ne : (RP 1 id ((i : Int) + 1) an).an ≠ (RP 3 id ((i : Int) + 1) (lieA an)).an := by
    intro h
    have := congrArg An.tk h
    simp only [RP, lieA] at this
    omega
  obtain ⟨d1, d2, d3, d4⟩ := dec4 r3 r1 r2 rfl ne (by simp only [RP]; decide)
  refine ⟨busyOK hrq hid hi hl ha (Nat.zero_le _) (fun r hr => absurd hr List.not_mem_nil) rfl, busyOK hrq hid hi hl ha (Nat.le_of_ble_eq_true rfl) (fun r hr => ?_) d1, busyOK hrq hid hi hl ha (Nat.le_of_ble_eq_true rfl) (fun r hr => ?_) d2, busyOK hrq hid hi hl ha (Nat.le_of_ble_eq_true rfl) (fun r hr => ?_) d3, d1, d2, d3, d4⟩
  · obtain rfl := List.mem_singleton.1 hr; exact r3
  · rcases List.mem_cons.1 hr with rfl | hr
    · exact r3
    · obtain rfl := List.mem_singleton.1 hr; exact r3
  · rcases List.mem_cons.1 hr with rfl | hr
    · exact r3
    · rcases List.mem_cons.1 hr with rfl | hr
      · exact r3
      · obtain rfl := List.mem_singleton.1 hr; exact r1
end Go.Proofs.YtnkpjlpappmccaaDoor
