import Derived.Test.YtknnniaoboaghaaF7
namespace Go.V
open Go
open Go.RowKit (Below)
set_option linter.unusedVariables false
theorem CellsAt.take {c : Cx} {p : Place} {b : Blk} (h : CellsAt c p b) (k : Nat) : CellsAt c p ⟨b.es.take k, b.sz, b.ty⟩ := by
  obtain ⟨cells, fz, h2, h3, h4, h5, h6, h7, h8⟩ := h
  refine ⟨cells, fz, h2, h3, h4, h5, ?_, fun e he => h7 e (List.mem_of_mem_take he), fun i j x hx => ?_⟩
  · have : (b.es.take k).length * b.sz ≤ b.es.length * b.sz := Nat.mul_le_mul_right _ (by simp; omega)
    exact Nat.le_trans this h6
  · refine h8 i j x ?_
    unfold get2 at hx ⊢
    simp only at hx
    rw [List.getElem?_take] at hx
    split at hx
    · exact hx
    · cases hx
theorem Open.aliasT {E : Env} {f : FuncId} {args : List V} {h : Heap} {n m id off len cp : Nat} {wr : List (Nat × Option Blk)} {X : Blk}
    (H : Open E f args h n (.vcap id off len cp) wr m) (hX : app wr h id = some X) (k0 : Nat) : Open E f args h n (.view m off len) (wr ++ [(id, none), (m, some ⟨X.es.take k0, X.sz, X.ty⟩)]) (m + 1) := by
  generalize hY : (⟨X.es.take k0, X.sz, X.ty⟩ : Blk) = Y
  unfold Open at H ⊢
  refine ⟨⟨H.1.1, Nat.le_succ_of_le H.1.2⟩, fun c vs hg hfr hal har => ?_⟩
  refine Calls.mono (H.2 c vs hg hfr hal har) ?_
  rintro e w' ⟨u, c', rfl, rfl, hx, hg', hd, hv⟩
  generalize hvv : V.vcap id off len cp = vv at hv
  cases hv with
  | vcap id' off' len' cp' p o hp ho hl hm =>
    cases hvv
    have hmn : c'.ρ m = none := by
      cases hq : c'.ρ m with
      | none => rfl
      | some q =>
        rcases hd m (by rw [hq]; nofun) with h1 | h1
        · exact absurd (hfr m H.1.2) h1
        · omega
    have him : id ≠ m := fun e => by rw [e, hmn] at hp; cases hp
    let c2 : Cx := { c' with ρ := upd c'.ρ m (some p) }
    have hx2 : Ext c' c2 := by
      refine ⟨rfl, fun i q hq => ?_, fun _ h => h, fun _ _ => rfl, Below.refl _ _⟩
      have : i ≠ m := fun e => by rw [e, hmn] at hq; cases hq
      show upd c'.ρ m (some p) i = some q
      rw [B8 _ _ this]; exact hq
    have hρ : ∀ i, i ≠ m → c2.ρ i = c'.ρ i := fun i hi => B8 _ _ hi
    have hρm : c2.ρ m = some p := upd_same _ _ _
    have happ : app (wr ++ [(id, none), (m, some Y)]) h = upd (upd (app wr h) id none) m (some Y) := by rw [I3]; rfl
    have hlive : ∀ i x, upd (upd (app wr h) id none) m (some Y) i = some x → (i = m ∧ x = Y) ∨ (i ≠ m ∧ i ≠ id ∧ app wr h i = some x) := by
      intro i x hi
      by_cases h1 : i = m
      · subst h1; rw [upd_same] at hi; exact .inl ⟨rfl, (Option.some.inj hi).symm⟩
      · rw [B8 _ _ h1] at hi
        by_cases h2 : i = id
        · subst h2; rw [upd_same] at hi; cases hi
        · rw [B8 _ _ h2] at hi; exact .inr ⟨h1, h2, hi⟩
    
    have hold : ∀ i x r, upd (upd (app wr h) id none) m (some Y) i = some x → c2.ρ i = some r → ∃ k x', app wr h k = some x' ∧ c'.ρ k = some r ∧ ((i = m ∧ k = id) ∨ (i = k ∧ k ≠ id)) := by
      intro i x r hi hr
      rcases hlive i x hi with ⟨rfl, rfl⟩ | ⟨h1, h2, h3⟩
      · rw [hρm] at hr; cases hr
        exact ⟨id, X, hX, hp, .inl ⟨rfl, rfl⟩⟩
      · rw [hρ i h1] at hr
        exact ⟨i, x, h3, hr, .inr ⟨rfl, h2⟩⟩
    refine ⟨_, c2, rfl, rfl, hx.trans hx2, ?_, fun i hi => ?_, ?_⟩
    · rw [happ]
      refine ⟨fun i x hi => ?_, fun i i' x x' r r' hi hi' hr hr' he => ?_, hg'.imm, fun i x r hi hr => ?_, fun i r hr => ?_, hg'.base, fun g cs hgc => (hg'.glob g cs hgc).mono hx2⟩
      · rcases hlive i x hi with ⟨rfl, rfl⟩ | ⟨h1, h2, h3⟩
        · subst hY
          obtain ⟨q, g1, g2, g3⟩ := hg'.blk id _ hX
          rw [hp] at g1; obtain rfl := Option.some.inj g1
          exact ⟨_, hρm, fun hm' => ((CellsAt.take (g2 hm') k0).mono hx2 rfl), fun hm' => by rw [hm] at hm'; cases hm'⟩
        · obtain ⟨q, g1, g2, g3⟩ := hg'.blk i x h3
          exact ⟨q, hx2.rho _ _ g1, fun hm => (g2 hm).mono hx2 rfl, fun hm => (g3 hm).mono hx2 rfl⟩
      · obtain ⟨k, y1, a1, a2, a3⟩ := hold i x r hi hr
        obtain ⟨k', y2, b1, b2, b3⟩ := hold i' x' r' hi' hr'
        have hk := hg'.inj k k' y1 y2 r r' a1 b1 a2 b2 he
        rcases a3 with ⟨rfl, a4⟩ | ⟨rfl, a4⟩ <;> rcases b3 with ⟨rfl, b4⟩ | ⟨rfl, b4⟩
        · rfl
        · exact absurd (hk ▸ a4) b4
        · exact absurd (hk.trans b4) a4
        · exact hk
      · obtain ⟨k, y1, a1, a2, _⟩ := hold i x r hi hr
        exact hg'.sep k y1 r a1 a2
      · by_cases h1 : i = m
        · subst h1; rw [hρm] at hr; cases hr; exact hg'.own id p hp
        · rw [hρ i h1] at hr; exact hg'.own i r hr
    · by_cases h1 : i = m
      · right; have := H.1.2; omega
      · rw [hρ i h1] at hi
        rcases hd i hi with h2 | h2
        · exact .inl h2
        · right; omega
    · exact .view m off len p o cp hρm ho hl hm
  | _ => cases hvv
end Go.V
namespace Go.Proofs.Ytknnniaoboaghaa
open Go.V
set_option linter.unusedVariables false
set_option linter.unusedSimpArgs false
set_option maxRecDepth 20000
set_option maxHeartbeats 4000000
theorem delR {p A B : List (List V)} {x u : List V} : putR (putR (p ++ (A ++ x :: B)) (p.length + A.length) B) (p.length + (A.length + B.length)) [u] = (p ++ (A ++ B)) ++ [u] := by
 have e1 : p ++ (A ++ x :: B) = (p ++ A) ++ x :: B := by simp
 have e2 : putR (p ++ (A ++ x :: B)) (p.length + A.length) B = (p ++ A) ++ (B ++ (x :: B).drop B.length) := by
  rw [e1]; exact putR_A (by simp) (by simp)
 have e3 : ((x :: B).drop B.length).length = 1 := by simp
 obtain ⟨y, hy⟩ := List.length_eq_one_iff.1 e3
 rw [e2, hy]
 have e4 : (p ++ A) ++ (B ++ [y]) = (p ++ (A ++ B)) ++ [y] := by simp
 rw [e4, putR_A (by simp) (by simp)]
 simp
theorem lenD {P : List (List V)} (L : List Wt) (a b : Nat) (hp : P.length ≤ a) : ∀ c ∈ ((P ++ L.map wtV).drop a).take b, c.length = 2 := fun c hc => by
 have h1 := List.mem_of_mem_take hc
 rw [List.drop_append, List.drop_of_length_le hp, List.nil_append] at h1
 obtain ⟨w, _, rfl⟩ := List.mem_map.1 (List.mem_of_mem_drop h1); rfl
theorem o135c (pre : List (List V)) (L : List Wt) (i c : Nat) (hi : i < L.length) (hc : L.length ≤ c) (hL : L.length ≤ 1000) {wb : Nat} {h : Heap} {n : Nat} (hw : wb < n) (k1 : h wb = some ⟨pre ++ L.map wtV, 2, 123⟩) : V.Open En 135 [.vcap wb pre.length L.length c, .int .i64 i, .int .i64 ((i : Int) + 1)] h n (.vcap wb pre.length (L.length - 1) c) [(wb, some ⟨(pre ++ (L.take i ++ L.drop (i + 1)).map wtV) ++ [[.unk, .unk]], 2, 123⟩)] n := by
 refine V.Open.of_wp Try.func135 rfl kb ?_
 refine A2 (A0 (AA j5 (A3 (A1 (A2 (A0 (Y3 j5 (B6 j5 (B6 j5 (Y3 j5 (H0 rfl rfl rfl j3 ?_)))))))))))
 (apply rsl3 j6; exact Q2; exact Q2; exact Q2; exact Q2; exact j3)
 refine A3 (A1 (A2 (A2 (A0 (B6 j5 (B6 j5 ?_))))))
 refine H5 j6 (fun h => absurd h ((by omega))) ?_
 intro h2_2
 refine A3 (A1 (wF rfl (B0 (A1 (A2 (A0 (Y3 j5 (H0 rfl rfl rfl j3 (D0 j5 (A3 (A1 (A2 ?_))))))))))))
 refine C2 [0, 0, 3, 0, 0, 24, 63, 127] rfl (by decide +kernel) ?_
 refine dmK j5 (I0 j5 ?_)
 (apply dslc j3; exact Q0; exact j3; exact Q2; exact Q2; exact Q2; exact j3)
 refine dmK j5 (I0 j5 ?_)
 (apply dslcV j3; exact Q0; exact j3; exact Q2; exact Q2; exact Q2; exact j3)
 (apply dapi (s' := 16) rfl rfl; exact Q0; exact j2; exact Q2; exact j2; exact kz; (apply K0 rfl; exact Q0; (show _ ≤ (pre ++ L.map wtV).length; rw [List.length_append, List.length_map]; omega); rfl); exact lenD L _ _ (by omega); exact Q2; exact j3)
 refine daK j5 (B1 8 [0, 3, 1, 0, 0, 1, 0, 0] [] j2 (by decide +kernel) trivial ?_)
 refine A1 (A2 (A0 (Y3 j5 (Y3 j5 (H0 rfl rfl rfl j3 (B6 j5 ?_))))))
 (apply Y5 j3; exact Q0; exact j3; exact Q2; exact Q2; exact Q2; exact j3)
 (apply rclr (s' := 16) rfl rfl; exact Q0; exact j2; exact Q2; rfl; (show zeroOne _ 123 = true; kernel_rfl); exact kz; exact j2)
 refine A3 (A1 (A2 (A0 (Y3 j5 (raK j5 (A3 (A1 (A9 ?_))))))))
 refine E7 rfl (show V.vcap _ _ _ _ = _ from congr (congr (congrArg (V.vcap wb) (by first | rfl | omega | simp)) (by first | (simp; omega) | omega)) (by first | rfl | omega)) ?_ (Nat.le_refl _)
 refine K8 (fun jx hjx => ?_) (fun jx hjx hn => ?_)
 ·simp only [List.map_cons, List.map_nil, List.mem_cons, List.not_mem_nil, or_false] at hjx
  rw [hjx]
  (simp (disch := omega) only [↓appC, ↓updN, ↓updS, ↓app0])
  refine congrArg (fun z => some (Blk.mk z 2 123)) ?_
  obtain ⟨A, x, B, rfl, rfl⟩ : ∃ (A : List Wt) (x : Wt) (B : List Wt), L = A ++ x :: B ∧ A.length = i := ⟨L.take i, L[i], L.drop (i + 1), by rw [List.getElem_cons_drop, List.take_append_drop], by simp; omega⟩
  have q := delR (p := pre) (A := A.map wtV) (B := B.map wtV) (x := wtV x) (u := [.unk, .unk])
  have z0 : Int.toNat 0 = 0 := rfl
  have r1 : (A ++ x :: B).take A.length ++ (A ++ x :: B).drop (A.length + 1) = A ++ B := by simp
  rw [r1]
  simp only [List.map_append, List.map_cons, List.length_map] at q ⊢
  refine Eq.trans ?_ q
  have hlen : (A ++ x :: B).length = A.length + (B.length + 1) := by simp
  have d1 : pre.length + ((A.length : Int) + 1).toNat = (pre ++ (A.map wtV ++ [wtV x])).length := by simp <;> omega
  have d2 : List.drop (pre.length + ((A.length : Int) + 1).toNat) (pre ++ (A.map wtV ++ wtV x :: B.map wtV)) = B.map wtV := by
   rw [d1, show pre ++ (A.map wtV ++ wtV x :: B.map wtV) = (pre ++ (A.map wtV ++ [wtV x])) ++ B.map wtV by simp, List.drop_left]
  have d3 : List.take ((((A ++ x :: B).length : Nat) : Int).toNat - ((A.length : Int) + 1).toNat) (B.map wtV) = B.map wtV := List.take_of_length_le (by rw [hlen]; simp; omega)
  rw [d2, d3]
  simp only [List.length_map]
  have e1 : pre.length + Int.toNat 0 + ((A.length : Int).toNat - Int.toNat 0) = pre.length + A.length := by omega
  have e2 : ((((A.length : Int).toNat - Int.toNat 0 + B.length : Nat)) : Int).toNat = A.length + B.length := by omega
  rw [e1, e2, z0, Nat.add_zero, show (((A ++ x :: B).length : Nat) : Int).toNat - (A.length + B.length) = 1 by rw [hlen]; omega]
  rfl
 ·simp only [List.map_cons, List.map_nil, List.mem_cons, List.not_mem_nil, or_false, not_or] at hn
  (simp (disch := omega) only [↓appC, ↓updN, ↓updS, ↓app0])
theorem o135m (pre : List (List V)) (L : List Wt) (i : Nat) (hi : i < L.length) (hL : L.length ≤ 1000) {wb : Nat} {h : Heap} {n : Nat} (hw : wb < n) (k1 : h wb = some ⟨pre ++ L.map wtV, 2, 123⟩) :
  V.Open En 135 [.view wb pre.length L.length, .int .i64 i, .int .i64 ((i : Int) + 1)] h n (.view n pre.length (L.length - 1)) [(wb, none), (n, some ⟨pre ++ (L.take i ++ L.drop (i + 1)).map wtV, 2, 123⟩)] (n + 1) := by
 refine @V.Open.byCap _ _ [] [.int .i64 i, .int .i64 ((i : Int) + 1)] _ _ _ _ _ _ _ _ (fun c hc => ?_)
 have q := V.Open.aliasT (o135c pre L i c hi hc hL hw k1) (by simp only [app]; exact upd_same _ _ _) (pre.length + (L.length - 1))
 refine V.Open.lessW q (fun k b hb => ?_)
 have e : ((pre ++ (L.take i ++ L.drop (i + 1)).map wtV) ++ [[V.unk, V.unk]]).take (pre.length + (L.length - 1)) = pre ++ (L.take i ++ L.drop (i + 1)).map wtV := by
  rw [List.take_append_of_le_length (by simp; omega), List.take_of_length_le (by simp; omega)]
 dsimp only at q ⊢
 rw [e]
 simp only [app, List.cons_append, List.nil_append] at hb ⊢
 by_cases h1 : k = n
 ·subst h1; rw [upd_same] at hb ⊢; exact hb
 ·rw [B8 _ _ h1] at hb ⊢
  by_cases h2 : k = wb
  ·subst h2; rw [upd_same] at hb; cases hb
  ·rw [B8 _ _ h2] at hb ⊢; rw [B8 _ _ h2]; exact hb
open Go.V
set_option linter.unusedVariables false
set_option linter.unusedSimpArgs false
set_option maxRecDepth 20000
set_option maxHeartbeats 4000000
theorem F7 (k : Nat) : 0 + (k : Int).toNat = k := by omega
def TabS (t : Tb) (id : Nat) (F : Nat → Prop) (n : Nat) (h g : Heap) (m : Nat) : Prop :=
 ∃ Sl Ss W, TabM t id Sl Ss W g m ∧ (∀ a, OwnT id Sl Ss W t.lk.length a → F a ∨ n ≤ a) ∧ (∀ a, a < n → ¬ F a → g a = h a) ∧ n ≤ m
theorem TabM.same {t : Tb} {id : Nat} {Sl Ss : V} {W : Nat → V} {h g : Heap} {n m : Nat} (T : TabM t id Sl Ss W h n) (hm : n ≤ m) (e : ∀ a, a < n → g a = h a) : TabS t id (OwnT id Sl Ss W t.lk.length) n h g m :=
 ⟨Sl, Ss, W, T.ext hm e, fun a o => .inl o, fun a ha _ => e a ha, hm⟩
theorem TabM.lockS {t : Tb} {id : Nat} {Sl Ss : V} {W : Nat → V} {h g : Heap} {n m : Nat} (T : TabM t id Sl Ss W h n) {k : Nat} (hk : k < t.lk.length) {lb len : Nat} (hSl : Sl = .view lb 0 len) (l : Lk) (w : V) (nx : Int) (hnm : n ≤ m)
  (g1 : g id = some ⟨[[.int .i64 t.tm, .int .i64 nx, Sl, Ss]], 4, 35⟩) (g2 : g lb = some ⟨(rwW t.lk W).set k (l.V w), 5, 29⟩) (g3 : IsL g w (l.ws.map wtV) 2 123) (g4 : ∀ a, fpV w = some a → a < m ∧ (fpV (W k) = some a ∨ n ≤ a))
  (g5 : ∀ a, a < n → a ≠ id → a ≠ lb → fpV (W k) ≠ some a → g a = h a) : TabS ⟨t.tm, nx, t.lk.set k l, t.sn⟩ id (OwnT id Sl Ss W t.lk.length) n h g m := by
 have hlen : (t.lk.set k l).length = t.lk.length := List.length_set
 refine ⟨Sl, Ss, _, T.setLk hk hSl l w t.tm nx hnm g1 g2 g3 g4 (fun a o h1 h2 h3 => g5 a (T.lt o) h1 h2 h3), fun a o => ?_, fun a ha hna => ?_, hnm⟩
 ·rcases o with h | h | h | ⟨i, hi, h⟩
  ·exact .inl (.inl h)
  ·exact .inl (.inr (.inl h))
  ·exact .inl (.inr (.inr (.inl h)))
  ·have hi' : i < t.lk.length := by rw [← hlen]; exact hi
   dsimp only at h
   by_cases e : i = k
   ·rw [if_pos e] at h
    rcases (g4 a h).2 with h2 | h2
    ·exact .inl (.inr (.inr (.inr ⟨k, hk, h2⟩)))
    ·exact .inr h2
   ·rw [if_neg e] at h
    exact .inl (.inr (.inr (.inr ⟨i, hi', h⟩)))
 ·exact g5 a ha (fun e => hna (.inl e)) (fun e => hna (.inr (.inl (by rw [hSl, e]; rfl)))) (fun e => hna (.inr (.inr (.inr ⟨k, hk, e⟩))))
theorem F5 {t : Tb} {r : Rq} (h : hit r.nm t.lk) : acqT t r = acqL t (pos r.nm t.lk) r := if_pos h
theorem acqT_no {t : Tb} {r : Rq} (h : ¬ hit r.nm t.lk) (h4 : t.lk.length = 4) : acqT t r = (t, bareA 6) := by unfold acqT; rw [if_neg h, if_pos h4]
theorem T9 {t : Tb} {r : Rq} (h : ¬ hit r.nm t.lk) (h4 : ¬ t.lk.length = 4) : acqT t r = (⟨t.tm, t.nx + 1, insL t.lk (pos r.nm t.lk) ⟨r.nm, t.nx, r.cl, t.tm + r.le, []⟩, t.sn⟩, ⟨1, t.nx, r.cl, t.tm + r.le⟩) := by unfold acqT; rw [if_neg h, if_neg h4]
def An.V (a : An) : List V := [.int .i64 a.kd, .int .i64 a.tk, .int .i64 a.hd, .int .i64 a.ex]
theorem Y2 {α : Type} {A B : List α} {x y : α} {k : Nat} (h : A.length = k) : (A ++ x :: B).set k y = A ++ y :: B := by
 subst h; rw [List.set_append_right _ _ (Nat.le_refl _), Nat.sub_self]; rfl
theorem AM {α : Type} {A B : List α} {x : α} {k : Nat} (h : A.length = k) : (A ++ x :: B)[k]? = some x := by
 subst h; rw [List.getElem?_append_right (Nat.le_refl _), Nat.sub_self]; rfl
structure Bd (t : Tb) (r : Rq) : Prop where
 srt : Srt t.lk
 l4 : t.lk.length ≤ 4
 w4 : ∀ i, i < t.lk.length → (t.lk.getD i Lk0).ws.length ≤ 4
 wl : ∀ j, j < t.lk.length → ∀ i, i < (t.lk.getD j Lk0).ws.length → 1 ≤ ((t.lk.getD j Lk0).ws.getD i (0, 0)).2 ∧ ((t.lk.getD j Lk0).ws.getD i (0, 0)).2 ≤ 1000
 tm : 0 ≤ t.tm ∧ t.tm ≤ 1000000000
 nx : 0 ≤ t.nx ∧ t.nx ≤ 999990
 cl : 0 ≤ r.cl ∧ r.cl ≤ 255
 le : 0 ≤ r.le ∧ r.le ≤ 1000
theorem o134h (t : Tb) (r : Rq) (bd : Bd t r) (hh : hit r.nm t.lk) {k : Nat} (hp : pos r.nm t.lk = k) {id lb : Nat} {Ss : V} {W : Nat → V} {h : Heap} {n : Nat} (T : TabM t id (.view lb 0 t.lk.length) Ss W h n) : OpenM En 134 [.ptr id 0 0, .agg [.int .i64 r.cl, .int .i64 r.st, .int .i64 r.kd, .int .i64 r.le, .str r.nm]] h n (fun v g m => v = .agg (acqT t r).2.V ∧ TabS (acqT t r).1 id (OwnT id (.view lb 0 t.lk.length) Ss W t.lk.length) n h g m) := by
 have hid := T.idn
 have kid := T.kid
 have hl4 := bd.l4; have htm := bd.tm; have hnx := bd.nx; have hcl := bd.cl; have hle := bd.le
 have hf := fun (h : Heap) (n : Nat) (T : TabM t id (.view lb 0 t.lk.length) Ss W h n) => o48y t W r.nm bd.srt (by omega) hh T
 rw [hp] at hf
 have hk : k < t.lk.length := by rw [← hp]; exact hh.1
 have hR : k < (rwW t.lk W).length := by rw [B5]; exact hk
 have hw4 := bd.w4 k hk
 have klb : h lb = some ⟨rwW t.lk W, 5, 29⟩ := by
  rcases T.kl with ⟨e, _⟩ | ⟨b, e, q⟩
  ·cases e
  ·injection e with e1 e2 e3; rw [e1]; exact q
 have hlb := T.fl lb rfl
 have hne := hlb.2
 have hkw := T.kw k hk
 have hfw := fun a ha => (T.fw k a hk ha)
 have hfw := fun a ha => (⟨(hfw a ha).1, (hfw a ha).2.1, fun e => (hfw a ha).2.2.1 (by rw [e]; rfl)⟩ : a < n ∧ a ≠ id ∧ a ≠ lb)
 have hrow := F4 (W := W) hk
 generalize hl : t.lk.getD k Lk0 = l at hkw hrow hw4
 generalize hwk : W k = w at hkw hrow hfw
 have hwc := hkw.cell
 unfold Lk.V at hrow
 rcases hkw with ⟨rfl, hws⟩ | ⟨wb, pre, hw, kwb⟩
 ·have hkw : IsL h .nsl (l.ws.map wtV) 2 123 := .inl ⟨rfl, hws⟩
  have hwz : l.ws.length = 0 := by rw [List.map_eq_nil_iff.1 hws]; rfl
  refine OpenM.of_wp Try.func134 rfl kb ?_
  refine A2 (A0 (L7 (u := .agg [.int _ _, .int _ _, .int _ _, .int _ _, .str _]) j3 rfl j3 (H3 j6 (A3 (A1 (A2 (A0 (D9 j5 (C1 (off := 4) (s := 1) (r := false) j3 kz j3 ?_)))))))))
  (apply C5 (v := .str _) j2; exact Q0; exact Q1; exact j5)
  refine I9 (hf _ _ (T.ext (by omega) (fun a ha => by (simp (disch := (first | omega | assumption)) only [↓appC, ↓updN, ↓updS, ↓app0])))) rfl rfl rfl rfl rfl rfl ?_
  refine rmT j5 (T6 j6 (T6 j6 (D0 j5 (C6 j5 (A3 (A1 (A2 (A2 (A0 (C4 j5 (D5 (c := true) j5 (A3 ?_))))))))))))
  refine A1 (wF rfl (B0 (A1 (A2 (A0 (D9 j5 (F6 (v := .ptr _ _ _) j6 (C1 (off := 2) (s := 1) (r := false) j3 kz j3 ?_))))))))
  (apply C5 (v := .view _ _ _) j2; exact Q0; exact Q1; exact j5)
  refine B6 j5 ?_
  (refine r0 ((B9 (b := ⟨rwW t.lk W, 5, 29⟩) rfl rfl rfl rfl (by exact Q0) rfl (by omega) (by omega)).to (v' := .ptr (lb) k 0) (by rw [F7])) rfl rfl rfl ?_)
  refine raP j5 (A3 (A1 (A2 (B3 (A2 (C2 [0, 1, 3, 7, 0, 16, 63, 127, 255, 511, 1023, 255, 2303, 8191, 16383, 32767, 65535] rfl (by decide +kernel) ?_))))))
  refine G6 j5 (G7 (v := .ptr _ _ _) j6 (D6 (off := 2) (s := 1) (r := false) j3 kz j3 ?_))
  (apply E1 (v := .int _ _) j2; exact Q0; exact Q1; exact j5)
  refine D6 (off := 0) (s := 1) (r := false) j3 kz j3 ?_
  (apply E1 (v := .int _ _) j2; exact Q0; exact Q1; exact j5)
  refine deq j6 ?_ ?_ <;> intro h7_6
  ·refine H8 j5 (A6 j3 (A6 j3 (A6 j3 (A6 j3 (A6 j3 (A6 j3 (A6 j3 (G5 (e := true) j6 (K3 j5 (B1 17 [0, 0, 0, 0, 0, 0, 0, 0, 0, 0, 0, 1, 0, 1, 0, 0, 0] [] j2 (by decide +kernel) trivial ?_))))))))))
   refine A1 (wT rfl (A2 (A0 (D9 j5 (I9 (L0 l.nm l.tk l.hd l.ex 8 V.nsl (lb := lb) (j := k) (R := (rwW t.lk W)) ?_ ?_ ?_) rfl rfl rfl rfl rfl rfl ?_)))))
   ·exact J8
   ·exact J8
   ·exact J8
   (apply D4 (u := .agg [.int _ _, .int _ _, .int _ _, .int _ _]) j3; exact Q0; exact Q1; rfl; rfl; rfl; rfl; exact kb; rfl; exact j2)
   refine A3 (A1 (A9 (B4 (B2 (E0 (A5 (A7 rfl (by exact Q0) j2 kb rfl) A8) (by (repeat first | exact Ch.refl _ | refine Ch.upd ?_ | refine Ch.app ?_ | assumption)) ?_)))))
   have e : acqT t r = (t, tellL 8 l) := by
    rw [F5 hh, hp]; unfold acqL; rw [hl]; exact if_pos (by first | exact .inl h7_6 | exact .inr h7_14)
   rw [e]
   exact ⟨rfl, T.same (by omega) (fun a ha => by (simp (disch := (first | omega | assumption)) only [↓appC, ↓updN, ↓updS, ↓app0]))⟩
  ·refine H8 j5 (G6 j5 (G7 (v := .ptr _ _ _) j6 ?_))
   (apply L8 (vs := [.str _, .int _ _, .int _ _, .int _ _, _]) j2; exact Q0; exact Q1; rfl; exact kb; exact j4)
   refine D6 (off := 0) (s := 1) (r := false) j3 kz j3 ?_
   (apply E1 (v := .int _ _) j2; exact Q0; exact Q1; exact j5)
   apply O8 [lb] (p66 l false r.cl (by omega)) rfl j2
   ·exact SnapL.cons _ _ _ _ (SnapC.agg (.cons _ _ _ _ (.str _) (.cons _ _ _ _ (.int _ _) (.cons _ _ _ _ (.int _ _) (.cons _ _ _ _ (.int _ _) (.cons _ _ _ _ (D3 (hkw.mono (fun a ha => by have q := hfw a ha; (simp (disch := (first | omega | assumption)) only [↓appC, ↓updN, ↓updS, ↓app0]))) (fun a ha => by cases ha)) .nil)))))) (SnapL.cons _ _ _ _ (.one _ _ (.int _ _)) SnapL.nil)
   ·rfl
   ·rfl
   ·rfl
   refine dge j6 ?_ ?_ <;> intro h7_14
   ·refine G5 (e := true) j6 (K3 j5 (B1 17 [0, 0, 0, 1, 1, 0, 1, 0, 0, 0, 0, 1, 0, 1, 0, 0, 0] [] j2 (by decide +kernel) trivial ?_))
    refine A1 (wT rfl (A2 (A0 (D9 j5 (I9 (L0 l.nm l.tk l.hd l.ex 8 V.nsl (lb := lb) (j := k) (R := (rwW t.lk W)) ?_ ?_ ?_) rfl rfl rfl rfl rfl rfl ?_)))))
    ·exact J8
    ·exact J8
    ·exact J8
    (apply D4 (u := .agg [.int _ _, .int _ _, .int _ _, .int _ _]) j3; exact Q0; exact Q1; rfl; rfl; rfl; rfl; exact kb; rfl; exact j2)
    refine A3 (A1 (A9 (B4 (B2 (E0 (A5 (A7 rfl (by exact Q0) j2 kb rfl) A8) (by (repeat first | exact Ch.refl _ | refine Ch.upd ?_ | refine Ch.app ?_ | assumption)) ?_)))))
    have e : acqT t r = (t, tellL 8 l) := by
     rw [F5 hh, hp]; unfold acqL; rw [hl]; exact if_pos (by first | exact .inl h7_6 | exact .inr h7_14)
    rw [e]
    exact ⟨rfl, T.same (by omega) (fun a ha => by (simp (disch := (first | omega | assumption)) only [↓appC, ↓updN, ↓updS, ↓app0]))⟩
   ·refine G5 (e := false) j6 (K3 j5 (B1 17 [0, 0, 0, 1, 1, 0, 1, 0, 0, 0, 0, 1, 0, 1, 0, 0, 0] [] j2 (by decide +kernel) trivial ?_))
    refine A1 (wF rfl (A2 (A0 (D9 j5 (F6 (v := .ptr _ _ _) j6 (C1 (off := 2) (s := 1) (r := false) j3 kz j3 ?_))))))
    (apply C5 (v := .int _ _) j2; exact Q0; exact Q1; exact j5)
    refine H5 j6 ?_ ?_ <;> intro h9_4
    ·refine C6 j5 (A3 (A1 (wT rfl (A2 (A0 (D9 j5 (D9 j5 (C1 (off := 0) (s := 1) (r := false) j3 kz j3 ?_))))))))
     (apply C5 (v := .int _ _) j2; exact Q0; exact Q1; exact j5)
     refine C1 (off := 3) (s := 1) (r := false) j3 kz j3 ?_
     (apply C5 (v := .int _ _) j2; exact Q0; exact Q1; exact j5)
     refine I9 (o125 l.nm l.tk l.hd l.ex t.tm t.nx r.cl r.le V.nsl (.view lb 0 t.lk.length) Ss hwc htm (by omega) hle (id := id) (lb := lb) (j := k) (R := rwW t.lk W) ?_ ?_ ?_ ?_ ?_ ?_ ?_) rfl rfl rfl rfl rfl rfl ?_
     ·exact J8
     ·exact J8
     ·exact J8
     ·exact J8
     ·exact J8
     ·exact J8
     ·exact J8
     refine A3 (A1 (A2 (A0 (D9 j5 (I9 (L0 l.nm t.nx r.cl (t.tm + r.le) 1 V.nsl (lb := lb) (j := k) (R := ((rwW t.lk W).set k [.str l.nm, .int .i64 t.nx, .int .i64 r.cl, .int .i64 (t.tm + r.le), V.nsl])) ?_ ?_ ?_) rfl rfl rfl rfl rfl rfl ?_)))))
     ·exact J8
     ·exact J8
     ·exact J8
     (apply D4 (u := .agg [.int _ _, .int _ _, .int _ _, .int _ _]) j3; exact Q0; exact Q1; rfl; rfl; rfl; rfl; exact kb; rfl; exact j2)
     refine A3 (A1 (A9 (B4 (B2 (E0 (A5 (A7 rfl (by exact Q0) j2 kb rfl) A8) (by (repeat first | exact Ch.refl _ | refine Ch.upd ?_ | refine Ch.app ?_ | assumption)) ?_)))))
     have e : acqT t r = (⟨t.tm, t.nx + 1, t.lk.set k ⟨l.nm, t.nx, r.cl, t.tm + r.le, l.ws⟩, t.sn⟩, ⟨1, t.nx, r.cl, t.tm + r.le⟩) := by
      rw [F5 hh, hp]; unfold acqL; rw [hl, if_neg (fun e => e.elim h7_6 h7_14), if_pos h9_4]
     rw [e]
     refine ⟨rfl, T.lockS hk rfl ⟨l.nm, t.nx, r.cl, t.tm + r.le, l.ws⟩ V.nsl (t.nx + 1) (by omega) ?_ ?_ ?_ ?_ ?_⟩
     ·exact Q0
     ·(simp (disch := (first | omega | assumption)) only [↓appC, ↓updN, ↓updS, ↓app0]); rfl
     ·exact hkw.mono (fun a ha => by have q := hfw a ha; have q1 := q.1; have q2 := q.2.1; have q3 := q.2.2; (simp (disch := (first | omega | assumption)) only [↓appC, ↓updN, ↓updS, ↓app0]))
     ·intro a ha; have q := hfw a ha; exact ⟨by omega, .inl (by rw [hwk]; exact ha)⟩
     ·intro a ha h1 h2 h3; (simp (disch := (first | omega | assumption)) only [↓appC, ↓updN, ↓updS, ↓app0])
    ·refine C6 j5 (A3 (A1 (wF rfl (A2 (A0 (D9 j5 (F6 (v := .ptr _ _ _) j6 (C1 (off := 4) (s := 1) (r := false) j3 kz j3 ?_))))))))
     (apply C5 (v := .nsl) j2; exact Q0; exact Q1; exact j5)
     refine H0 rfl rfl rfl j3 ?_
     refine H5 j6 ?_ ?_ <;> intro h12_5
     ·refine C6 j5 (A3 (A1 (wT rfl (A2 (A0 (D9 j5 (I9 (L0 l.nm l.tk l.hd l.ex 6 V.nsl (lb := lb) (j := k) (R := (rwW t.lk W)) ?_ ?_ ?_) rfl rfl rfl rfl rfl rfl ?_)))))))
      ·exact J8
      ·exact J8
      ·exact J8
      (apply D4 (u := .agg [.int _ _, .int _ _, .int _ _, .int _ _]) j3; exact Q0; exact Q1; rfl; rfl; rfl; rfl; exact kb; rfl; exact j2)
      refine A3 (A1 (A9 (B4 (B2 (E0 (A5 (A7 rfl (by exact Q0) j2 kb rfl) A8) (by (repeat first | exact Ch.refl _ | refine Ch.upd ?_ | refine Ch.app ?_ | assumption)) ?_)))))
      have e : acqT t r = (t, tellL 6 l) := by
       rw [F5 hh, hp]; unfold acqL; rw [hl, if_neg (fun e => e.elim h7_6 h7_14), if_neg h9_4]; exact if_pos (by omega)
      rw [e]
      exact ⟨rfl, T.same (by omega) (fun a ha => by (simp (disch := (first | omega | assumption)) only [↓appC, ↓updN, ↓updS, ↓app0]))⟩
     ·refine C6 j5 (A3 (A1 (wF rfl (B0 (B7 (A1 (A2 (C2 [0, 0, 2, 6, 14, 0, 32, 0, 128, 480, 992, 2046, 4095, 8191, 16383] rfl (by decide +kernel) ?_))))))))
      refine G6 j5 (G6 j5 (G7 (v := .ptr _ _ _) j6 (D6 (off := 4) (s := 1) (r := false) j3 kz j3 ?_)))
      (apply E1 (v := .nsl) j2; exact Q0; exact Q1; exact j5)
      refine D6 (off := 0) (s := 1) (r := false) j3 kz j3 ?_
      (apply E1 (v := .int _ _) j2; exact Q0; exact Q1; exact j5)
      refine D6 (off := 3) (s := 1) (r := false) j3 kz j3 ?_
      (apply E1 (v := .int _ _) j2; exact Q0; exact Q1; exact j5)
      refine dbd (cs := [.int _ _, .int _ _]) j5 (dbs (es := [[.int _ _, .int _ _]]) j4 kz kb rfl rfl j3 ?_)
      (apply dan (s' := 16) (es := [[.int _ _, .int _ _]]) rfl j3 kz; exact BM; exact AC; exact Q14; exact Q14; exact Q14; exact j3)
      refine G7 (v := .ptr _ _ _) j6 (D6 (off := 4) (s := 1) (r := false) j3 kz j3 ?_)
      (apply dst (u := .view _ _ _) rfl rfl rfl; exact Q0; exact Q1; rfl; rfl; rfl; rfl; exact kb; rfl; rfl; rfl)
      refine B1 15 [3, 0, 0, 3, 3, 0, 1, 0, 1, 0, 1, 0, 0, 0, 0] [(4, 10)] j2 (by decide +kernel) ?_ ?_
      ·(simp [ClearL, ids]; try omega)
      refine A1 (A2 (A0 (D9 j5 (I9 (L0 l.nm l.tk l.hd l.ex 2 (V.view (n + 1 + 1 + t.lk.length + 1 + 1) 0 1) (lb := lb) (j := k) (R := (rwW t.lk W).set k [.str l.nm, .int .i64 l.tk, .int .i64 l.hd, .int .i64 l.ex, (V.view (n + 1 + 1 + t.lk.length + 1 + 1) 0 1)]) ?_ ?_ (List.getElem?_set_self hR)) rfl rfl rfl rfl rfl rfl ?_))))
      ·exact J8
      ·exact J8
      (apply D4 (u := .agg [.int _ _, .int _ _, .int _ _, .int _ _]) j3; exact Q0; exact Q1; rfl; rfl; rfl; rfl; exact kb; rfl; exact j2)
      refine A3 (A1 (A9 (E0 (A5 (A7 rfl (by exact Q0) j2 kb rfl) A8) (by (repeat first | exact Ch.refl _ | refine Ch.upd ?_ | refine Ch.app ?_ | assumption)) ?_)))
      have e : acqT t r = (⟨t.tm, t.nx, t.lk.set k ⟨l.nm, l.tk, l.hd, l.ex, l.ws ++ [(r.cl, r.le)]⟩, t.sn⟩, tellL 2 l) := by
       rw [F5 hh, hp]; unfold acqL; rw [hl, if_neg (fun e => e.elim h7_6 h7_14), if_neg h9_4]; exact if_neg (by omega)
      rw [e]
      refine ⟨rfl, T.lockS hk rfl ⟨l.nm, l.tk, l.hd, l.ex, l.ws ++ [(r.cl, r.le)]⟩ (V.view (n + 1 + 1 + t.lk.length + 1 + 1) 0 1) t.nx (by omega) ?_ ?_ ?_ ?_ ?_⟩
      ·exact Q0
      ·(simp (disch := (first | omega | assumption)) only [↓appC, ↓updN, ↓updS, ↓app0]); rfl
      ·refine .inr ⟨n + 1 + 1 + t.lk.length + 1 + 1, [], by simp [List.map_eq_nil_iff.1 hws], ?_⟩
       (simp (disch := (first | omega | assumption)) only [↓appC, ↓updN, ↓updS, ↓app0])
       exact congrArg (fun z => some (Blk.mk z 2 123)) (by simp [List.map_eq_nil_iff.1 hws, wtV])
      ·intro a ha; cases ha; exact ⟨by omega, .inr (by omega)⟩
      ·intro a ha h1 h2 h3; (simp (disch := (first | omega | assumption)) only [↓appC, ↓updN, ↓updS, ↓app0])
 ·rw [List.length_map] at hw
  subst hw
  have hwb := hfw wb rfl
  have hkw : IsL h (.view wb pre.length l.ws.length) (l.ws.map wtV) 2 123 := .inr ⟨wb, pre, by rw [List.length_map], kwb⟩
  refine OpenM.of_wp Try.func134 rfl kb ?_
  refine A2 (A0 (L7 (u := .agg [.int _ _, .int _ _, .int _ _, .int _ _, .str _]) j3 rfl j3 (H3 j6 (A3 (A1 (A2 (A0 (D9 j5 (C1 (off := 4) (s := 1) (r := false) j3 kz j3 ?_)))))))))
  (apply C5 (v := .str _) j2; exact Q0; exact Q1; exact j5)
  refine I9 (hf _ _ (T.ext (by omega) (fun a ha => by (simp (disch := (first | omega | assumption)) only [↓appC, ↓updN, ↓updS, ↓app0])))) rfl rfl rfl rfl rfl rfl ?_
  refine rmT j5 (T6 j6 (T6 j6 (D0 j5 (C6 j5 (A3 (A1 (A2 (A2 (A0 (C4 j5 (D5 (c := true) j5 (A3 ?_))))))))))))
  refine A1 (wF rfl (B0 (A1 (A2 (A0 (D9 j5 (F6 (v := .ptr _ _ _) j6 (C1 (off := 2) (s := 1) (r := false) j3 kz j3 ?_))))))))
  (apply C5 (v := .view _ _ _) j2; exact Q0; exact Q1; exact j5)
  refine B6 j5 ?_
  (refine r0 ((B9 (b := ⟨rwW t.lk W, 5, 29⟩) rfl rfl rfl rfl (by exact Q0) rfl (by omega) (by omega)).to (v' := .ptr (lb) k 0) (by rw [F7])) rfl rfl rfl ?_)
  refine raP j5 (A3 (A1 (A2 (B3 (A2 (C2 [0, 1, 3, 7, 0, 16, 63, 127, 255, 511, 1023, 255, 2303, 8191, 16383, 32767, 65535] rfl (by decide +kernel) ?_))))))
  refine G6 j5 (G7 (v := .ptr _ _ _) j6 (D6 (off := 2) (s := 1) (r := false) j3 kz j3 ?_))
  (apply E1 (v := .int _ _) j2; exact Q0; exact Q1; exact j5)
  refine D6 (off := 0) (s := 1) (r := false) j3 kz j3 ?_
  (apply E1 (v := .int _ _) j2; exact Q0; exact Q1; exact j5)
  refine deq j6 ?_ ?_ <;> intro h7_6
  ·refine H8 j5 (A6 j3 (A6 j3 (A6 j3 (A6 j3 (A6 j3 (A6 j3 (A6 j3 (G5 (e := true) j6 (K3 j5 (B1 17 [0, 0, 0, 0, 0, 0, 0, 0, 0, 0, 0, 1, 0, 1, 0, 0, 0] [] j2 (by decide +kernel) trivial ?_))))))))))
   refine A1 (wT rfl (A2 (A0 (D9 j5 (I9 (L0 l.nm l.tk l.hd l.ex 8 (V.view wb pre.length l.ws.length) (lb := lb) (j := k) (R := (rwW t.lk W)) ?_ ?_ ?_) rfl rfl rfl rfl rfl rfl ?_)))))
   ·exact J8
   ·exact J8
   ·exact J8
   (apply D4 (u := .agg [.int _ _, .int _ _, .int _ _, .int _ _]) j3; exact Q0; exact Q1; rfl; rfl; rfl; rfl; exact kb; rfl; exact j2)
   refine A3 (A1 (A9 (B4 (B2 (E0 (A5 (A7 rfl (by exact Q0) j2 kb rfl) A8) (by (repeat first | exact Ch.refl _ | refine Ch.upd ?_ | refine Ch.app ?_ | assumption)) ?_)))))
   have e : acqT t r = (t, tellL 8 l) := by
    rw [F5 hh, hp]; unfold acqL; rw [hl]; exact if_pos (by first | exact .inl h7_6 | exact .inr h7_14)
   rw [e]
   exact ⟨rfl, T.same (by omega) (fun a ha => by (simp (disch := (first | omega | assumption)) only [↓appC, ↓updN, ↓updS, ↓app0]))⟩
  ·refine H8 j5 (G6 j5 (G7 (v := .ptr _ _ _) j6 ?_))
   (apply L8 (vs := [.str _, .int _ _, .int _ _, .int _ _, _]) j2; exact Q0; exact Q1; rfl; exact kb; exact j4)
   refine D6 (off := 0) (s := 1) (r := false) j3 kz j3 ?_
   (apply E1 (v := .int _ _) j2; exact Q0; exact Q1; exact j5)
   apply O8 [wb] (p66 l false r.cl (by omega)) rfl j2
   ·exact SnapL.cons _ _ _ _ (SnapC.agg (.cons _ _ _ _ (.str _) (.cons _ _ _ _ (.int _ _) (.cons _ _ _ _ (.int _ _) (.cons _ _ _ _ (.int _ _) (.cons _ _ _ _ (D3 (hkw.mono (fun a ha => by have q := hfw a ha; (simp (disch := (first | omega | assumption)) only [↓appC, ↓updN, ↓updS, ↓app0]))) (fun a ha => by cases ha; exact List.mem_singleton.2 rfl)) .nil)))))) (SnapL.cons _ _ _ _ (.one _ _ (.int _ _)) SnapL.nil)
   ·rfl
   ·rfl
   ·rfl
   refine dge j6 ?_ ?_ <;> intro h7_14
   ·refine G5 (e := true) j6 (K3 j5 (B1 17 [0, 0, 0, 1, 1, 0, 1, 0, 0, 0, 0, 1, 0, 1, 0, 0, 0] [] j2 (by decide +kernel) trivial ?_))
    refine A1 (wT rfl (A2 (A0 (D9 j5 (I9 (L0 l.nm l.tk l.hd l.ex 8 (V.view wb pre.length l.ws.length) (lb := lb) (j := k) (R := (rwW t.lk W)) ?_ ?_ ?_) rfl rfl rfl rfl rfl rfl ?_)))))
    ·exact J8
    ·exact J8
    ·exact J8
    (apply D4 (u := .agg [.int _ _, .int _ _, .int _ _, .int _ _]) j3; exact Q0; exact Q1; rfl; rfl; rfl; rfl; exact kb; rfl; exact j2)
    refine A3 (A1 (A9 (B4 (B2 (E0 (A5 (A7 rfl (by exact Q0) j2 kb rfl) A8) (by (repeat first | exact Ch.refl _ | refine Ch.upd ?_ | refine Ch.app ?_ | assumption)) ?_)))))
    have e : acqT t r = (t, tellL 8 l) := by
     rw [F5 hh, hp]; unfold acqL; rw [hl]; exact if_pos (by first | exact .inl h7_6 | exact .inr h7_14)
    rw [e]
    exact ⟨rfl, T.same (by omega) (fun a ha => by (simp (disch := (first | omega | assumption)) only [↓appC, ↓updN, ↓updS, ↓app0]))⟩
   ·refine G5 (e := false) j6 (K3 j5 (B1 17 [0, 0, 0, 1, 1, 0, 1, 0, 0, 0, 0, 1, 0, 1, 0, 0, 0] [] j2 (by decide +kernel) trivial ?_))
    refine A1 (wF rfl (A2 (A0 (D9 j5 (F6 (v := .ptr _ _ _) j6 (C1 (off := 2) (s := 1) (r := false) j3 kz j3 ?_))))))
    (apply C5 (v := .int _ _) j2; exact Q0; exact Q1; exact j5)
    refine H5 j6 ?_ ?_ <;> intro h9_4
    ·refine C6 j5 (A3 (A1 (wT rfl (A2 (A0 (D9 j5 (D9 j5 (C1 (off := 0) (s := 1) (r := false) j3 kz j3 ?_))))))))
     (apply C5 (v := .int _ _) j2; exact Q0; exact Q1; exact j5)
     refine C1 (off := 3) (s := 1) (r := false) j3 kz j3 ?_
     (apply C5 (v := .int _ _) j2; exact Q0; exact Q1; exact j5)
     refine I9 (o125 l.nm l.tk l.hd l.ex t.tm t.nx r.cl r.le (V.view wb pre.length l.ws.length) (.view lb 0 t.lk.length) Ss hwc htm (by omega) hle (id := id) (lb := lb) (j := k) (R := rwW t.lk W) ?_ ?_ ?_ ?_ ?_ ?_ ?_) rfl rfl rfl rfl rfl rfl ?_
     ·exact J8
     ·exact J8
     ·exact J8
     ·exact J8
     ·exact J8
     ·exact J8
     ·exact J8
     refine A3 (A1 (A2 (A0 (D9 j5 (I9 (L0 l.nm t.nx r.cl (t.tm + r.le) 1 (V.view wb pre.length l.ws.length) (lb := lb) (j := k) (R := ((rwW t.lk W).set k [.str l.nm, .int .i64 t.nx, .int .i64 r.cl, .int .i64 (t.tm + r.le), (V.view wb pre.length l.ws.length)])) ?_ ?_ ?_) rfl rfl rfl rfl rfl rfl ?_)))))
     ·exact J8
     ·exact J8
     ·exact J8
     (apply D4 (u := .agg [.int _ _, .int _ _, .int _ _, .int _ _]) j3; exact Q0; exact Q1; rfl; rfl; rfl; rfl; exact kb; rfl; exact j2)
     refine A3 (A1 (A9 (B4 (B2 (E0 (A5 (A7 rfl (by exact Q0) j2 kb rfl) A8) (by (repeat first | exact Ch.refl _ | refine Ch.upd ?_ | refine Ch.app ?_ | assumption)) ?_)))))
     have e : acqT t r = (⟨t.tm, t.nx + 1, t.lk.set k ⟨l.nm, t.nx, r.cl, t.tm + r.le, l.ws⟩, t.sn⟩, ⟨1, t.nx, r.cl, t.tm + r.le⟩) := by
      rw [F5 hh, hp]; unfold acqL; rw [hl, if_neg (fun e => e.elim h7_6 h7_14), if_pos h9_4]
     rw [e]
     refine ⟨rfl, T.lockS hk rfl ⟨l.nm, t.nx, r.cl, t.tm + r.le, l.ws⟩ (V.view wb pre.length l.ws.length) (t.nx + 1) (by omega) ?_ ?_ ?_ ?_ ?_⟩
     ·exact Q0
     ·(simp (disch := (first | omega | assumption)) only [↓appC, ↓updN, ↓updS, ↓app0]); rfl
     ·exact hkw.mono (fun a ha => by have q := hfw a ha; have q1 := q.1; have q2 := q.2.1; have q3 := q.2.2; (simp (disch := (first | omega | assumption)) only [↓appC, ↓updN, ↓updS, ↓app0]))
     ·intro a ha; have q := hfw a ha; exact ⟨by omega, .inl (by rw [hwk]; exact ha)⟩
     ·intro a ha h1 h2 h3; (simp (disch := (first | omega | assumption)) only [↓appC, ↓updN, ↓updS, ↓app0])
    ·refine C6 j5 (A3 (A1 (wF rfl (A2 (A0 (D9 j5 (F6 (v := .ptr _ _ _) j6 (C1 (off := 4) (s := 1) (r := false) j3 kz j3 ?_))))))))
     (apply C5 (v := .view _ _ _) j2; exact Q0; exact Q1; exact j5)
     refine H0 rfl rfl rfl j3 ?_
     refine H5 j6 ?_ ?_ <;> intro h12_5
     ·refine C6 j5 (A3 (A1 (wT rfl (A2 (A0 (D9 j5 (I9 (L0 l.nm l.tk l.hd l.ex 6 (V.view wb pre.length l.ws.length) (lb := lb) (j := k) (R := (rwW t.lk W)) ?_ ?_ ?_) rfl rfl rfl rfl rfl rfl ?_)))))))
      ·exact J8
      ·exact J8
      ·exact J8
      (apply D4 (u := .agg [.int _ _, .int _ _, .int _ _, .int _ _]) j3; exact Q0; exact Q1; rfl; rfl; rfl; rfl; exact kb; rfl; exact j2)
      refine A3 (A1 (A9 (B4 (B2 (E0 (A5 (A7 rfl (by exact Q0) j2 kb rfl) A8) (by (repeat first | exact Ch.refl _ | refine Ch.upd ?_ | refine Ch.app ?_ | assumption)) ?_)))))
      have e : acqT t r = (t, tellL 6 l) := by
       rw [F5 hh, hp]; unfold acqL; rw [hl, if_neg (fun e => e.elim h7_6 h7_14), if_neg h9_4]; exact if_pos (by omega)
      rw [e]
      exact ⟨rfl, T.same (by omega) (fun a ha => by (simp (disch := (first | omega | assumption)) only [↓appC, ↓updN, ↓updS, ↓app0]))⟩
     ·refine C6 j5 (A3 (A1 (wF rfl (B0 (B7 (A1 (A2 (C2 [0, 0, 2, 6, 14, 0, 32, 0, 128, 480, 992, 2046, 4095, 8191, 16383] rfl (by decide +kernel) ?_))))))))
      refine G6 j5 (G6 j5 (G7 (v := .ptr _ _ _) j6 (D6 (off := 4) (s := 1) (r := false) j3 kz j3 ?_)))
      (apply E1 (v := .view _ _ _) j2; exact Q0; exact Q1; exact j5)
      refine D6 (off := 0) (s := 1) (r := false) j3 kz j3 ?_
      (apply E1 (v := .int _ _) j2; exact Q0; exact Q1; exact j5)
      refine D6 (off := 3) (s := 1) (r := false) j3 kz j3 ?_
      (apply E1 (v := .int _ _) j2; exact Q0; exact Q1; exact j5)
      refine dbd (cs := [.int _ _, .int _ _]) j5 (dbs (es := [[.int _ _, .int _ _]]) j4 kz kb rfl rfl j3 ?_)
      (apply dap (s' := 16) (es := [[.int _ _, .int _ _]]) rfl rfl; exact Q0; exact j2; (first | rfl | omega | (show _ = (pre ++ l.ws.map wtV).length; rw [List.length_append, List.length_map]) | (show _ = (pre ++ l.ws.map wtV).length; rw [List.length_append])); exact j2; exact kz; exact BM; exact AC; exact Q14; exact Q14; exact j3)
      refine G7 (v := .ptr _ _ _) j6 (D6 (off := 4) (s := 1) (r := false) j3 kz j3 ?_)
      (apply dst (u := .view _ _ _) rfl rfl rfl; exact Q0; exact Q1; rfl; rfl; rfl; rfl; exact kb; rfl; rfl; rfl)
      refine B1 15 [3, 0, 0, 3, 3, 0, 1, 0, 1, 0, 1, 0, 0, 0, 0] [(4, 10)] j2 (by decide +kernel) ?_ ?_
      ·(simp [ClearL, ids]; try omega)
      refine A1 (A2 (A0 (D9 j5 (I9 (L0 l.nm l.tk l.hd l.ex 2 (V.view (n + 1 + 1 + t.lk.length + 1 + 1) 0 (l.ws.length + 1)) (lb := lb) (j := k) (R := (rwW t.lk W).set k [.str l.nm, .int .i64 l.tk, .int .i64 l.hd, .int .i64 l.ex, (V.view (n + 1 + 1 + t.lk.length + 1 + 1) 0 (l.ws.length + 1))]) ?_ ?_ (List.getElem?_set_self hR)) rfl rfl rfl rfl rfl rfl ?_))))
      ·exact J8
      ·exact J8
      (apply D4 (u := .agg [.int _ _, .int _ _, .int _ _, .int _ _]) j3; exact Q0; exact Q1; rfl; rfl; rfl; rfl; exact kb; rfl; exact j2)
      refine A3 (A1 (A9 (E0 (A5 (A7 rfl (by exact Q0) j2 kb rfl) A8) (by (repeat first | exact Ch.refl _ | refine Ch.upd ?_ | refine Ch.app ?_ | assumption)) ?_)))
      have e : acqT t r = (⟨t.tm, t.nx, t.lk.set k ⟨l.nm, l.tk, l.hd, l.ex, l.ws ++ [(r.cl, r.le)]⟩, t.sn⟩, tellL 2 l) := by
       rw [F5 hh, hp]; unfold acqL; rw [hl, if_neg (fun e => e.elim h7_6 h7_14), if_neg h9_4]; exact if_neg (by omega)
      rw [e]
      refine ⟨rfl, T.lockS hk rfl ⟨l.nm, l.tk, l.hd, l.ex, l.ws ++ [(r.cl, r.le)]⟩ (V.view (n + 1 + 1 + t.lk.length + 1 + 1) 0 (l.ws.length + 1)) t.nx (by omega) ?_ ?_ ?_ ?_ ?_⟩
      ·exact Q0
      ·(simp (disch := (first | omega | assumption)) only [↓appC, ↓updN, ↓updS, ↓app0]); rfl
      ·refine .inr ⟨n + 1 + 1 + t.lk.length + 1 + 1, [], by simp, ?_⟩
       (simp (disch := (first | omega | assumption)) only [↓appC, ↓updN, ↓updS, ↓app0])
       exact congrArg (fun z => some (Blk.mk z 2 123)) (by simp [wtV])
      ·intro a ha; cases ha; exact ⟨by omega, .inr (by omega)⟩
      ·intro a ha h1 h2 h3; have h4 : a ≠ wb := fun e => h3 (by rw [hwk, e]; rfl); (simp (disch := (first | omega | assumption)) only [↓appC, ↓updN, ↓updS, ↓app0])
open Go.V
set_option linter.unusedVariables false
set_option linter.unusedSimpArgs false
set_option maxRecDepth 20000
set_option maxHeartbeats 4000000
theorem W6 (s : ByteArray) : ∀ L : List Lk, pos s L ≤ L.length
 | [] => Nat.le_refl _
 | l :: r => by
  have := W6 s r
  unfold pos
  split <;> simp <;> omega
theorem BP (L : List Lk) (W : Nat → V) : ∀ e ∈ rwW L W, e.length = 5 := fun e he => by
 obtain ⟨i, _, rfl⟩ := List.mem_map.1 he; rfl
theorem TabM.insS {t : Tb} {id : Nat} {Sl Ss : V} {W : Nat → V} {h g : Heap} {n m : Nat} (T : TabM t id Sl Ss W h n) {k : Nat} (hk : k ≤ t.lk.length) (l : Lk) (w : V) (nx : Int) (lb : Nat) (hnm : n ≤ m) (hlb : n ≤ lb ∧ lb < m)
  (g1 : g id = some ⟨[[.int .i64 t.tm, .int .i64 nx, .view lb 0 (t.lk.length + 1), Ss]], 4, 35⟩) (g2 : g lb = some ⟨(rwW t.lk W).take k ++ l.V w :: (rwW t.lk W).drop k, 5, 29⟩) (g3 : IsL g w (l.ws.map wtV) 2 123)
  (g4 : ∀ a, fpV w = some a → a < m ∧ n ≤ a ∧ a ≠ lb) (g5 : ∀ a, a < n → a ≠ id → fpV Sl ≠ some a → g a = h a) : TabS ⟨t.tm, nx, insL t.lk k l, t.sn⟩ id (OwnT id Sl Ss W t.lk.length) n h g m := by
 have hlen : (insL t.lk k l).length = t.lk.length + 1 := I5 hk
 refine ⟨_, Ss, _, T.insLk hk l w nx lb hnm hlb g1 g2 g3 g4 (fun a o h1 h2 => g5 a (T.lt o) h1 h2), fun a o => ?_, fun a ha hna => g5 a ha (fun e => hna (.inl e)) (fun e => hna (.inr (.inl e))), hnm⟩
 rcases o with h | h | h | ⟨i, hi, h⟩
 ·exact .inl (.inl h)
 ·cases h; exact .inr hlb.1
 ·exact .inl (.inr (.inr (.inl h)))
 ·have hi' : i < t.lk.length + 1 := by rw [← hlen]; exact hi
  unfold insW at h
  by_cases h1 : i < k
  ·rw [if_pos h1] at h; exact .inl (.inr (.inr (.inr ⟨i, by omega, h⟩)))
  ·rw [if_neg h1] at h
   by_cases h2 : i = k
   ·rw [if_pos h2] at h; exact .inr (g4 a h).2.1
   ·rw [if_neg h2] at h; exact .inl (.inr (.inr (.inr ⟨i - 1, by omega, h⟩)))
theorem o134x (t : Tb) (r : Rq) (bd : Bd t r) (hh : ¬ hit r.nm t.lk) {k : Nat} (hp : pos r.nm t.lk = k) {id lb : Nat} {Ss : V} {W : Nat → V} {h : Heap} {n : Nat} (T : TabM t id (.view lb 0 t.lk.length) Ss W h n) : OpenM En 134 [.ptr id 0 0, .agg [.int .i64 r.cl, .int .i64 r.st, .int .i64 r.kd, .int .i64 r.le, .str r.nm]] h n (fun v g m => v = .agg (acqT t r).2.V ∧ TabS (acqT t r).1 id (OwnT id (.view lb 0 t.lk.length) Ss W t.lk.length) n h g m) := by
 have hid := T.idn
 have kid := T.kid
 have hl4 := bd.l4; have htm := bd.tm; have hnx := bd.nx; have hcl := bd.cl; have hle := bd.le
 have hf := fun (h : Heap) (n : Nat) (T : TabM t id (.view lb 0 t.lk.length) Ss W h n) => o48x t W r.nm bd.srt (by omega) hh T
 rw [hp] at hf
 have hk : k ≤ t.lk.length := by rw [← hp]; exact W6 _ _
 have hI := fun vb h n => @o146z (rwW t.lk W) r.nm 0 (-1) 0 .nsl rfl k (by rw [B5]; exact hk) (BP _ _) (by rw [B5]; omega) (.view lb 0 t.lk.length) vb h n
 rw [B5] at hI
 simp only [idV, fpV, Option.getD_some, Option.getD_none] at hI
 have hsl := T.fl
 have hkl := T.kl
 have hA : ((rwW t.lk W).take k).length = k := by rw [List.length_take, B5]; omega
 have hRI : k < ((rwW t.lk W).take k ++ [.str r.nm, .int .i64 0, .int .i64 (-1), .int .i64 0, .nsl] :: (rwW t.lk W).drop k).length := by rw [List.length_append, hA, List.length_cons]; omega
 have hrow : ((rwW t.lk W).take k ++ [.str r.nm, .int .i64 0, .int .i64 (-1), .int .i64 0, .nsl] :: (rwW t.lk W).drop k)[k]? = some [.str r.nm, .int .i64 0, .int .i64 (-1), .int .i64 0, .nsl] := AM hA
 have hlb := T.fl lb rfl
 have hne := hlb.2
 refine OpenM.of_wp Try.func134 rfl kb ?_
 refine A2 (A0 (L7 (u := .agg [.int _ _, .int _ _, .int _ _, .int _ _, .str _]) j3 rfl j3 (H3 j6 (A3 (A1 (A2 (A0 (D9 j5 (C1 (off := 4) (s := 1) (r := false) j3 kz j3 ?_)))))))))
 (apply C5 (v := .str _) j2; exact Q0; exact Q5; exact j5)
 refine I9 (hf _ _ (T.ext (by omega) (fun a ha => by (simp (disch := (first | omega | assumption)) only [↓appC, ↓updN, ↓updS, ↓app0])))) rfl rfl rfl rfl rfl rfl ?_
 refine rmT j5 (T6 j6 (T6 j6 (D0 j5 (C6 j5 (A3 (A1 (A2 (A2 (A0 (C4 j5 (D5 (c := false) j5 (A3 ?_))))))))))))
 refine A1 (wT rfl (A2 (A2 (A0 (D9 j5 (F6 (v := .ptr _ _ _) j6 (C1 (off := 2) (s := 1) (r := false) j3 kz j3 ?_)))))))
 (apply C5 (v := .view _ _ _) j2; exact Q0; exact Q5; exact j5)
 refine H0 rfl rfl rfl j3 ?_
 refine H5 j6 ?_ ?_ <;> intro h3_5
 ·refine A3 (A1 (wT rfl (A2 (A0 (AB (p110 6) rfl j5 ?_)))))
  (apply D4 (u := .agg [.int _ _, .int _ _, .int _ _, .int _ _]) j3; exact Q0; exact Q5; rfl; rfl; rfl; rfl; exact kb; rfl; exact j2)
  refine A3 (A1 (A9 (B2 (B2 (E0 (A5 (A7 rfl (by exact Q0) j2 kb rfl) A8) (by (repeat first | exact Ch.refl _ | refine Ch.upd ?_ | refine Ch.app ?_ | assumption)) ?_)))))
  rw [acqT_no hh (by omega)]
  exact ⟨rfl, T.same (by omega) (fun a ha => by (simp (disch := (first | omega | assumption)) only [↓appC, ↓updN, ↓updS, ↓app0]))⟩
 ·refine A3 (A1 (wF rfl (B0 (A1 (C2 [0, 0, 2, 6, 14, 0, 0, 64, 192, 448, 1022, 2047, 4095, 8191] rfl (by decide +kernel) ?_)))))
  refine G6 j5 (G6 j5 (G7 (v := .ptr _ _ _) j6 (D6 (off := 2) (s := 1) (r := false) j3 kz j3 ?_)))
  (apply E1 (v := .view _ _ _) j2; exact Q0; exact Q5; exact j5)
  refine I0 j5 (D6 (off := 4) (s := 1) (r := false) j3 kz j3 ?_)
  (apply E1 (v := .str _) j2; exact Q0; exact Q5; exact j5)
  refine dbd (cs := [.str _, .int _ _, .int _ _, .int _ _, _]) j5 (dbs (es := [[.str _, .int _ _, .int _ _, .int _ _, _]]) j4 kz kb rfl rfl j3 ?_)
  refine dop (hI (n + 1 + 1 + t.lk.length + 1) _ _ (hkl.mono (fun a ha => by have q := hsl a ha; have q1 := q.1; have q2 := q.2; (simp (disch := (first | omega | assumption)) only [↓appC, ↓updN, ↓updS, ↓app0]))) (fun a ha => by have q := hsl a (by first | exact ha | exact congrArg some (Option.some.inj ha) | cases ha); omega) (by omega) (by exact Q0)) rfl rfl rfl rfl rfl rfl ?_
  refine G7 (v := .ptr _ _ _) j6 (D6 (off := 2) (s := 1) (r := false) j3 kz j3 ?_)
  (apply dst (u := .view _ _ _) rfl rfl rfl; exact Q0; exact Q5; rfl; rfl; rfl; rfl; exact kb; rfl; rfl; rfl)
  refine B1 14 [3, 0, 0, 3, 3, 0, 1, 0, 0, 1, 0, 0, 0, 0] [(4, 9)] j2 (by decide +kernel) ?_ ?_
  ·(simp [ClearL, ids, idV, fpV]; try omega)
  refine A1 (A2 (A0 (D9 j5 (F6 (v := .ptr _ _ _) j6 (C1 (off := 2) (s := 1) (r := false) j3 kz j3 ?_)))))
  (apply C5 (v := .view _ _ _) j2; exact Q0; exact Q5; exact j5)
  refine B6 j5 ?_
  (refine r0 ((B9 (b := ⟨((rwW t.lk W).take k ++ [.str r.nm, .int .i64 0, .int .i64 (-1), .int .i64 0, .nsl] :: (rwW t.lk W).drop k), 5, 29⟩) rfl rfl rfl rfl (by exact Q0) rfl (by omega) (by omega)).to (v' := .ptr (n + 1 + 1 + t.lk.length + 1 + 1) k 0) (by rw [F7])) rfl rfl rfl ?_)
  refine raP j5 (A3 (A1 (A2 (B3 (A2 (C2 [0, 1, 3, 7, 0, 16, 63, 127, 255, 511, 1023, 255, 2303, 8191, 16383, 32767, 65535] rfl (by decide +kernel) ?_))))))
  refine G6 j5 (G7 (v := .ptr _ _ _) j6 (D6 (off := 2) (s := 1) (r := false) j3 kz j3 ?_))
  (apply E1 (v := .int _ _) j2; exact Q0; exact Q5; exact j5)
  refine D6 (off := 0) (s := 1) (r := false) j3 kz j3 ?_
  (apply E1 (v := .int _ _) j2; exact Q0; exact Q5; exact j5)
  refine deq j6 (fun h => absurd h (by omega)) ?_
  intro h7_6
  refine H8 j5 (G6 j5 (G7 (v := .ptr _ _ _) j6 ?_))
  (apply L8 (vs := [.str _, .int _ _, .int _ _, .int _ _, _]) j2; exact Q0; exact Q5; rfl; exact kb; exact j4)
  refine D6 (off := 0) (s := 1) (r := false) j3 kz j3 ?_
  (apply E1 (v := .int _ _) j2; exact Q0; exact Q5; exact j5)
  apply O8 [n + 1 + 1 + t.lk.length + 1 + 1] (p66 ⟨r.nm, 0, -1, 0, []⟩ false r.cl (Nat.zero_le _)) rfl j2
  ·exact SnapL.cons _ _ _ _ (SnapC.agg (.cons _ _ _ _ (.str _) (.cons _ _ _ _ (.int _ _) (.cons _ _ _ _ (.int _ _) (.cons _ _ _ _ (.int _ _) (.cons _ _ _ _ .nslW .nil)))))) (SnapL.cons _ _ _ _ (.one _ _ (.int _ _)) SnapL.nil)
  ·rfl
  ·rfl
  ·rfl
  refine dge j6 (fun h => absurd h ((by show ¬ ((-1 : Int) ≥ 0); decide))) ?_
  intro h7_14
  refine G5 (e := false) j6 (K3 j5 (B1 17 [0, 0, 0, 1, 1, 0, 1, 0, 0, 0, 0, 1, 0, 1, 0, 0, 0] [] j2 (by decide +kernel) trivial ?_))
  refine A1 (wF rfl (A2 (A0 (D9 j5 (F6 (v := .ptr _ _ _) j6 (C1 (off := 2) (s := 1) (r := false) j3 kz j3 ?_))))))
  (apply C5 (v := .int _ _) j2; exact Q0; exact Q5; exact j5)
  refine H5 j6 ?_ (fun h => absurd (rfl) h)
  intro h9_4
  refine C6 j5 (A3 (A1 (wT rfl (A2 (A0 (D9 j5 (D9 j5 (C1 (off := 0) (s := 1) (r := false) j3 kz j3 ?_))))))))
  (apply C5 (v := .int _ _) j2; exact Q0; exact Q5; exact j5)
  refine C1 (off := 3) (s := 1) (r := false) j3 kz j3 ?_
  (apply C5 (v := .int _ _) j2; exact Q0; exact Q5; exact j5)
  refine I9 (o125 r.nm 0 (-1) 0 t.tm t.nx r.cl r.le .nsl (.view (n + 1 + 1 + t.lk.length + 1 + 1) 0 (t.lk.length + 1)) Ss rfl htm (by omega) hle (id := id) (lb := n + 1 + 1 + t.lk.length + 1 + 1) (j := k) (R := ((rwW t.lk W).take k ++ [.str r.nm, .int .i64 0, .int .i64 (-1), .int .i64 0, .nsl] :: (rwW t.lk W).drop k)) (by omega) (by omega) (by omega) (by exact Q0) hRI (by exact Q0) hrow) rfl rfl rfl rfl rfl rfl ?_
  refine A3 (A1 (A2 (A0 (D9 j5 (I9 (L0 r.nm t.nx r.cl (t.tm + r.le) 1 .nsl (lb := n + 1 + 1 + t.lk.length + 1 + 1) (j := k) (R := ((rwW t.lk W).take k ++ [.str r.nm, .int .i64 0, .int .i64 (-1), .int .i64 0, .nsl] :: (rwW t.lk W).drop k).set k [.str r.nm, .int .i64 t.nx, .int .i64 r.cl, .int .i64 (t.tm + r.le), .nsl]) (by omega) (by exact Q0) (List.getElem?_set_self hRI)) rfl rfl rfl rfl rfl rfl ?_)))))
  (apply D4 (u := .agg [.int _ _, .int _ _, .int _ _, .int _ _]) j3; exact Q0; exact Q5; rfl; rfl; rfl; rfl; exact kb; rfl; exact j2)
  refine A3 (A1 (A9 (B4 (B2 (E0 (A5 (A7 rfl (by exact Q0) j2 kb rfl) A8) (by (repeat first | exact Ch.refl _ | refine Ch.upd ?_ | refine Ch.app ?_ | assumption)) ?_)))))
  rw [T9 hh (by omega), hp]
  refine ⟨rfl, T.insS hk ⟨r.nm, t.nx, r.cl, t.tm + r.le, []⟩ .nsl (t.nx + 1) (n + 1 + 1 + t.lk.length + 1 + 1) (by omega) ⟨by omega, by omega⟩ ?_ ?_ (.inl ⟨rfl, rfl⟩) (fun a ha => by cases ha) ?_⟩
  ·exact Q0
  ·(simp (disch := (first | omega | assumption)) only [↓appC, ↓updN, ↓updS, ↓app0])
   exact congrArg (fun z => some (Blk.mk z 5 29)) (Y2 hA)
  ·intro a ha h1 h2
   have h3 : a ≠ lb := fun e => h2 (by rw [e]; rfl)
   (simp (disch := (first | omega | assumption)) only [↓appC, ↓updN, ↓updS, ↓app0])
theorem o134z (t : Tb) (r : Rq) (bd : Bd t r) (hh : ¬ hit r.nm t.lk) {k : Nat} (hp : pos r.nm t.lk = k) {id : Nat} {Ss : V} {W : Nat → V} {h : Heap} {n : Nat} (hz : t.lk.length = 0) (T : TabM t id .nsl Ss W h n) : OpenM En 134 [.ptr id 0 0, .agg [.int .i64 r.cl, .int .i64 r.st, .int .i64 r.kd, .int .i64 r.le, .str r.nm]] h n (fun v g m => v = .agg (acqT t r).2.V ∧ TabS (acqT t r).1 id (OwnT id .nsl Ss W t.lk.length) n h g m) := by
 have hid := T.idn
 have kid := T.kid
 have hl4 := bd.l4; have htm := bd.tm; have hnx := bd.nx; have hcl := bd.cl; have hle := bd.le
 have hf := fun (h : Heap) (n : Nat) (T : TabM t id .nsl Ss W h n) => o48x t W r.nm bd.srt (by omega) hh T
 rw [hp] at hf
 have hk : k ≤ t.lk.length := by rw [← hp]; exact W6 _ _
 have hI := fun vb h n => @o146z (rwW t.lk W) r.nm 0 (-1) 0 .nsl rfl k (by rw [B5]; exact hk) (BP _ _) (by rw [B5]; omega) .nsl vb h n
 rw [B5] at hI
 simp only [idV, fpV, Option.getD_some, Option.getD_none] at hI
 have hsl := T.fl
 have hkl := T.kl
 have hA : ((rwW t.lk W).take k).length = k := by rw [List.length_take, B5]; omega
 have hRI : k < ((rwW t.lk W).take k ++ [.str r.nm, .int .i64 0, .int .i64 (-1), .int .i64 0, .nsl] :: (rwW t.lk W).drop k).length := by rw [List.length_append, hA, List.length_cons]; omega
 have hrow : ((rwW t.lk W).take k ++ [.str r.nm, .int .i64 0, .int .i64 (-1), .int .i64 0, .nsl] :: (rwW t.lk W).drop k)[k]? = some [.str r.nm, .int .i64 0, .int .i64 (-1), .int .i64 0, .nsl] := AM hA
 refine OpenM.of_wp Try.func134 rfl kb ?_
 refine A2 (A0 (L7 (u := .agg [.int _ _, .int _ _, .int _ _, .int _ _, .str _]) j3 rfl j3 (H3 j6 (A3 (A1 (A2 (A0 (D9 j5 (C1 (off := 4) (s := 1) (r := false) j3 kz j3 ?_)))))))))
 (apply C5 (v := .str _) j2; exact Q0; exact Q5; exact j5)
 refine I9 (hf _ _ (T.ext (by omega) (fun a ha => by (simp (disch := (first | omega | assumption)) only [↓appC, ↓updN, ↓updS, ↓app0])))) rfl rfl rfl rfl rfl rfl ?_
 refine rmT j5 (T6 j6 (T6 j6 (D0 j5 (C6 j5 (A3 (A1 (A2 (A2 (A0 (C4 j5 (D5 (c := false) j5 (A3 ?_))))))))))))
 refine A1 (wT rfl (A2 (A2 (A0 (D9 j5 (F6 (v := .ptr _ _ _) j6 (C1 (off := 2) (s := 1) (r := false) j3 kz j3 ?_)))))))
 (apply C5 (v := .nsl) j2; exact Q0; exact Q5; exact j5)
 refine H0 rfl rfl rfl j3 ?_
 refine H5 j6 (fun h => absurd h ((by show ¬ ((0 : Int) = 4); decide))) ?_
 intro h3_5
 refine A3 (A1 (wF rfl (B0 (A1 (C2 [0, 0, 2, 6, 14, 0, 0, 64, 192, 448, 1022, 2047, 4095, 8191] rfl (by decide +kernel) ?_)))))
 refine G6 j5 (G6 j5 (G7 (v := .ptr _ _ _) j6 (D6 (off := 2) (s := 1) (r := false) j3 kz j3 ?_)))
 (apply E1 (v := .nsl) j2; exact Q0; exact Q5; exact j5)
 refine I0 j5 (D6 (off := 4) (s := 1) (r := false) j3 kz j3 ?_)
 (apply E1 (v := .str _) j2; exact Q0; exact Q5; exact j5)
 refine dbd (cs := [.str _, .int _ _, .int _ _, .int _ _, _]) j5 (dbs (es := [[.str _, .int _ _, .int _ _, .int _ _, _]]) j4 kz kb rfl rfl j3 ?_)
 refine dop (hI (n + 1 + 1 + t.lk.length + 1) _ _ (hkl.mono (fun a ha => by have q := hsl a ha; have q1 := q.1; have q2 := q.2; (simp (disch := (first | omega | assumption)) only [↓appC, ↓updN, ↓updS, ↓app0]))) (fun a ha => by have q := hsl a (by first | exact ha | exact congrArg some (Option.some.inj ha) | cases ha); omega) (by omega) (by exact Q0)) rfl rfl rfl rfl rfl rfl ?_
 refine G7 (v := .ptr _ _ _) j6 (D6 (off := 2) (s := 1) (r := false) j3 kz j3 ?_)
 (apply dst (u := .view _ _ _) rfl rfl rfl; exact Q0; exact Q5; rfl; rfl; rfl; rfl; exact kb; rfl; rfl; rfl)
 refine B1 14 [3, 0, 0, 3, 3, 0, 1, 0, 0, 1, 0, 0, 0, 0] [(4, 9)] j2 (by decide +kernel) ?_ ?_
 ·(simp [ClearL, ids, idV, fpV]; try omega)
 refine A1 (A2 (A0 (D9 j5 (F6 (v := .ptr _ _ _) j6 (C1 (off := 2) (s := 1) (r := false) j3 kz j3 ?_)))))
 (apply C5 (v := .view _ _ _) j2; exact Q0; exact Q5; exact j5)
 refine B6 j5 ?_
 (refine r0 ((B9 (b := ⟨((rwW t.lk W).take k ++ [.str r.nm, .int .i64 0, .int .i64 (-1), .int .i64 0, .nsl] :: (rwW t.lk W).drop k), 5, 29⟩) rfl rfl rfl rfl (by exact Q0) rfl (by omega) (by omega)).to (v' := .ptr (n + 1 + 1 + t.lk.length + 1 + 1) k 0) (by rw [F7])) rfl rfl rfl ?_)
 refine raP j5 (A3 (A1 (A2 (B3 (A2 (C2 [0, 1, 3, 7, 0, 16, 63, 127, 255, 511, 1023, 255, 2303, 8191, 16383, 32767, 65535] rfl (by decide +kernel) ?_))))))
 refine G6 j5 (G7 (v := .ptr _ _ _) j6 (D6 (off := 2) (s := 1) (r := false) j3 kz j3 ?_))
 (apply E1 (v := .int _ _) j2; exact Q0; exact Q5; exact j5)
 refine D6 (off := 0) (s := 1) (r := false) j3 kz j3 ?_
 (apply E1 (v := .int _ _) j2; exact Q0; exact Q5; exact j5)
 refine deq j6 (fun h => absurd h (by omega)) ?_
 intro h7_6
 refine H8 j5 (G6 j5 (G7 (v := .ptr _ _ _) j6 ?_))
 (apply L8 (vs := [.str _, .int _ _, .int _ _, .int _ _, _]) j2; exact Q0; exact Q5; rfl; exact kb; exact j4)
 refine D6 (off := 0) (s := 1) (r := false) j3 kz j3 ?_
 (apply E1 (v := .int _ _) j2; exact Q0; exact Q5; exact j5)
 apply O8 [n + 1 + 1 + t.lk.length + 1 + 1] (p66 ⟨r.nm, 0, -1, 0, []⟩ false r.cl (Nat.zero_le _)) rfl j2
 ·exact SnapL.cons _ _ _ _ (SnapC.agg (.cons _ _ _ _ (.str _) (.cons _ _ _ _ (.int _ _) (.cons _ _ _ _ (.int _ _) (.cons _ _ _ _ (.int _ _) (.cons _ _ _ _ .nslW .nil)))))) (SnapL.cons _ _ _ _ (.one _ _ (.int _ _)) SnapL.nil)
 ·rfl
 ·rfl
 ·rfl
 refine dge j6 (fun h => absurd h ((by show ¬ ((-1 : Int) ≥ 0); decide))) ?_
 intro h7_14
 refine G5 (e := false) j6 (K3 j5 (B1 17 [0, 0, 0, 1, 1, 0, 1, 0, 0, 0, 0, 1, 0, 1, 0, 0, 0] [] j2 (by decide +kernel) trivial ?_))
 refine A1 (wF rfl (A2 (A0 (D9 j5 (F6 (v := .ptr _ _ _) j6 (C1 (off := 2) (s := 1) (r := false) j3 kz j3 ?_))))))
 (apply C5 (v := .int _ _) j2; exact Q0; exact Q5; exact j5)
 refine H5 j6 ?_ (fun h => absurd (rfl) h)
 intro h9_4
 refine C6 j5 (A3 (A1 (wT rfl (A2 (A0 (D9 j5 (D9 j5 (C1 (off := 0) (s := 1) (r := false) j3 kz j3 ?_))))))))
 (apply C5 (v := .int _ _) j2; exact Q0; exact Q5; exact j5)
 refine C1 (off := 3) (s := 1) (r := false) j3 kz j3 ?_
 (apply C5 (v := .int _ _) j2; exact Q0; exact Q5; exact j5)
 refine I9 (o125 r.nm 0 (-1) 0 t.tm t.nx r.cl r.le .nsl (.view (n + 1 + 1 + t.lk.length + 1 + 1) 0 (t.lk.length + 1)) Ss rfl htm (by omega) hle (id := id) (lb := n + 1 + 1 + t.lk.length + 1 + 1) (j := k) (R := ((rwW t.lk W).take k ++ [.str r.nm, .int .i64 0, .int .i64 (-1), .int .i64 0, .nsl] :: (rwW t.lk W).drop k)) (by omega) (by omega) (by omega) (by exact Q0) hRI (by exact Q0) hrow) rfl rfl rfl rfl rfl rfl ?_
 refine A3 (A1 (A2 (A0 (D9 j5 (I9 (L0 r.nm t.nx r.cl (t.tm + r.le) 1 .nsl (lb := n + 1 + 1 + t.lk.length + 1 + 1) (j := k) (R := ((rwW t.lk W).take k ++ [.str r.nm, .int .i64 0, .int .i64 (-1), .int .i64 0, .nsl] :: (rwW t.lk W).drop k).set k [.str r.nm, .int .i64 t.nx, .int .i64 r.cl, .int .i64 (t.tm + r.le), .nsl]) (by omega) (by exact Q0) (List.getElem?_set_self hRI)) rfl rfl rfl rfl rfl rfl ?_)))))
 (apply D4 (u := .agg [.int _ _, .int _ _, .int _ _, .int _ _]) j3; exact Q0; exact Q5; rfl; rfl; rfl; rfl; exact kb; rfl; exact j2)
 refine A3 (A1 (A9 (B4 (B2 (E0 (A5 (A7 rfl (by exact Q0) j2 kb rfl) A8) (by (repeat first | exact Ch.refl _ | refine Ch.upd ?_ | refine Ch.app ?_ | assumption)) ?_)))))
 rw [T9 hh (by omega), hp]
 refine ⟨rfl, T.insS hk ⟨r.nm, t.nx, r.cl, t.tm + r.le, []⟩ .nsl (t.nx + 1) (n + 1 + 1 + t.lk.length + 1 + 1) (by omega) ⟨by omega, by omega⟩ ?_ ?_ (.inl ⟨rfl, rfl⟩) (fun a ha => by cases ha) ?_⟩
 ·exact Q0
 ·(simp (disch := (first | omega | assumption)) only [↓appC, ↓updN, ↓updS, ↓app0])
  exact congrArg (fun z => some (Blk.mk z 5 29)) (Y2 hA)
 ·intro a ha h1 h2
  (simp (disch := (first | omega | assumption)) only [↓appC, ↓updN, ↓updS, ↓app0])
theorem o134 (t : Tb) (r : Rq) (bd : Bd t r) {id : Nat} {Sl Ss : V} {W : Nat → V} {h : Heap} {n : Nat} (T : TabM t id Sl Ss W h n) : OpenM En 134 [.ptr id 0 0, .agg [.int .i64 r.cl, .int .i64 r.st, .int .i64 r.kd, .int .i64 r.le, .str r.nm]] h n (fun v g m => v = .agg (acqT t r).2.V ∧ TabS (acqT t r).1 id (OwnT id Sl Ss W t.lk.length) n h g m) := by
 rcases T.kl with ⟨rfl, k⟩ | ⟨lb, rfl, k⟩
 ·have hl : t.lk.length = 0 := by have := congrArg List.length k; rw [B5] at this; exact this
  exact o134z t r bd (fun e => by have := e.1; omega) rfl hl T
 ·rw [B5] at T ⊢
  by_cases hh : hit r.nm t.lk
  ·exact o134h t r bd hh rfl T
  ·exact o134x t r bd hh rfl T
open Go.V
set_option linter.unusedVariables false
set_option linter.unusedSimpArgs false
set_option maxRecDepth 20000
set_option maxHeartbeats 4000000
theorem L1 (c : Int) : ∀ ws : List Wt, wix c ws < ws.length
 | [] => by unfold wix; show (-1 : Int) < _; simp
 | w :: r => by
  have := L1 c r
  unfold wix
  simp only [List.length_cons]
  split
  ·omega
  ·split <;> omega
theorem o135w (w : V) (L : List Wt) (j : Int) (hj : 0 ≤ j ∧ j < L.length) (hL : L.length ≤ 1000) {h : Heap} {n : Nat} (hw : ∀ a, fpV w = some a → a < n) (k : IsL h w (L.map wtV) 2 123) :
  ∃ a : Nat × List (List V), fpV w = some a.1 ∧ V.Open En 135 [w, .int .i64 j, .int .i64 (j + 1)] h n (.view n a.2.length (L.length - 1)) [(a.1, none), (n, some ⟨a.2 ++ (L.take j.toNat ++ L.drop (j.toNat + 1)).map wtV, 2, 123⟩)] (n + 1) := by
 obtain ⟨i, rfl⟩ : ∃ i : Nat, j = i := ⟨j.toNat, by omega⟩
 rcases k with ⟨rfl, k⟩ | ⟨wb, pre, rfl, k⟩
 ·have : L = [] := List.map_eq_nil_iff.1 k
  subst this; simp at hj; omega
 ·refine ⟨(wb, pre), rfl, ?_⟩
  rw [List.length_map]
  exact o135m pre L i (by omega) hL (hw wb rfl) k
theorem TabM.ownLt {t : Tb} {id : Nat} {Sl Ss : V} {W : Nat → V} {h : Heap} {n : Nat} (T : TabM t id Sl Ss W h n) : ∀ a, OwnT id Sl Ss W t.lk.length a → a < n := fun a o => T.lt o
theorem TabS.out {t : Tb} {id : Nat} {F : Nat → Prop} {n n1 m m2 : Nat} {h h1 g g2 : Heap} (S : TabS t id F n1 h1 g m) (hF : ∀ a, F a → a < n) (hn : n ≤ n1) (hh : ∀ a, a < n → h1 a = h a) (hg : ∀ a, a < n ∨ n1 ≤ a → g2 a = g a) (hm : m ≤ m2) : TabS t id F n h g2 m2 := by
 obtain ⟨Sl, Ss, W, T, s1, s2, s3⟩ := S
 refine ⟨Sl, Ss, W, T.keep hm (fun a o => hg a ((s1 a o).imp (hF a) (fun x => x))), fun a o => (s1 a o).imp (fun x => x) (fun x => by omega), fun a ha hna => ?_, by omega⟩
 rw [hg a (.inl ha), s2 a (by omega) hna, hh a ha]
theorem doT_acq {t : Tb} {r : Rq} (h : r.kd = 1) : doT t r = acqT t r := if_pos h
theorem doT_no {t : Tb} {r : Rq} (h : ¬ r.kd = 1) (h2 : ¬ hit r.nm t.lk) : doT t r = (t, bareA 3) := by unfold doT; rw [if_neg h, if_neg h2]
theorem E4 {t : Tb} {r : Rq} (h : ¬ r.kd = 1) (h2 : hit r.nm t.lk) : doT t r = doL t (pos r.nm t.lk) r := by unfold doT; rw [if_neg h, if_pos h2]
theorem o111a (t : Tb) (r : Rq) (bd : Bd t r) {id : Nat} {Sl Ss : V} {W : Nat → V} {h : Heap} {n : Nat} (T : TabM t id Sl Ss W h n) (hk1 : r.kd = 1) : OpenM En 111 [.ptr id 0 0, .agg [.int .i64 r.cl, .int .i64 r.st, .int .i64 r.kd, .int .i64 r.le, .str r.nm]] h n (fun v g m => v = .agg (doT t r).2.V ∧ TabS (doT t r).1 id (OwnT id Sl Ss W t.lk.length) n h g m) := by
 have hid := T.idn
 have kid := T.kid
 have hl4 := bd.l4; have htm := bd.tm; have hnx := bd.nx; have hcl := bd.cl; have hle := bd.le
 refine OpenM.of_wp Try.func111 rfl kb ?_
 refine A2 (A0 (L7 (u := .agg [.int _ _, .int _ _, .int _ _, .int _ _, .str _]) j3 rfl j3 (H3 j6 (A3 (A1 (A2 (A2 (A0 (C1 (off := 2) (s := 1) (r := false) j3 kz j3 ?_)))))))))
 (apply C5 (v := .int _ _) j2; exact Q0; rfl; exact j5)
 refine H5 j6 ?_ (fun h => absurd (hk1) h)
 intro h1_2
 refine A3 (A1 (wT rfl (A2 (A0 (D9 j5 ?_)))))
 (apply F9 (vs := [.int _ _, .int _ _, .int _ _, .int _ _, .str _]) j2; exact Q0; rfl; rfl; exact kb; rfl; exact j3)
 refine K9 (o134 t r bd (T.ext (by omega) (fun a ha => by (simp (disch := (first | omega | assumption)) only [↓appC, ↓updN, ↓updS, ↓app0])))) rfl j5 ?_
 rintro _ g m ⟨rfl, S⟩ hc hle2
 have q2 : g (n + 1) = some ⟨[[.int .i64 0, .int .i64 0, .int .i64 0, .int .i64 0]], 4, 60⟩ := by
  obtain ⟨_, _, _, _, _, s2, _⟩ := S
  rw [s2 (n + 1) (by omega) (fun o => by have := T.lt o; omega)]
  (simp (disch := (first | omega | assumption)) only [↓appC, ↓updN, ↓updS, ↓app0]); rfl
 (apply D4 (u := .agg [.int _ _, .int _ _, .int _ _, .int _ _]) j3; exact Q0; rfl; rfl; rfl; rfl; rfl; exact kb; rfl; exact j2)
 refine A3 (A1 (A9 (B2 ?_)))
 refine E0 (A5 (A7 rfl (by exact Q0) j2 kb rfl) A8) (by first | exact Ch.refl _ | (refine Ch.app ?_; refine Ch.trans ?_ hc; (repeat first | exact Ch.refl _ | refine Ch.upd ?_ | refine Ch.app ?_ | assumption))) ?_
 rw [doT_acq hk1]
 refine ⟨rfl, S.out T.ownLt (by omega) (fun a ha => by (simp (disch := (first | omega | assumption)) only [↓appC, ↓updN, ↓updS, ↓app0])) (fun a ha => by (simp (disch := (first | omega | assumption)) only [↓appC, ↓updN, ↓updS, ↓app0])) (by omega)⟩
theorem o111n (t : Tb) (r : Rq) (bd : Bd t r) {id : Nat} {Sl Ss : V} {W : Nat → V} {h : Heap} {n : Nat} (T : TabM t id Sl Ss W h n) (hk1 : ¬ r.kd = 1) (hh : ¬ hit r.nm t.lk) : OpenM En 111 [.ptr id 0 0, .agg [.int .i64 r.cl, .int .i64 r.st, .int .i64 r.kd, .int .i64 r.le, .str r.nm]] h n (fun v g m => v = .agg (doT t r).2.V ∧ TabS (doT t r).1 id (OwnT id Sl Ss W t.lk.length) n h g m) := by
 have hid := T.idn
 have kid := T.kid
 have hl4 := bd.l4; have htm := bd.tm; have hnx := bd.nx; have hcl := bd.cl; have hle := bd.le
 have hf := fun (h : Heap) (n : Nat) (T : TabM t id Sl Ss W h n) => o48x t W r.nm bd.srt (by omega) hh T
 refine OpenM.of_wp Try.func111 rfl kb ?_
 refine A2 (A0 (L7 (u := .agg [.int _ _, .int _ _, .int _ _, .int _ _, .str _]) j3 rfl j3 (H3 j6 (A3 (A1 (A2 (A2 (A0 (C1 (off := 2) (s := 1) (r := false) j3 kz j3 ?_)))))))))
 (apply C5 (v := .int _ _) j2; exact Q0; rfl; exact j5)
 refine H5 j6 (fun h => absurd h (hk1)) ?_
 intro h1_2
 refine A3 (A1 (wF rfl (B0 (A1 (A2 (A0 (D9 j5 (C1 (off := 4) (s := 1) (r := false) j3 kz j3 ?_))))))))
 (apply C5 (v := .str _) j2; exact Q0; rfl; exact j5)
 refine I9 (hf _ _ (T.ext (by omega) (fun a ha => by (simp (disch := (first | omega | assumption)) only [↓appC, ↓updN, ↓updS, ↓app0])))) rfl rfl rfl rfl rfl rfl ?_
 refine rmT j5 (T6 j6 (T6 j6 (D0 j5 (C6 j5 (A3 (A1 (A2 (A2 (A0 (C4 j5 (D5 (c := false) j5 (A3 ?_))))))))))))
 refine A1 (wT rfl (A2 (A0 (AB (p110 3) rfl j5 ?_))))
 (apply D4 (u := .agg [.int _ _, .int _ _, .int _ _, .int _ _]) j3; exact Q0; rfl; rfl; rfl; rfl; rfl; exact kb; rfl; exact j2)
 refine A3 (A1 (A9 (B2 (E0 (A5 (A7 rfl (by exact Q0) j2 kb rfl) A8) (by (repeat first | exact Ch.refl _ | refine Ch.upd ?_ | refine Ch.app ?_ | assumption)) ?_))))
 rw [doT_no hk1 hh]
 exact ⟨rfl, T.same (by omega) (fun a ha => by (simp (disch := (first | omega | assumption)) only [↓appC, ↓updN, ↓updS, ↓app0]))⟩
theorem o111h (t : Tb) (r : Rq) (bd : Bd t r) (hk1 : ¬ r.kd = 1) (hh : hit r.nm t.lk) {k : Nat} (hp : pos r.nm t.lk = k) {id lb : Nat} {Ss : V} {W : Nat → V} {h : Heap} {n : Nat} (T : TabM t id (.view lb 0 t.lk.length) Ss W h n) : OpenM En 111 [.ptr id 0 0, .agg [.int .i64 r.cl, .int .i64 r.st, .int .i64 r.kd, .int .i64 r.le, .str r.nm]] h n (fun v g m => v = .agg (doT t r).2.V ∧ TabS (doT t r).1 id (OwnT id (.view lb 0 t.lk.length) Ss W t.lk.length) n h g m) := by
 have hid := T.idn
 have kid := T.kid
 have hl4 := bd.l4; have htm := bd.tm; have hnx := bd.nx; have hcl := bd.cl; have hle := bd.le
 have hf := fun (h : Heap) (n : Nat) (T : TabM t id (.view lb 0 t.lk.length) Ss W h n) => o48y t W r.nm bd.srt (by omega) hh T
 rw [hp] at hf
 have hk : k < t.lk.length := by rw [← hp]; exact hh.1
 have hR : k < (rwW t.lk W).length := by rw [B5]; exact hk
 have hw4 := bd.w4 k hk
 have klb : h lb = some ⟨rwW t.lk W, 5, 29⟩ := by
  rcases T.kl with ⟨e, _⟩ | ⟨b, e, q⟩
  ·cases e
  ·injection e with e1 e2 e3; rw [e1]; exact q
 have hlb := T.fl lb rfl
 have hne := hlb.2
 have hkw := T.kw k hk
 have hfw := fun a ha => (T.fw k a hk ha)
 have hfw := fun a ha => (⟨(hfw a ha).1, (hfw a ha).2.1, fun e => (hfw a ha).2.2.1 (by rw [e]; rfl)⟩ : a < n ∧ a ≠ id ∧ a ≠ lb)
 have hrow := F4 (W := W) hk
 have hwl := bd.wl k hk
 generalize hl : t.lk.getD k Lk0 = l at hkw hrow hw4 hwl
 generalize hwk : W k = w at hkw hrow hfw
 have hwc := hkw.cell
 have hwx := L1 r.cl l.ws
 unfold Lk.V at hrow
 refine OpenM.of_wp Try.func111 rfl kb ?_
 refine A2 (A0 (L7 (u := .agg [.int _ _, .int _ _, .int _ _, .int _ _, .str _]) j3 rfl j3 (H3 j6 (A3 (A1 (A2 (A2 (A0 (C1 (off := 2) (s := 1) (r := false) j3 kz j3 ?_)))))))))
 (apply C5 (v := .int _ _) j2; exact Q0; exact Q1; exact j5)
 refine H5 j6 (fun h => absurd h (hk1)) ?_
 intro h1_2
 refine A3 (A1 (wF rfl (B0 (A1 (A2 (A0 (D9 j5 (C1 (off := 4) (s := 1) (r := false) j3 kz j3 ?_))))))))
 (apply C5 (v := .str _) j2; exact Q0; exact Q1; exact j5)
 refine I9 (hf _ _ (T.ext (by omega) (fun a ha => by (simp (disch := (first | omega | assumption)) only [↓appC, ↓updN, ↓updS, ↓app0])))) rfl rfl rfl rfl rfl rfl ?_
 refine rmT j5 (T6 j6 (T6 j6 (D0 j5 (C6 j5 (A3 (A1 (A2 (A2 (A0 (C4 j5 (D5 (c := true) j5 (A3 ?_))))))))))))
 refine A1 (wF rfl (B0 (A1 (A2 (A0 (D9 j5 (F6 (v := .ptr _ _ _) j6 (C1 (off := 2) (s := 1) (r := false) j3 kz j3 ?_))))))))
 (apply C5 (v := .view _ _ _) j2; exact Q0; exact Q1; exact j5)
 refine B6 j5 ?_
 (refine r0 ((B9 (b := ⟨rwW t.lk W, 5, 29⟩) rfl rfl rfl rfl (by exact Q0) rfl (by omega) (by omega)).to (v' := .ptr (lb) k 0) (by rw [F7])) rfl rfl rfl ?_)
 refine raP j5 (A3 (A1 (A2 (A2 (C2 [0, 1, 3, 0, 8, 31, 63] rfl (by decide +kernel) ?_)))))
 refine G6 j5 (G7 (v := .ptr _ _ _) j6 ?_)
 (apply L8 (vs := [.str _, .int _ _, .int _ _, .int _ _, _]) j2; exact Q0; exact Q1; rfl; exact kb; exact j4)
 refine D6 (off := 0) (s := 1) (r := false) j3 kz j3 ?_
 (apply E1 (v := .int _ _) j2; exact Q0; exact Q1; exact j5)
 apply O8 (lb :: (fpV w).toList) (p66 l false r.cl (by omega)) rfl j2
 ·exact SnapL.cons _ _ _ _ (SnapC.agg (.cons _ _ _ _ (.str _) (.cons _ _ _ _ (.int _ _) (.cons _ _ _ _ (.int _ _) (.cons _ _ _ _ (.int _ _) (.cons _ _ _ _ (D3 (hkw.mono (fun a ha => by have q := hfw a ha; (simp (disch := (first | omega | assumption)) only [↓appC, ↓updN, ↓updS, ↓app0]))) (fun a ha => by exact List.mem_cons_of_mem _ (Option.mem_toList.2 ha))) .nil)))))) (SnapL.cons _ _ _ _ (.one _ _ (.int _ _)) SnapL.nil)
 ·rfl
 ·rfl
 ·rfl
 refine daI j5 (B1 7 [0, 1, 1, 0, 1, 0, 0] [] j2 (by decide +kernel) trivial ?_)
 refine A1 (A2 (A0 (B6 j5 ?_)))
 refine rge j6 ?_ ?_ <;> intro h8_1
 ·refine C4 j5 (C1 (off := 2) (s := 1) (r := false) j3 kz j3 ?_)
  (apply C5 (v := .int _ _) j2; exact Q0; exact Q1; exact j5)
  refine H5 j6 ?_ ?_ <;> intro h8_5
  ·refine C0 (e := true) j6 (A3 (A1 (wT rfl (A2 (A0 (D9 j5 (D9 j5 (F6 (v := .ptr _ _ _) j6 (C1 (off := 4) (s := 1) (r := false) j3 kz j3 ?_)))))))))
   (apply C5 (v := w) j2; exact Q0; exact Q1; exact j5)
   refine B6 j5 (B6 j5 (C3 j3 ?_ ?_ j3 ?_))
   ·exact Q4
   ·exact Q4
   refine K7 (o135w w l.ws (wix r.cl l.ws) ⟨h8_1, L1 _ _⟩ (by omega) (fun a ha => by have q := hfw a ha; omega) (hkw.mono (fun a ha => by have q := hfw a ha; have q1 := q.1; have q2 := q.2.1; have q3 := q.2.2; (simp (disch := (first | omega | assumption)) only [↓appC, ↓updN, ↓updS, ↓app0])))) rfl j5 ?_
   rintro p h9_8
   try dsimp only at h9_8
   have qw := hfw p.1 h9_8
   have qw1 := qw.1; have qw2 := qw.2.1; have qw3 := qw.2.2
   refine F6 (v := .ptr _ _ _) j6 (C1 (off := 4) (s := 1) (r := false) j3 kz j3 ?_)
   (apply D4 (u := .view _ _ _) j3; exact Q0; exact Q1; rfl; rfl; rfl; rfl; exact kb; rfl; exact j2)
   refine A3 (A1 (A2 (A0 (D9 j5 (I9 (L0 l.nm l.tk l.hd l.ex 1 (.view (n + 1 + 1 + t.lk.length + 1) p.2.length (l.ws.length - 1)) (lb := lb) (j := k) (R := (rwW t.lk W).set k [.str l.nm, .int .i64 l.tk, .int .i64 l.hd, .int .i64 l.ex, .view (n + 1 + 1 + t.lk.length + 1) p.2.length (l.ws.length - 1)]) (by omega) (by exact Q0) (List.getElem?_set_self hR)) rfl rfl rfl rfl rfl rfl ?_)))))
   (apply D4 (u := .agg [.int _ _, .int _ _, .int _ _, .int _ _]) j3; exact Q0; exact Q1; rfl; rfl; rfl; rfl; exact kb; rfl; exact j2)
   refine A3 (A1 (A9 (B2 (E0 (A5 (A7 rfl (by exact Q0) j2 kb rfl) A8) (by (repeat first | exact Ch.refl _ | refine Ch.upd ?_ | refine Ch.app ?_ | assumption)) ?_))))
   have e : doT t r = (⟨t.tm, t.nx, t.lk.set k ⟨l.nm, l.tk, l.hd, l.ex, l.ws.take (wix r.cl l.ws).toNat ++ l.ws.drop ((wix r.cl l.ws).toNat + 1)⟩, t.sn⟩, tellL 1 l) := by
    rw [E4 hk1 hh, hp]; unfold doL; rw [hl, if_pos ⟨h8_1, h8_5⟩]
   rw [e]
   have hwx := L1 r.cl l.ws
   refine ⟨rfl, T.lockS hk rfl ⟨l.nm, l.tk, l.hd, l.ex, l.ws.take (wix r.cl l.ws).toNat ++ l.ws.drop ((wix r.cl l.ws).toNat + 1)⟩ (.view (n + 1 + 1 + t.lk.length + 1) p.2.length (l.ws.length - 1)) t.nx (by omega) ?_ ?_ ?_ ?_ ?_⟩
   ·exact Q0
   ·(simp (disch := (first | omega | assumption)) only [↓appC, ↓updN, ↓updS, ↓app0]); rfl
   ·refine .inr ⟨n + 1 + 1 + t.lk.length + 1, p.2, ?_, ?_⟩
    ·rw [List.length_map, List.length_append, List.length_take, List.length_drop]; congr 1; omega
    ·(simp (disch := (first | omega | assumption)) only [↓appC, ↓updN, ↓updS, ↓app0])
   ·intro a ha; cases ha; exact ⟨by omega, .inr (by omega)⟩
   ·intro a ha h1 h2 h3
    have h4 : a ≠ p.1 := fun e => h3 (by rw [hwk, e]; exact h9_8)
    (simp (disch := (first | omega | assumption)) only [↓appC, ↓updN, ↓updS, ↓app0])
  ·refine C0 (e := false) j6 (A3 (A1 (wF rfl (B0 (A1 (A2 (B3 (A2 (A0 (D9 j5 (F6 (v := .ptr _ _ _) j6 (C1 (off := 2) (s := 1) (r := false) j3 kz j3 ?_))))))))))))
   (apply C5 (v := .int _ _) j2; exact Q0; exact Q1; exact j5)
   refine H5 j6 ?_ ?_ <;> intro h12_4
   ·refine C6 j5 (A3 (A1 (wT rfl (A2 (A0 (D9 j5 (I9 (L0 l.nm l.tk l.hd l.ex 4 w (lb := lb) (j := k) (R := (rwW t.lk W)) ?_ ?_ ?_) rfl rfl rfl rfl rfl rfl ?_)))))))
    ·exact J8
    ·exact J8
    ·exact J8
    (apply D4 (u := .agg [.int _ _, .int _ _, .int _ _, .int _ _]) j3; exact Q0; exact Q1; rfl; rfl; rfl; rfl; exact kb; rfl; exact j2)
    refine A3 (A1 (A9 (B4 (B2 (E0 (A5 (A7 rfl (by exact Q0) j2 kb rfl) A8) (by (repeat first | exact Ch.refl _ | refine Ch.upd ?_ | refine Ch.app ?_ | assumption)) ?_)))))
    have e : doT t r = (t, tellL 4 l) := by
     rw [E4 hk1 hh, hp]; unfold doL; rw [hl, if_neg (fun e => by have e1 := e.1; have e2 := e.2; first | exact h8_5 e2 | exact h8_1 e1), if_pos h12_4]
    rw [e]
    exact ⟨rfl, T.same (by omega) (fun a ha => by (simp (disch := (first | omega | assumption)) only [↓appC, ↓updN, ↓updS, ↓app0]))⟩
   ·refine C6 j5 (A3 (A1 (wF rfl (A2 (C2 [0, 1, 3, 7, 15, 31, 63, 127, 15, 271, 1023, 2047, 4095] rfl (by decide +kernel) ?_)))))
    refine D6 (off := 2) (s := 1) (r := false) j3 kz j3 ?_
    (apply E1 (v := .int _ _) j2; exact Q0; exact Q1; exact j5)
    refine deq j6 ?_ ?_ <;> intro h14_2
    ·refine H8 j5 (A6 j3 (A6 j3 (A6 j3 (A6 j3 (A6 j3 (A6 j3 (A6 j3 (G5 (e := true) j6 (K3 j5 (B1 13 [0, 0, 0, 0, 0, 0, 0, 0, 0, 0, 0, 1, 0] [] j2 (by decide +kernel) trivial ?_))))))))))
     refine A1 (wT rfl (A2 (A0 (D9 j5 (I9 (L0 l.nm l.tk l.hd l.ex 5 w (lb := lb) (j := k) (R := (rwW t.lk W)) ?_ ?_ ?_) rfl rfl rfl rfl rfl rfl ?_)))))
     ·exact J8
     ·exact J8
     ·exact J8
     (apply D4 (u := .agg [.int _ _, .int _ _, .int _ _, .int _ _]) j3; exact Q0; exact Q1; rfl; rfl; rfl; rfl; exact kb; rfl; exact j2)
     refine A3 (A1 (A9 (B4 (B2 (E0 (A5 (A7 rfl (by exact Q0) j2 kb rfl) A8) (by (repeat first | exact Ch.refl _ | refine Ch.upd ?_ | refine Ch.app ?_ | assumption)) ?_)))))
     have e : doT t r = (t, tellL 5 l) := by
      rw [E4 hk1 hh, hp]; unfold doL; rw [hl, if_neg (fun e => by have e1 := e.1; have e2 := e.2; first | exact h8_5 e2 | exact h8_1 e1), if_neg h12_4]; exact if_pos (by first | exact .inl h14_2 | exact .inr h14_10)
     rw [e]
     exact ⟨rfl, T.same (by omega) (fun a ha => by (simp (disch := (first | omega | assumption)) only [↓appC, ↓updN, ↓updS, ↓app0]))⟩
    ·refine H8 j5 (G6 j5 (G7 (v := .ptr _ _ _) j6 (D6 (off := 2) (s := 1) (r := false) j3 kz j3 ?_)))
     (apply E1 (v := .int _ _) j2; exact Q0; exact Q1; exact j5)
     refine D6 (off := 0) (s := 1) (r := false) j3 kz j3 ?_
     (apply E1 (v := .int _ _) j2; exact Q0; exact Q1; exact j5)
     refine dne j6 ?_ ?_ <;> intro h14_10
     ·refine G5 (e := true) j6 (K3 j5 (B1 13 [0, 0, 0, 1, 0, 1, 0, 0, 0, 0, 0, 1, 0] [] j2 (by decide +kernel) trivial ?_))
      refine A1 (wT rfl (A2 (A0 (D9 j5 (I9 (L0 l.nm l.tk l.hd l.ex 5 w (lb := lb) (j := k) (R := (rwW t.lk W)) ?_ ?_ ?_) rfl rfl rfl rfl rfl rfl ?_)))))
      ·exact J8
      ·exact J8
      ·exact J8
      (apply D4 (u := .agg [.int _ _, .int _ _, .int _ _, .int _ _]) j3; exact Q0; exact Q1; rfl; rfl; rfl; rfl; exact kb; rfl; exact j2)
      refine A3 (A1 (A9 (B4 (B2 (E0 (A5 (A7 rfl (by exact Q0) j2 kb rfl) A8) (by (repeat first | exact Ch.refl _ | refine Ch.upd ?_ | refine Ch.app ?_ | assumption)) ?_)))))
      have e : doT t r = (t, tellL 5 l) := by
       rw [E4 hk1 hh, hp]; unfold doL; rw [hl, if_neg (fun e => by have e1 := e.1; have e2 := e.2; first | exact h8_5 e2 | exact h8_1 e1), if_neg h12_4]; exact if_pos (by first | exact .inl h14_2 | exact .inr h14_10)
      rw [e]
      exact ⟨rfl, T.same (by omega) (fun a ha => by (simp (disch := (first | omega | assumption)) only [↓appC, ↓updN, ↓updS, ↓app0]))⟩
     ·refine G5 (e := false) j6 (K3 j5 (B1 13 [0, 0, 0, 1, 0, 1, 0, 0, 0, 0, 0, 1, 0] [] j2 (by decide +kernel) trivial ?_))
      refine A1 (wF rfl (A2 (A0 (C1 (off := 2) (s := 1) (r := false) j3 kz j3 ?_))))
      (apply C5 (v := .int _ _) j2; exact Q0; exact Q1; exact j5)
      refine H5 j6 ?_ ?_ <;> intro h16_2
      ·refine C6 j5 (A3 (A1 (wT rfl (C2 [0, 0, 2, 6, 14, 0, 32, 126, 255, 511, 1023] rfl (by decide +kernel) ?_))))
       refine G6 j5 (G6 j5 (G7 (v := .ptr _ _ _) j6 (D6 (off := 0) (s := 1) (r := false) j3 kz j3 ?_)))
       (apply E1 (v := .int _ _) j2; exact Q0; exact Q1; exact j5)
       refine D6 (off := 3) (s := 1) (r := false) j3 kz j3 ?_
       (apply E1 (v := .int _ _) j2; exact Q0; exact Q1; exact j5)
       refine V3 j3 ?_ ?_ j3 ?_
       ·exact Q4
       ·exact Q4
       refine G7 (v := .ptr _ _ _) j6 (D6 (off := 3) (s := 1) (r := false) j3 kz j3 ?_)
       (apply dst (u := .int _ _) rfl rfl rfl; exact Q0; exact Q1; rfl; rfl; rfl; rfl; exact kb; rfl; rfl; rfl)
       refine B1 11 [3, 0, 0, 0, 1, 0, 1, 0, 0, 0, 0] [] j2 (by decide +kernel) trivial ?_
       refine B7 (A1 (A2 (A0 (D9 j5 ?_))))
       (first | (refine I9 (L0 l.nm l.tk l.hd (t.tm + r.le) 1 w (lb := lb) (j := k) (R := (rwW t.lk W).set k [.str l.nm, .int .i64 l.tk, .int .i64 l.hd, .int .i64 (t.tm + r.le), w]) (by omega) (by exact Q0) (List.getElem?_set_self hR)) rfl rfl rfl rfl rfl rfl ?_) | (refine I9 (L0 (frL t.tm t.nx l).nm (frL t.tm t.nx l).tk (frL t.tm t.nx l).hd (frL t.tm t.nx l).ex 1 w1 (lb := lb) (j := k) (R := (rwW t.lk W).set k ((frL t.tm t.nx l).V w1)) (by omega) (by exact Q0) (List.getElem?_set_self hR)) rfl rfl rfl rfl rfl rfl ?_))
       (apply D4 (u := .agg [.int _ _, .int _ _, .int _ _, .int _ _]) j3; exact Q0; exact Q1; rfl; rfl; rfl; rfl; exact kb; rfl; exact j2)
       refine A3 (A1 (A9 (E0 (A5 (A7 rfl (by exact Q0) j2 kb rfl) A8) (by (repeat first | exact Ch.refl _ | refine Ch.upd ?_ | refine Ch.app ?_ | assumption)) ?_)))
       first
       | (have e : doT t r = (⟨t.tm, t.nx, t.lk.set k ⟨l.nm, l.tk, l.hd, t.tm + r.le, l.ws⟩, t.sn⟩, ⟨1, l.tk, l.hd, t.tm + r.le⟩) := by
            rw [E4 hk1 hh, hp]; unfold doL; rw [hl, if_neg (fun e => by have e1 := e.1; have e2 := e.2; first | exact h8_5 e2 | exact h8_1 e1), if_neg h12_4, if_neg (fun e => e.elim h14_2 (fun q => h14_10 q)), if_pos h16_2]
          rw [e]
          refine ⟨rfl, T.lockS hk rfl ⟨l.nm, l.tk, l.hd, t.tm + r.le, l.ws⟩ w t.nx (by omega) ?_ ?_ (hkw.mono (fun a ha => by have q := hfw a ha; have q1 := q.1; have q2 := q.2.1; have q3 := q.2.2; (simp (disch := (first | omega | assumption)) only [↓appC, ↓updN, ↓updS, ↓app0]))) (fun a ha => by have q := hfw a ha; exact ⟨by omega, .inl (by rw [hwk]; exact ha)⟩) (fun a ha h1 h2 h3 => by (simp (disch := (first | omega | assumption)) only [↓appC, ↓updN, ↓updS, ↓app0]))⟩
          · exact Q0
          · (simp (disch := (first | omega | assumption)) only [↓appC, ↓updN, ↓updS, ↓app0]); rfl)
       | (have e : doT t r = (⟨t.tm, frN t.nx l, t.lk.set k (frL t.tm t.nx l), t.sn⟩, tellL 1 (frL t.tm t.nx l)) := by
            rw [E4 hk1 hh, hp]; unfold doL; rw [hl, if_neg (fun e => by have e1 := e.1; have e2 := e.2; first | exact h8_5 e2 | exact h8_1 e1), if_neg h12_4, if_neg (fun e => e.elim h14_2 (fun q => h14_10 q)), if_neg h16_2]
          rw [e]
          refine ⟨rfl, T.lockS hk rfl (frL t.tm t.nx l) w1 (frN t.nx l) (by omega) ?_ ?_ (h11_2.2.mono (fun a ha => by rw [h11_2.1] at ha; have q := hfw a ha; have q1 := q.1; have q2 := q.2.1; have q3 := q.2.2; (simp (disch := (first | omega | assumption)) only [↓appC, ↓updN, ↓updS, ↓app0]))) (fun a ha => by rw [h11_2.1] at ha; have q := hfw a ha; exact ⟨by omega, .inl (by rw [hwk]; exact ha)⟩) (fun a ha h1 h2 h3 => by (simp (disch := (first | omega | assumption)) only [↓appC, ↓updN, ↓updS, ↓app0]))⟩
          · exact Q0
          · (simp (disch := (first | omega | assumption)) only [↓appC, ↓updN, ↓updS, ↓app0]); first | done | rfl)
      ·refine C6 j5 (A3 (A1 (wF rfl (A0 (D9 j5 (D9 j5 ?_))))))
       refine K7 (o96w l w t.tm t.nx (.view lb 0 t.lk.length) Ss htm (by omega) hwl (id := id) (lb := lb) (j := k) (R := rwW t.lk W) (by omega) (by omega) hne (by exact Q0) hR (by exact Q0) hrow (hkw.mono (fun a ha => by have q := hfw a ha; have q1 := q.1; have q2 := q.2.1; have q3 := q.2.2; (simp (disch := (first | omega | assumption)) only [↓appC, ↓updN, ↓updS, ↓app0]))) (fun a ha => by have q := hfw a ha; exact ⟨by omega, q.2.2, q.2.1⟩)) rfl j5 ?_
       rintro w1 h11_2
       try dsimp only at h11_2
       refine A3 (B7 (A1 (A2 (A0 (D9 j5 ?_)))))
       (first | (refine I9 (L0 l.nm l.tk l.hd (t.tm + r.le) 1 w (lb := lb) (j := k) (R := (rwW t.lk W).set k [.str l.nm, .int .i64 l.tk, .int .i64 l.hd, .int .i64 (t.tm + r.le), w]) (by omega) (by exact Q0) (List.getElem?_set_self hR)) rfl rfl rfl rfl rfl rfl ?_) | (refine I9 (L0 (frL t.tm t.nx l).nm (frL t.tm t.nx l).tk (frL t.tm t.nx l).hd (frL t.tm t.nx l).ex 1 w1 (lb := lb) (j := k) (R := (rwW t.lk W).set k ((frL t.tm t.nx l).V w1)) (by omega) (by exact Q0) (List.getElem?_set_self hR)) rfl rfl rfl rfl rfl rfl ?_))
       (apply D4 (u := .agg [.int _ _, .int _ _, .int _ _, .int _ _]) j3; exact Q0; exact Q1; rfl; rfl; rfl; rfl; exact kb; rfl; exact j2)
       refine A3 (A1 (A9 (E0 (A5 (A7 rfl (by exact Q0) j2 kb rfl) A8) (by (repeat first | exact Ch.refl _ | refine Ch.upd ?_ | refine Ch.app ?_ | assumption)) ?_)))
       first
       | (have e : doT t r = (⟨t.tm, t.nx, t.lk.set k ⟨l.nm, l.tk, l.hd, t.tm + r.le, l.ws⟩, t.sn⟩, ⟨1, l.tk, l.hd, t.tm + r.le⟩) := by
            rw [E4 hk1 hh, hp]; unfold doL; rw [hl, if_neg (fun e => by have e1 := e.1; have e2 := e.2; first | exact h8_5 e2 | exact h8_1 e1), if_neg h12_4, if_neg (fun e => e.elim h14_2 (fun q => h14_10 q)), if_pos h16_2]
          rw [e]
          refine ⟨rfl, T.lockS hk rfl ⟨l.nm, l.tk, l.hd, t.tm + r.le, l.ws⟩ w t.nx (by omega) ?_ ?_ (hkw.mono (fun a ha => by have q := hfw a ha; have q1 := q.1; have q2 := q.2.1; have q3 := q.2.2; (simp (disch := (first | omega | assumption)) only [↓appC, ↓updN, ↓updS, ↓app0]))) (fun a ha => by have q := hfw a ha; exact ⟨by omega, .inl (by rw [hwk]; exact ha)⟩) (fun a ha h1 h2 h3 => by (simp (disch := (first | omega | assumption)) only [↓appC, ↓updN, ↓updS, ↓app0]))⟩
          · exact Q0
          · (simp (disch := (first | omega | assumption)) only [↓appC, ↓updN, ↓updS, ↓app0]); rfl)
       | (have e : doT t r = (⟨t.tm, frN t.nx l, t.lk.set k (frL t.tm t.nx l), t.sn⟩, tellL 1 (frL t.tm t.nx l)) := by
            rw [E4 hk1 hh, hp]; unfold doL; rw [hl, if_neg (fun e => by have e1 := e.1; have e2 := e.2; first | exact h8_5 e2 | exact h8_1 e1), if_neg h12_4, if_neg (fun e => e.elim h14_2 (fun q => h14_10 q)), if_neg h16_2]
          rw [e]
          refine ⟨rfl, T.lockS hk rfl (frL t.tm t.nx l) w1 (frN t.nx l) (by omega) ?_ ?_ (h11_2.2.mono (fun a ha => by rw [h11_2.1] at ha; have q := hfw a ha; have q1 := q.1; have q2 := q.2.1; have q3 := q.2.2; (simp (disch := (first | omega | assumption)) only [↓appC, ↓updN, ↓updS, ↓app0]))) (fun a ha => by rw [h11_2.1] at ha; have q := hfw a ha; exact ⟨by omega, .inl (by rw [hwk]; exact ha)⟩) (fun a ha h1 h2 h3 => by (simp (disch := (first | omega | assumption)) only [↓appC, ↓updN, ↓updS, ↓app0]))⟩
          · exact Q0
          · (simp (disch := (first | omega | assumption)) only [↓appC, ↓updN, ↓updS, ↓app0]); first | done | rfl)
 ·refine C4 j5 (A4 j3 (A4 j3 (A4 j3 (C0 (e := false) j6 (A3 (A1 (wF rfl (B0 (A1 (A2 (B3 (A2 ?_))))))))))))
  refine A0 (D9 j5 (F6 (v := .ptr _ _ _) j6 (C1 (off := 2) (s := 1) (r := false) j3 kz j3 ?_)))
  (apply C5 (v := .int _ _) j2; exact Q0; exact Q1; exact j5)
  refine H5 j6 ?_ ?_ <;> intro h12_4
  ·refine C6 j5 (A3 (A1 (wT rfl (A2 (A0 (D9 j5 (I9 (L0 l.nm l.tk l.hd l.ex 4 w (lb := lb) (j := k) (R := (rwW t.lk W)) ?_ ?_ ?_) rfl rfl rfl rfl rfl rfl ?_)))))))
   ·exact J8
   ·exact J8
   ·exact J8
   (apply D4 (u := .agg [.int _ _, .int _ _, .int _ _, .int _ _]) j3; exact Q0; exact Q1; rfl; rfl; rfl; rfl; exact kb; rfl; exact j2)
   refine A3 (A1 (A9 (B4 (B2 (E0 (A5 (A7 rfl (by exact Q0) j2 kb rfl) A8) (by (repeat first | exact Ch.refl _ | refine Ch.upd ?_ | refine Ch.app ?_ | assumption)) ?_)))))
   have e : doT t r = (t, tellL 4 l) := by
    rw [E4 hk1 hh, hp]; unfold doL; rw [hl, if_neg (fun e => by have e1 := e.1; have e2 := e.2; first | exact h8_5 e2 | exact h8_1 e1), if_pos h12_4]
   rw [e]
   exact ⟨rfl, T.same (by omega) (fun a ha => by (simp (disch := (first | omega | assumption)) only [↓appC, ↓updN, ↓updS, ↓app0]))⟩
  ·refine C6 j5 (A3 (A1 (wF rfl (A2 (C2 [0, 1, 3, 7, 15, 31, 63, 127, 15, 271, 1023, 2047, 4095] rfl (by decide +kernel) ?_)))))
   refine D6 (off := 2) (s := 1) (r := false) j3 kz j3 ?_
   (apply E1 (v := .int _ _) j2; exact Q0; exact Q1; exact j5)
   refine deq j6 ?_ ?_ <;> intro h14_2
   ·refine H8 j5 (A6 j3 (A6 j3 (A6 j3 (A6 j3 (A6 j3 (A6 j3 (A6 j3 (G5 (e := true) j6 (K3 j5 (B1 13 [0, 0, 0, 0, 0, 0, 0, 0, 0, 0, 0, 1, 0] [] j2 (by decide +kernel) trivial ?_))))))))))
    refine A1 (wT rfl (A2 (A0 (D9 j5 (I9 (L0 l.nm l.tk l.hd l.ex 5 w (lb := lb) (j := k) (R := (rwW t.lk W)) ?_ ?_ ?_) rfl rfl rfl rfl rfl rfl ?_)))))
    ·exact J8
    ·exact J8
    ·exact J8
    (apply D4 (u := .agg [.int _ _, .int _ _, .int _ _, .int _ _]) j3; exact Q0; exact Q1; rfl; rfl; rfl; rfl; exact kb; rfl; exact j2)
    refine A3 (A1 (A9 (B4 (B2 (E0 (A5 (A7 rfl (by exact Q0) j2 kb rfl) A8) (by (repeat first | exact Ch.refl _ | refine Ch.upd ?_ | refine Ch.app ?_ | assumption)) ?_)))))
    have e : doT t r = (t, tellL 5 l) := by
     rw [E4 hk1 hh, hp]; unfold doL; rw [hl, if_neg (fun e => by have e1 := e.1; have e2 := e.2; first | exact h8_5 e2 | exact h8_1 e1), if_neg h12_4]; exact if_pos (by first | exact .inl h14_2 | exact .inr h14_10)
    rw [e]
    exact ⟨rfl, T.same (by omega) (fun a ha => by (simp (disch := (first | omega | assumption)) only [↓appC, ↓updN, ↓updS, ↓app0]))⟩
   ·refine H8 j5 (G6 j5 (G7 (v := .ptr _ _ _) j6 (D6 (off := 2) (s := 1) (r := false) j3 kz j3 ?_)))
    (apply E1 (v := .int _ _) j2; exact Q0; exact Q1; exact j5)
    refine D6 (off := 0) (s := 1) (r := false) j3 kz j3 ?_
    (apply E1 (v := .int _ _) j2; exact Q0; exact Q1; exact j5)
    refine dne j6 ?_ ?_ <;> intro h14_10
    ·refine G5 (e := true) j6 (K3 j5 (B1 13 [0, 0, 0, 1, 0, 1, 0, 0, 0, 0, 0, 1, 0] [] j2 (by decide +kernel) trivial ?_))
     refine A1 (wT rfl (A2 (A0 (D9 j5 (I9 (L0 l.nm l.tk l.hd l.ex 5 w (lb := lb) (j := k) (R := (rwW t.lk W)) ?_ ?_ ?_) rfl rfl rfl rfl rfl rfl ?_)))))
     ·exact J8
     ·exact J8
     ·exact J8
     (apply D4 (u := .agg [.int _ _, .int _ _, .int _ _, .int _ _]) j3; exact Q0; exact Q1; rfl; rfl; rfl; rfl; exact kb; rfl; exact j2)
     refine A3 (A1 (A9 (B4 (B2 (E0 (A5 (A7 rfl (by exact Q0) j2 kb rfl) A8) (by (repeat first | exact Ch.refl _ | refine Ch.upd ?_ | refine Ch.app ?_ | assumption)) ?_)))))
     have e : doT t r = (t, tellL 5 l) := by
      rw [E4 hk1 hh, hp]; unfold doL; rw [hl, if_neg (fun e => by have e1 := e.1; have e2 := e.2; first | exact h8_5 e2 | exact h8_1 e1), if_neg h12_4]; exact if_pos (by first | exact .inl h14_2 | exact .inr h14_10)
     rw [e]
     exact ⟨rfl, T.same (by omega) (fun a ha => by (simp (disch := (first | omega | assumption)) only [↓appC, ↓updN, ↓updS, ↓app0]))⟩
    ·refine G5 (e := false) j6 (K3 j5 (B1 13 [0, 0, 0, 1, 0, 1, 0, 0, 0, 0, 0, 1, 0] [] j2 (by decide +kernel) trivial ?_))
     refine A1 (wF rfl (A2 (A0 (C1 (off := 2) (s := 1) (r := false) j3 kz j3 ?_))))
     (apply C5 (v := .int _ _) j2; exact Q0; exact Q1; exact j5)
     refine H5 j6 ?_ ?_ <;> intro h16_2
     ·refine C6 j5 (A3 (A1 (wT rfl (C2 [0, 0, 2, 6, 14, 0, 32, 126, 255, 511, 1023] rfl (by decide +kernel) ?_))))
      refine G6 j5 (G6 j5 (G7 (v := .ptr _ _ _) j6 (D6 (off := 0) (s := 1) (r := false) j3 kz j3 ?_)))
      (apply E1 (v := .int _ _) j2; exact Q0; exact Q1; exact j5)
      refine D6 (off := 3) (s := 1) (r := false) j3 kz j3 ?_
      (apply E1 (v := .int _ _) j2; exact Q0; exact Q1; exact j5)
      refine V3 j3 ?_ ?_ j3 ?_
      ·exact Q4
      ·exact Q4
      refine G7 (v := .ptr _ _ _) j6 (D6 (off := 3) (s := 1) (r := false) j3 kz j3 ?_)
      (apply dst (u := .int _ _) rfl rfl rfl; exact Q0; exact Q1; rfl; rfl; rfl; rfl; exact kb; rfl; rfl; rfl)
      refine B1 11 [3, 0, 0, 0, 1, 0, 1, 0, 0, 0, 0] [] j2 (by decide +kernel) trivial ?_
      refine B7 (A1 (A2 (A0 (D9 j5 ?_))))
      (first | (refine I9 (L0 l.nm l.tk l.hd (t.tm + r.le) 1 w (lb := lb) (j := k) (R := (rwW t.lk W).set k [.str l.nm, .int .i64 l.tk, .int .i64 l.hd, .int .i64 (t.tm + r.le), w]) (by omega) (by exact Q0) (List.getElem?_set_self hR)) rfl rfl rfl rfl rfl rfl ?_) | (refine I9 (L0 (frL t.tm t.nx l).nm (frL t.tm t.nx l).tk (frL t.tm t.nx l).hd (frL t.tm t.nx l).ex 1 w1 (lb := lb) (j := k) (R := (rwW t.lk W).set k ((frL t.tm t.nx l).V w1)) (by omega) (by exact Q0) (List.getElem?_set_self hR)) rfl rfl rfl rfl rfl rfl ?_))
      (apply D4 (u := .agg [.int _ _, .int _ _, .int _ _, .int _ _]) j3; exact Q0; exact Q1; rfl; rfl; rfl; rfl; exact kb; rfl; exact j2)
      refine A3 (A1 (A9 (E0 (A5 (A7 rfl (by exact Q0) j2 kb rfl) A8) (by (repeat first | exact Ch.refl _ | refine Ch.upd ?_ | refine Ch.app ?_ | assumption)) ?_)))
      first
      | (have e : doT t r = (⟨t.tm, t.nx, t.lk.set k ⟨l.nm, l.tk, l.hd, t.tm + r.le, l.ws⟩, t.sn⟩, ⟨1, l.tk, l.hd, t.tm + r.le⟩) := by
           rw [E4 hk1 hh, hp]; unfold doL; rw [hl, if_neg (fun e => by have e1 := e.1; have e2 := e.2; first | exact h8_5 e2 | exact h8_1 e1), if_neg h12_4, if_neg (fun e => e.elim h14_2 (fun q => h14_10 q)), if_pos h16_2]
         rw [e]
         refine ⟨rfl, T.lockS hk rfl ⟨l.nm, l.tk, l.hd, t.tm + r.le, l.ws⟩ w t.nx (by omega) ?_ ?_ (hkw.mono (fun a ha => by have q := hfw a ha; have q1 := q.1; have q2 := q.2.1; have q3 := q.2.2; (simp (disch := (first | omega | assumption)) only [↓appC, ↓updN, ↓updS, ↓app0]))) (fun a ha => by have q := hfw a ha; exact ⟨by omega, .inl (by rw [hwk]; exact ha)⟩) (fun a ha h1 h2 h3 => by (simp (disch := (first | omega | assumption)) only [↓appC, ↓updN, ↓updS, ↓app0]))⟩
         · exact Q0
         · (simp (disch := (first | omega | assumption)) only [↓appC, ↓updN, ↓updS, ↓app0]); rfl)
      | (have e : doT t r = (⟨t.tm, frN t.nx l, t.lk.set k (frL t.tm t.nx l), t.sn⟩, tellL 1 (frL t.tm t.nx l)) := by
           rw [E4 hk1 hh, hp]; unfold doL; rw [hl, if_neg (fun e => by have e1 := e.1; have e2 := e.2; first | exact h8_5 e2 | exact h8_1 e1), if_neg h12_4, if_neg (fun e => e.elim h14_2 (fun q => h14_10 q)), if_neg h16_2]
         rw [e]
         refine ⟨rfl, T.lockS hk rfl (frL t.tm t.nx l) w1 (frN t.nx l) (by omega) ?_ ?_ (h11_2.2.mono (fun a ha => by rw [h11_2.1] at ha; have q := hfw a ha; have q1 := q.1; have q2 := q.2.1; have q3 := q.2.2; (simp (disch := (first | omega | assumption)) only [↓appC, ↓updN, ↓updS, ↓app0]))) (fun a ha => by rw [h11_2.1] at ha; have q := hfw a ha; exact ⟨by omega, .inl (by rw [hwk]; exact ha)⟩) (fun a ha h1 h2 h3 => by (simp (disch := (first | omega | assumption)) only [↓appC, ↓updN, ↓updS, ↓app0]))⟩
         · exact Q0
         · (simp (disch := (first | omega | assumption)) only [↓appC, ↓updN, ↓updS, ↓app0]); first | done | rfl)
     ·refine C6 j5 (A3 (A1 (wF rfl (A0 (D9 j5 (D9 j5 ?_))))))
      refine K7 (o96w l w t.tm t.nx (.view lb 0 t.lk.length) Ss htm (by omega) hwl (id := id) (lb := lb) (j := k) (R := rwW t.lk W) (by omega) (by omega) hne (by exact Q0) hR (by exact Q0) hrow (hkw.mono (fun a ha => by have q := hfw a ha; have q1 := q.1; have q2 := q.2.1; have q3 := q.2.2; (simp (disch := (first | omega | assumption)) only [↓appC, ↓updN, ↓updS, ↓app0]))) (fun a ha => by have q := hfw a ha; exact ⟨by omega, q.2.2, q.2.1⟩)) rfl j5 ?_
      rintro w1 h11_2
      try dsimp only at h11_2
      refine A3 (B7 (A1 (A2 (A0 (D9 j5 ?_)))))
      (first | (refine I9 (L0 l.nm l.tk l.hd (t.tm + r.le) 1 w (lb := lb) (j := k) (R := (rwW t.lk W).set k [.str l.nm, .int .i64 l.tk, .int .i64 l.hd, .int .i64 (t.tm + r.le), w]) (by omega) (by exact Q0) (List.getElem?_set_self hR)) rfl rfl rfl rfl rfl rfl ?_) | (refine I9 (L0 (frL t.tm t.nx l).nm (frL t.tm t.nx l).tk (frL t.tm t.nx l).hd (frL t.tm t.nx l).ex 1 w1 (lb := lb) (j := k) (R := (rwW t.lk W).set k ((frL t.tm t.nx l).V w1)) (by omega) (by exact Q0) (List.getElem?_set_self hR)) rfl rfl rfl rfl rfl rfl ?_))
      (apply D4 (u := .agg [.int _ _, .int _ _, .int _ _, .int _ _]) j3; exact Q0; exact Q1; rfl; rfl; rfl; rfl; exact kb; rfl; exact j2)
      refine A3 (A1 (A9 (E0 (A5 (A7 rfl (by exact Q0) j2 kb rfl) A8) (by (repeat first | exact Ch.refl _ | refine Ch.upd ?_ | refine Ch.app ?_ | assumption)) ?_)))
      first
      | (have e : doT t r = (⟨t.tm, t.nx, t.lk.set k ⟨l.nm, l.tk, l.hd, t.tm + r.le, l.ws⟩, t.sn⟩, ⟨1, l.tk, l.hd, t.tm + r.le⟩) := by
           rw [E4 hk1 hh, hp]; unfold doL; rw [hl, if_neg (fun e => by have e1 := e.1; have e2 := e.2; first | exact h8_5 e2 | exact h8_1 e1), if_neg h12_4, if_neg (fun e => e.elim h14_2 (fun q => h14_10 q)), if_pos h16_2]
         rw [e]
         refine ⟨rfl, T.lockS hk rfl ⟨l.nm, l.tk, l.hd, t.tm + r.le, l.ws⟩ w t.nx (by omega) ?_ ?_ (hkw.mono (fun a ha => by have q := hfw a ha; have q1 := q.1; have q2 := q.2.1; have q3 := q.2.2; (simp (disch := (first | omega | assumption)) only [↓appC, ↓updN, ↓updS, ↓app0]))) (fun a ha => by have q := hfw a ha; exact ⟨by omega, .inl (by rw [hwk]; exact ha)⟩) (fun a ha h1 h2 h3 => by (simp (disch := (first | omega | assumption)) only [↓appC, ↓updN, ↓updS, ↓app0]))⟩
         · exact Q0
         · (simp (disch := (first | omega | assumption)) only [↓appC, ↓updN, ↓updS, ↓app0]); rfl)
      | (have e : doT t r = (⟨t.tm, frN t.nx l, t.lk.set k (frL t.tm t.nx l), t.sn⟩, tellL 1 (frL t.tm t.nx l)) := by
           rw [E4 hk1 hh, hp]; unfold doL; rw [hl, if_neg (fun e => by have e1 := e.1; have e2 := e.2; first | exact h8_5 e2 | exact h8_1 e1), if_neg h12_4, if_neg (fun e => e.elim h14_2 (fun q => h14_10 q)), if_neg h16_2]
         rw [e]
         refine ⟨rfl, T.lockS hk rfl (frL t.tm t.nx l) w1 (frN t.nx l) (by omega) ?_ ?_ (h11_2.2.mono (fun a ha => by rw [h11_2.1] at ha; have q := hfw a ha; have q1 := q.1; have q2 := q.2.1; have q3 := q.2.2; (simp (disch := (first | omega | assumption)) only [↓appC, ↓updN, ↓updS, ↓app0]))) (fun a ha => by rw [h11_2.1] at ha; have q := hfw a ha; exact ⟨by omega, .inl (by rw [hwk]; exact ha)⟩) (fun a ha h1 h2 h3 => by (simp (disch := (first | omega | assumption)) only [↓appC, ↓updN, ↓updS, ↓app0]))⟩
         · exact Q0
         · (simp (disch := (first | omega | assumption)) only [↓appC, ↓updN, ↓updS, ↓app0]); first | done | rfl)
theorem o111 (t : Tb) (r : Rq) (bd : Bd t r) {id : Nat} {Sl Ss : V} {W : Nat → V} {h : Heap} {n : Nat} (T : TabM t id Sl Ss W h n) : OpenM En 111 [.ptr id 0 0, .agg [.int .i64 r.cl, .int .i64 r.st, .int .i64 r.kd, .int .i64 r.le, .str r.nm]] h n (fun v g m => v = .agg (doT t r).2.V ∧ TabS (doT t r).1 id (OwnT id Sl Ss W t.lk.length) n h g m) := by
 by_cases hk1 : r.kd = 1
 ·exact o111a t r bd T hk1
 ·by_cases hh : hit r.nm t.lk
  ·rcases T.kl with ⟨rfl, k⟩ | ⟨lb, rfl, k⟩
   ·have hl : t.lk.length = 0 := by have := congrArg List.length k; rw [B5] at this; exact this
    exact absurd hh.1 (by omega)
   ·rw [B5] at T ⊢
    exact o111h t r bd hk1 hh rfl T
  ·exact o111n t r bd T hk1 hh
end Go.Proofs.Ytknnniaoboaghaa
