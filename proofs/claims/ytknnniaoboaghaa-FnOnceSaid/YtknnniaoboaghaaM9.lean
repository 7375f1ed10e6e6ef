import Derived.Test.YtknnniaoboaghaaM8
namespace Go.Proofs.Ytknnniaoboaghaa
open Go.V
set_option linter.unusedVariables false
set_option linter.unusedSimpArgs false
set_option maxRecDepth 20000
set_option maxHeartbeats 4000000
theorem H5 (k : Nat) : 0 + (k : Int).toNat = k := by omega
def TabS (t : Tb) (id : Nat) (F : Nat → Prop) (n : Nat) (h g : Heap) (m : Nat) : Prop :=
 ∃ Sl Ss W, TabM t id Sl Ss W g m ∧ (∀ a, OwnT id Sl Ss W t.lk.length a → F a ∨ n ≤ a) ∧ (∀ a, a < n → ¬ F a → g a = h a) ∧ n ≤ m
theorem TabM.same {t : Tb} {id : Nat} {Sl Ss : V} {W : Nat → V} {h g : Heap} {n m : Nat} (T : TabM t id Sl Ss W h n) (hm : n ≤ m) (e : ∀ a, a < n → g a = h a) : TabS t id (OwnT id Sl Ss W t.lk.length) n h g m :=
 ⟨Sl, Ss, W, T.ext hm e, fun a o => .inl o, fun a ha _ => e a ha, hm⟩
theorem TabM.lockS {t : Tb} {id : Nat} {Sl Ss : V} {W : Nat → V} {h g : Heap} {n m : Nat} (T : TabM t id Sl Ss W h n) {k : Nat} (hk : k < t.lk.length) {lb len : Nat} (hSl : Sl = .view lb 0 len) (l : Lk) (w : V) (nx : Int) (hnm : n ≤ m)
  (g1 : g id = some ⟨[[.int .i64 t.tm, .int .i64 nx, Sl, Ss]], 4, 35⟩) (g2 : g lb = some ⟨(rwW t.lk W).set k (l.V w), 5, 29⟩) (g3 : IsL g w (l.ws.map wtV) 2 123) (g4 : ∀ a, fpV w = some a → a < m ∧ (fpV (W k) = some a ∨ n ≤ a))
  (g5 : ∀ a, a < n → a ≠ id → a ≠ lb → fpV (W k) ≠ some a → g a = h a) : TabS ⟨t.tm, nx, t.lk.set k l, t.sn⟩ id (OwnT id Sl Ss W t.lk.length) n h g m := by
 have hlen : (t.lk.set k l).length = t.lk.length := List.length_set
 refine ⟨Sl, Ss, _, T.setLk hk hSl l w t.tm nx hnm g1 g2 g3 g4 (fun a o h1 h2 h3 => g5 a (T.lt o) h1 h2 h3), fun a o => ?_, fun a ha hna => ?_, hnm⟩
 ·rcases o with h | h | h | ⟨i, hi, h⟩
  ·exact .inl (.inl h)
  ·exact .inl (.inr (.inl h))
  ·exact .inl (.inr (.inr (.inl h)))
  ·have hi' : i < t.lk.length := by rw [← hlen]; exact hi
   dsimp only at h
   by_cases e : i = k
   ·rw [if_pos e] at h
    rcases (g4 a h).2 with h2 | h2
    ·exact .inl (.inr (.inr (.inr ⟨k, hk, h2⟩)))
    ·exact .inr h2
   ·rw [if_neg e] at h
    exact .inl (.inr (.inr (.inr ⟨i, hi', h⟩)))
 ·exact g5 a ha (fun e => hna (.inl e)) (fun e => hna (.inr (.inl (by rw [hSl, e]; rfl)))) (fun e => hna (.inr (.inr (.inr ⟨k, hk, e⟩))))
theorem G7 {t : Tb} {r : Rq} (h : hit r.nm t.lk) : acqT t r = acqL t (pos r.nm t.lk) r := if_pos h
theorem acqT_no {t : Tb} {r : Rq} (h : ¬ hit r.nm t.lk) (h4 : t.lk.length = 4) : acqT t r = (t, bareA 6) := by unfold acqT; rw [if_neg h, if_pos h4]
theorem V3 {t : Tb} {r : Rq} (h : ¬ hit r.nm t.lk) (h4 : ¬ t.lk.length = 4) : acqT t r = (⟨t.tm, t.nx + 1, insL t.lk (pos r.nm t.lk) ⟨r.nm, t.nx, r.cl, t.tm + r.le, []⟩, t.sn⟩, ⟨1, t.nx, r.cl, t.tm + r.le⟩) := by unfold acqT; rw [if_neg h, if_neg h4]
def An.V (a : An) : List V := [.int .i64 a.kd, .int .i64 a.tk, .int .i64 a.hd, .int .i64 a.ex]
theorem AC {α : Type} {A B : List α} {x y : α} {k : Nat} (h : A.length = k) : (A ++ x :: B).set k y = A ++ y :: B := by
 subst h; rw [List.set_append_right _ _ (Nat.le_refl _), Nat.sub_self]; rfl
theorem BO {α : Type} {A B : List α} {x : α} {k : Nat} (h : A.length = k) : (A ++ x :: B)[k]? = some x := by
 subst h; rw [List.getElem?_append_right (Nat.le_refl _), Nat.sub_self]; rfl
structure Bd (t : Tb) (r : Rq) : Prop where
 srt : Srt t.lk
 l4 : t.lk.length ≤ 4
 w4 : ∀ i, i < t.lk.length → (t.lk.getD i Lk0).ws.length ≤ 4
 wl : ∀ j, j < t.lk.length → ∀ i, i < (t.lk.getD j Lk0).ws.length → 1 ≤ ((t.lk.getD j Lk0).ws.getD i (0, 0)).2 ∧ ((t.lk.getD j Lk0).ws.getD i (0, 0)).2 ≤ 1000
 tm : 0 ≤ t.tm ∧ t.tm ≤ 1000000000
 nx : 0 ≤ t.nx ∧ t.nx ≤ 999990
 cl : 0 ≤ r.cl ∧ r.cl ≤ 255
 le : 0 ≤ r.le ∧ r.le ≤ 1000
theorem o134h (t : Tb) (r : Rq) (bd : Bd t r) (hh : hit r.nm t.lk) {k : Nat} (hp : pos r.nm t.lk = k) {id lb : Nat} {Ss : V} {W : Nat → V} {h : Heap} {n : Nat} (T : TabM t id (.view lb 0 t.lk.length) Ss W h n) : OpenM En 134 [.ptr id 0 0, .agg [.int .i64 r.cl, .int .i64 r.st, .int .i64 r.kd, .int .i64 r.le, .str r.nm]] h n (fun v g m => v = .agg (acqT t r).2.V ∧ TabS (acqT t r).1 id (OwnT id (.view lb 0 t.lk.length) Ss W t.lk.length) n h g m) := by
 have hid := T.idn
 have kid := T.kid
 have hl4 := bd.l4; have htm := bd.tm; have hnx := bd.nx; have hcl := bd.cl; have hle := bd.le
 have hf := fun (h : Heap) (n : Nat) (T : TabM t id (.view lb 0 t.lk.length) Ss W h n) => o48y t W r.nm bd.srt (by omega) hh T
 rw [hp] at hf
 have hk : k < t.lk.length := by rw [← hp]; exact hh.1
 have hR : k < (rwW t.lk W).length := by rw [B6]; exact hk
 have hw4 := bd.w4 k hk
 have klb : h lb = some ⟨rwW t.lk W, 5, 29⟩ := by
  rcases T.kl with ⟨e, _⟩ | ⟨b, e, q⟩
  ·cases e
  ·injection e with e1 e2 e3; rw [e1]; exact q
 have hlb := T.fl lb rfl
 have hne := hlb.2
 have hkw := T.kw k hk
 have hfw := fun a ha => (T.fw k a hk ha)
 have hfw := fun a ha => (⟨(hfw a ha).1, (hfw a ha).2.1, fun e => (hfw a ha).2.2.1 (by rw [e]; rfl)⟩ : a < n ∧ a ≠ id ∧ a ≠ lb)
 have hrow := H2 (W := W) hk
 generalize hl : t.lk.getD k Lk0 = l at hkw hrow hw4
 generalize hwk : W k = w at hkw hrow hfw
 have hwc := hkw.cell
 unfold Lk.V at hrow
 rcases hkw with ⟨rfl, hws⟩ | ⟨wb, pre, hw, kwb⟩
 ·have hkw : IsL h .nsl (l.ws.map wtV) 2 123 := .inl ⟨rfl, hws⟩
  have hwz : l.ws.length = 0 := by rw [List.map_eq_nil_iff.1 hws]; rfl
  refine OpenM.of_wp Try.func134 rfl kb ?_
  refine A2 (A0 (J6 (u := .agg [.int _ _, .int _ _, .int _ _, .int _ _, .str _]) j3 rfl j3 (H0 j6 (A3 (A1 (A2 (A0 (E0 j5 (C0 (off := 4) (s := 1) (r := false) j3 kz j3 ?_)))))))))
  (apply C6 (v := .str _) j2; exact Q0; exact Q1; exact j5)
  refine L5 (hf _ _ (T.ext (by omega) (fun a ha => by (simp (disch := (first | omega | assumption)) only [↓appC, ↓updN, ↓updS, ↓app0])))) rfl rfl rfl rfl rfl rfl ?_
  refine rmT j5 (U4 j6 (U4 j6 (D7 j5 (C4 j5 (A3 (A1 (A2 (A2 (A0 (C7 j5 (D5 (c := true) j5 (A3 ?_))))))))))))
  refine A1 (wF rfl (B2 (A1 (A2 (A0 (E0 j5 (G8 (v := .ptr _ _ _) j6 (C0 (off := 2) (s := 1) (r := false) j3 kz j3 ?_))))))))
  (apply C6 (v := .view _ _ _) j2; exact Q0; exact Q1; exact j5)
  refine B5 j5 ?_
  (refine r0 ((C1 (b := ⟨rwW t.lk W, 5, 29⟩) rfl rfl rfl rfl (by exact Q0) rfl (by omega) (by omega)).to (v' := .ptr (lb) k 0) (by rw [H5])) rfl rfl rfl ?_)
  refine raP j5 (A3 (A1 (A2 (B4 (A2 (B9 [0, 1, 3, 7, 0, 16, 63, 127, 255, 511, 1023, 255, 2303, 8191, 16383, 32767, 65535] rfl (by decide +kernel) ?_))))))
  refine H3 j5 (H4 (v := .ptr _ _ _) j6 (C8 (off := 2) (s := 1) (r := false) j3 kz j3 ?_))
  (apply D1 (v := .int _ _) j2; exact Q0; exact Q1; exact j5)
  refine C8 (off := 0) (s := 1) (r := false) j3 kz j3 ?_
  (apply D1 (v := .int _ _) j2; exact Q0; exact Q1; exact j5)
  refine deq j6 ?_ ?_ <;> intro h7_6
  ·refine H1 j5 (A5 j3 (A5 j3 (A5 j3 (A5 j3 (A5 j3 (A5 j3 (A5 j3 (F7 (e := true) j6 (P6 j5 (B3 17 [0, 0, 0, 0, 0, 0, 0, 0, 0, 0, 0, 1, 0, 1, 0, 0, 0] [] j2 (by decide +kernel) trivial ?_))))))))))
   refine A1 (wT rfl (A2 (A0 (E0 j5 (L5 (L1 l.nm l.tk l.hd l.ex 8 V.nsl (lb := lb) (j := k) (R := (rwW t.lk W)) ?_ ?_ ?_) rfl rfl rfl rfl rfl rfl ?_)))))
   ·exact J9
   ·exact J9
   ·exact J9
   (apply D2 (u := .agg [.int _ _, .int _ _, .int _ _, .int _ _]) j3; exact Q0; exact Q1; rfl; rfl; rfl; rfl; exact kb; rfl; exact j2)
   refine A3 (A1 (B1 (A8 (B0 (D9 (A6 (A7 rfl (by exact Q0) j2 kb rfl) A9) (by (repeat first | exact Ch.refl _ | refine Ch.upd ?_ | refine Ch.app ?_ | assumption)) ?_)))))
   have e : acqT t r = (t, tellL 8 l) := by
    rw [G7 hh, hp]; unfold acqL; rw [hl]; exact if_pos (by first | exact .inl h7_6 | exact .inr h7_14)
   rw [e]
   exact ⟨rfl, T.same (by omega) (fun a ha => by (simp (disch := (first | omega | assumption)) only [↓appC, ↓updN, ↓updS, ↓app0]))⟩
  ·refine H1 j5 (H3 j5 (H4 (v := .ptr _ _ _) j6 ?_))
   (apply N5 (vs := [.str _, .int _ _, .int _ _, .int _ _, _]) j2; exact Q0; exact Q1; rfl; exact kb; exact j4)
   refine C8 (off := 0) (s := 1) (r := false) j3 kz j3 ?_
   (apply D1 (v := .int _ _) j2; exact Q0; exact Q1; exact j5)
   apply T9 [lb] (p66 l false r.cl (by omega)) rfl j2
   ·exact SnapL.cons _ _ _ _ (SnapC.agg (.cons _ _ _ _ (.str _) (.cons _ _ _ _ (.int _ _) (.cons _ _ _ _ (.int _ _) (.cons _ _ _ _ (.int _ _) (.cons _ _ _ _ (D6 (hkw.mono (fun a ha => by have q := hfw a ha; (simp (disch := (first | omega | assumption)) only [↓appC, ↓updN, ↓updS, ↓app0]))) (fun a ha => by cases ha)) .nil)))))) (SnapL.cons _ _ _ _ (.one _ _ (.int _ _)) SnapL.nil)
   ·rfl
   ·rfl
   ·rfl
   refine dge j6 ?_ ?_ <;> intro h7_14
   ·refine F7 (e := true) j6 (P6 j5 (B3 17 [0, 0, 0, 1, 1, 0, 1, 0, 0, 0, 0, 1, 0, 1, 0, 0, 0] [] j2 (by decide +kernel) trivial ?_))
    refine A1 (wT rfl (A2 (A0 (E0 j5 (L5 (L1 l.nm l.tk l.hd l.ex 8 V.nsl (lb := lb) (j := k) (R := (rwW t.lk W)) ?_ ?_ ?_) rfl rfl rfl rfl rfl rfl ?_)))))
    ·exact J9
    ·exact J9
    ·exact J9
    (apply D2 (u := .agg [.int _ _, .int _ _, .int _ _, .int _ _]) j3; exact Q0; exact Q1; rfl; rfl; rfl; rfl; exact kb; rfl; exact j2)
    refine A3 (A1 (B1 (A8 (B0 (D9 (A6 (A7 rfl (by exact Q0) j2 kb rfl) A9) (by (repeat first | exact Ch.refl _ | refine Ch.upd ?_ | refine Ch.app ?_ | assumption)) ?_)))))
    have e : acqT t r = (t, tellL 8 l) := by
     rw [G7 hh, hp]; unfold acqL; rw [hl]; exact if_pos (by first | exact .inl h7_6 | exact .inr h7_14)
    rw [e]
    exact ⟨rfl, T.same (by omega) (fun a ha => by (simp (disch := (first | omega | assumption)) only [↓appC, ↓updN, ↓updS, ↓app0]))⟩
   ·refine F7 (e := false) j6 (P6 j5 (B3 17 [0, 0, 0, 1, 1, 0, 1, 0, 0, 0, 0, 1, 0, 1, 0, 0, 0] [] j2 (by decide +kernel) trivial ?_))
    refine A1 (wF rfl (A2 (A0 (E0 j5 (G8 (v := .ptr _ _ _) j6 (C0 (off := 2) (s := 1) (r := false) j3 kz j3 ?_))))))
    (apply C6 (v := .int _ _) j2; exact Q0; exact Q1; exact j5)
    refine I1 j6 ?_ ?_ <;> intro h9_4
    ·refine C4 j5 (A3 (A1 (wT rfl (A2 (A0 (E0 j5 (E0 j5 (C0 (off := 0) (s := 1) (r := false) j3 kz j3 ?_))))))))
     (apply C6 (v := .int _ _) j2; exact Q0; exact Q1; exact j5)
     refine C0 (off := 3) (s := 1) (r := false) j3 kz j3 ?_
     (apply C6 (v := .int _ _) j2; exact Q0; exact Q1; exact j5)
     refine L5 (o125 l.nm l.tk l.hd l.ex t.tm t.nx r.cl r.le V.nsl (.view lb 0 t.lk.length) Ss hwc htm (by omega) hle (id := id) (lb := lb) (j := k) (R := rwW t.lk W) ?_ ?_ ?_ ?_ ?_ ?_ ?_) rfl rfl rfl rfl rfl rfl ?_
     ·exact J9
     ·exact J9
     ·exact J9
     ·exact J9
     ·exact J9
     ·exact J9
     ·exact J9
     refine A3 (A1 (A2 (A0 (E0 j5 (L5 (L1 l.nm t.nx r.cl (t.tm + r.le) 1 V.nsl (lb := lb) (j := k) (R := ((rwW t.lk W).set k [.str l.nm, .int .i64 t.nx, .int .i64 r.cl, .int .i64 (t.tm + r.le), V.nsl])) ?_ ?_ ?_) rfl rfl rfl rfl rfl rfl ?_)))))
     ·exact J9
     ·exact J9
     ·exact J9
     (apply D2 (u := .agg [.int _ _, .int _ _, .int _ _, .int _ _]) j3; exact Q0; exact Q1; rfl; rfl; rfl; rfl; exact kb; rfl; exact j2)
     refine A3 (A1 (B1 (A8 (B0 (D9 (A6 (A7 rfl (by exact Q0) j2 kb rfl) A9) (by (repeat first | exact Ch.refl _ | refine Ch.upd ?_ | refine Ch.app ?_ | assumption)) ?_)))))
     have e : acqT t r = (⟨t.tm, t.nx + 1, t.lk.set k ⟨l.nm, t.nx, r.cl, t.tm + r.le, l.ws⟩, t.sn⟩, ⟨1, t.nx, r.cl, t.tm + r.le⟩) := by
      rw [G7 hh, hp]; unfold acqL; rw [hl, if_neg (fun e => e.elim h7_6 h7_14), if_pos h9_4]
     rw [e]
     refine ⟨rfl, T.lockS hk rfl ⟨l.nm, t.nx, r.cl, t.tm + r.le, l.ws⟩ V.nsl (t.nx + 1) (by omega) ?_ ?_ ?_ ?_ ?_⟩
     ·exact Q0
     ·(simp (disch := (first | omega | assumption)) only [↓appC, ↓updN, ↓updS, ↓app0]); rfl
     ·exact hkw.mono (fun a ha => by have q := hfw a ha; have q1 := q.1; have q2 := q.2.1; have q3 := q.2.2; (simp (disch := (first | omega | assumption)) only [↓appC, ↓updN, ↓updS, ↓app0]))
     ·intro a ha; have q := hfw a ha; exact ⟨by omega, .inl (by rw [hwk]; exact ha)⟩
     ·intro a ha h1 h2 h3; (simp (disch := (first | omega | assumption)) only [↓appC, ↓updN, ↓updS, ↓app0])
    ·refine C4 j5 (A3 (A1 (wF rfl (A2 (A0 (E0 j5 (G8 (v := .ptr _ _ _) j6 (C0 (off := 4) (s := 1) (r := false) j3 kz j3 ?_))))))))
     (apply C6 (v := .nsl) j2; exact Q0; exact Q1; exact j5)
     refine H9 rfl rfl rfl j3 ?_
     refine I1 j6 ?_ ?_ <;> intro h12_5
     ·refine C4 j5 (A3 (A1 (wT rfl (A2 (A0 (E0 j5 (L5 (L1 l.nm l.tk l.hd l.ex 6 V.nsl (lb := lb) (j := k) (R := (rwW t.lk W)) ?_ ?_ ?_) rfl rfl rfl rfl rfl rfl ?_)))))))
      ·exact J9
      ·exact J9
      ·exact J9
      (apply D2 (u := .agg [.int _ _, .int _ _, .int _ _, .int _ _]) j3; exact Q0; exact Q1; rfl; rfl; rfl; rfl; exact kb; rfl; exact j2)
      refine A3 (A1 (B1 (A8 (B0 (D9 (A6 (A7 rfl (by exact Q0) j2 kb rfl) A9) (by (repeat first | exact Ch.refl _ | refine Ch.upd ?_ | refine Ch.app ?_ | assumption)) ?_)))))
      have e : acqT t r = (t, tellL 6 l) := by
       rw [G7 hh, hp]; unfold acqL; rw [hl, if_neg (fun e => e.elim h7_6 h7_14), if_neg h9_4]; exact if_pos (by omega)
      rw [e]
      exact ⟨rfl, T.same (by omega) (fun a ha => by (simp (disch := (first | omega | assumption)) only [↓appC, ↓updN, ↓updS, ↓app0]))⟩
     ·refine C4 j5 (A3 (A1 (wF rfl (B2 (C2 (A1 (A2 (B9 [0, 0, 2, 6, 14, 0, 32, 0, 128, 480, 992, 2046, 4095, 8191, 16383] rfl (by decide +kernel) ?_))))))))
      refine H3 j5 (H3 j5 (H4 (v := .ptr _ _ _) j6 (C8 (off := 4) (s := 1) (r := false) j3 kz j3 ?_)))
      (apply D1 (v := .nsl) j2; exact Q0; exact Q1; exact j5)
      refine C8 (off := 0) (s := 1) (r := false) j3 kz j3 ?_
      (apply D1 (v := .int _ _) j2; exact Q0; exact Q1; exact j5)
      refine C8 (off := 3) (s := 1) (r := false) j3 kz j3 ?_
      (apply D1 (v := .int _ _) j2; exact Q0; exact Q1; exact j5)
      refine dbd (cs := [.int _ _, .int _ _]) j5 (AN (es := [[.int _ _, .int _ _]]) j4 kz kb rfl rfl j3 ?_)
      (apply dan (s' := 16) (es := [[.int _ _, .int _ _]]) rfl j3 kz; exact U7; exact Q18; exact Q19; exact Q19; exact Q19; exact j3)
      refine H4 (v := .ptr _ _ _) j6 (C8 (off := 4) (s := 1) (r := false) j3 kz j3 ?_)
      (apply dst (u := .view _ _ _) rfl rfl rfl; exact Q0; exact Q1; rfl; rfl; rfl; rfl; exact kb; rfl; rfl; rfl)
      refine B3 15 [3, 0, 0, 3, 3, 0, 1, 0, 1, 0, 1, 0, 0, 0, 0] [(4, 10)] j2 (by decide +kernel) ?_ ?_
      ·(simp [ClearL, ids]; try omega)
      refine A1 (A2 (A0 (E0 j5 (L5 (L1 l.nm l.tk l.hd l.ex 2 (V.view (n + 1 + 1 + t.lk.length + 1 + 1) 0 1) (lb := lb) (j := k) (R := (rwW t.lk W).set k [.str l.nm, .int .i64 l.tk, .int .i64 l.hd, .int .i64 l.ex, (V.view (n + 1 + 1 + t.lk.length + 1 + 1) 0 1)]) ?_ ?_ (List.getElem?_set_self hR)) rfl rfl rfl rfl rfl rfl ?_))))
      ·exact J9
      ·exact J9
      (apply D2 (u := .agg [.int _ _, .int _ _, .int _ _, .int _ _]) j3; exact Q0; exact Q1; rfl; rfl; rfl; rfl; exact kb; rfl; exact j2)
      refine A3 (A1 (B1 (D9 (A6 (A7 rfl (by exact Q0) j2 kb rfl) A9) (by (repeat first | exact Ch.refl _ | refine Ch.upd ?_ | refine Ch.app ?_ | assumption)) ?_)))
      have e : acqT t r = (⟨t.tm, t.nx, t.lk.set k ⟨l.nm, l.tk, l.hd, l.ex, l.ws ++ [(r.cl, r.le)]⟩, t.sn⟩, tellL 2 l) := by
       rw [G7 hh, hp]; unfold acqL; rw [hl, if_neg (fun e => e.elim h7_6 h7_14), if_neg h9_4]; exact if_neg (by omega)
      rw [e]
      refine ⟨rfl, T.lockS hk rfl ⟨l.nm, l.tk, l.hd, l.ex, l.ws ++ [(r.cl, r.le)]⟩ (V.view (n + 1 + 1 + t.lk.length + 1 + 1) 0 1) t.nx (by omega) ?_ ?_ ?_ ?_ ?_⟩
      ·exact Q0
      ·(simp (disch := (first | omega | assumption)) only [↓appC, ↓updN, ↓updS, ↓app0]); rfl
      ·refine .inr ⟨n + 1 + 1 + t.lk.length + 1 + 1, [], by simp [List.map_eq_nil_iff.1 hws], ?_⟩
       (simp (disch := (first | omega | assumption)) only [↓appC, ↓updN, ↓updS, ↓app0])
       exact congrArg (fun z => some (Blk.mk z 2 123)) (by simp [List.map_eq_nil_iff.1 hws, wtV])
      ·intro a ha; cases ha; exact ⟨by omega, .inr (by omega)⟩
      ·intro a ha h1 h2 h3; (simp (disch := (first | omega | assumption)) only [↓appC, ↓updN, ↓updS, ↓app0])
 ·rw [List.length_map] at hw
  subst hw
  have hwb := hfw wb rfl
  have hkw : IsL h (.view wb pre.length l.ws.length) (l.ws.map wtV) 2 123 := .inr ⟨wb, pre, by rw [List.length_map], kwb⟩
  refine OpenM.of_wp Try.func134 rfl kb ?_
  refine A2 (A0 (J6 (u := .agg [.int _ _, .int _ _, .int _ _, .int _ _, .str _]) j3 rfl j3 (H0 j6 (A3 (A1 (A2 (A0 (E0 j5 (C0 (off := 4) (s := 1) (r := false) j3 kz j3 ?_)))))))))
  (apply C6 (v := .str _) j2; exact Q0; exact Q1; exact j5)
  refine L5 (hf _ _ (T.ext (by omega) (fun a ha => by (simp (disch := (first | omega | assumption)) only [↓appC, ↓updN, ↓updS, ↓app0])))) rfl rfl rfl rfl rfl rfl ?_
  refine rmT j5 (U4 j6 (U4 j6 (D7 j5 (C4 j5 (A3 (A1 (A2 (A2 (A0 (C7 j5 (D5 (c := true) j5 (A3 ?_))))))))))))
  refine A1 (wF rfl (B2 (A1 (A2 (A0 (E0 j5 (G8 (v := .ptr _ _ _) j6 (C0 (off := 2) (s := 1) (r := false) j3 kz j3 ?_))))))))
  (apply C6 (v := .view _ _ _) j2; exact Q0; exact Q1; exact j5)
  refine B5 j5 ?_
  (refine r0 ((C1 (b := ⟨rwW t.lk W, 5, 29⟩) rfl rfl rfl rfl (by exact Q0) rfl (by omega) (by omega)).to (v' := .ptr (lb) k 0) (by rw [H5])) rfl rfl rfl ?_)
  refine raP j5 (A3 (A1 (A2 (B4 (A2 (B9 [0, 1, 3, 7, 0, 16, 63, 127, 255, 511, 1023, 255, 2303, 8191, 16383, 32767, 65535] rfl (by decide +kernel) ?_))))))
  refine H3 j5 (H4 (v := .ptr _ _ _) j6 (C8 (off := 2) (s := 1) (r := false) j3 kz j3 ?_))
  (apply D1 (v := .int _ _) j2; exact Q0; exact Q1; exact j5)
  refine C8 (off := 0) (s := 1) (r := false) j3 kz j3 ?_
  (apply D1 (v := .int _ _) j2; exact Q0; exact Q1; exact j5)
  refine deq j6 ?_ ?_ <;> intro h7_6
  ·refine H1 j5 (A5 j3 (A5 j3 (A5 j3 (A5 j3 (A5 j3 (A5 j3 (A5 j3 (F7 (e := true) j6 (P6 j5 (B3 17 [0, 0, 0, 0, 0, 0, 0, 0, 0, 0, 0, 1, 0, 1, 0, 0, 0] [] j2 (by decide +kernel) trivial ?_))))))))))
   refine A1 (wT rfl (A2 (A0 (E0 j5 (L5 (L1 l.nm l.tk l.hd l.ex 8 (V.view wb pre.length l.ws.length) (lb := lb) (j := k) (R := (rwW t.lk W)) ?_ ?_ ?_) rfl rfl rfl rfl rfl rfl ?_)))))
   ·exact J9
   ·exact J9
   ·exact J9
   (apply D2 (u := .agg [.int _ _, .int _ _, .int _ _, .int _ _]) j3; exact Q0; exact Q1; rfl; rfl; rfl; rfl; exact kb; rfl; exact j2)
   refine A3 (A1 (B1 (A8 (B0 (D9 (A6 (A7 rfl (by exact Q0) j2 kb rfl) A9) (by (repeat first | exact Ch.refl _ | refine Ch.upd ?_ | refine Ch.app ?_ | assumption)) ?_)))))
   have e : acqT t r = (t, tellL 8 l) := by
    rw [G7 hh, hp]; unfold acqL; rw [hl]; exact if_pos (by first | exact .inl h7_6 | exact .inr h7_14)
   rw [e]
   exact ⟨rfl, T.same (by omega) (fun a ha => by (simp (disch := (first | omega | assumption)) only [↓appC, ↓updN, ↓updS, ↓app0]))⟩
  ·refine H1 j5 (H3 j5 (H4 (v := .ptr _ _ _) j6 ?_))
   (apply N5 (vs := [.str _, .int _ _, .int _ _, .int _ _, _]) j2; exact Q0; exact Q1; rfl; exact kb; exact j4)
   refine C8 (off := 0) (s := 1) (r := false) j3 kz j3 ?_
   (apply D1 (v := .int _ _) j2; exact Q0; exact Q1; exact j5)
   apply T9 [wb] (p66 l false r.cl (by omega)) rfl j2
   ·exact SnapL.cons _ _ _ _ (SnapC.agg (.cons _ _ _ _ (.str _) (.cons _ _ _ _ (.int _ _) (.cons _ _ _ _ (.int _ _) (.cons _ _ _ _ (.int _ _) (.cons _ _ _ _ (D6 (hkw.mono (fun a ha => by have q := hfw a ha; (simp (disch := (first | omega | assumption)) only [↓appC, ↓updN, ↓updS, ↓app0]))) (fun a ha => by cases ha; exact List.mem_singleton.2 rfl)) .nil)))))) (SnapL.cons _ _ _ _ (.one _ _ (.int _ _)) SnapL.nil)
   ·rfl
   ·rfl
   ·rfl
   refine dge j6 ?_ ?_ <;> intro h7_14
   ·refine F7 (e := true) j6 (P6 j5 (B3 17 [0, 0, 0, 1, 1, 0, 1, 0, 0, 0, 0, 1, 0, 1, 0, 0, 0] [] j2 (by decide +kernel) trivial ?_))
    refine A1 (wT rfl (A2 (A0 (E0 j5 (L5 (L1 l.nm l.tk l.hd l.ex 8 (V.view wb pre.length l.ws.length) (lb := lb) (j := k) (R := (rwW t.lk W)) ?_ ?_ ?_) rfl rfl rfl rfl rfl rfl ?_)))))
    ·exact J9
    ·exact J9
    ·exact J9
    (apply D2 (u := .agg [.int _ _, .int _ _, .int _ _, .int _ _]) j3; exact Q0; exact Q1; rfl; rfl; rfl; rfl; exact kb; rfl; exact j2)
    refine A3 (A1 (B1 (A8 (B0 (D9 (A6 (A7 rfl (by exact Q0) j2 kb rfl) A9) (by (repeat first | exact Ch.refl _ | refine Ch.upd ?_ | refine Ch.app ?_ | assumption)) ?_)))))
    have e : acqT t r = (t, tellL 8 l) := by
     rw [G7 hh, hp]; unfold acqL; rw [hl]; exact if_pos (by first | exact .inl h7_6 | exact .inr h7_14)
    rw [e]
    exact ⟨rfl, T.same (by omega) (fun a ha => by (simp (disch := (first | omega | assumption)) only [↓appC, ↓updN, ↓updS, ↓app0]))⟩
   ·refine F7 (e := false) j6 (P6 j5 (B3 17 [0, 0, 0, 1, 1, 0, 1, 0, 0, 0, 0, 1, 0, 1, 0, 0, 0] [] j2 (by decide +kernel) trivial ?_))
    refine A1 (wF rfl (A2 (A0 (E0 j5 (G8 (v := .ptr _ _ _) j6 (C0 (off := 2) (s := 1) (r := false) j3 kz j3 ?_))))))
    (apply C6 (v := .int _ _) j2; exact Q0; exact Q1; exact j5)
    refine I1 j6 ?_ ?_ <;> intro h9_4
    ·refine C4 j5 (A3 (A1 (wT rfl (A2 (A0 (E0 j5 (E0 j5 (C0 (off := 0) (s := 1) (r := false) j3 kz j3 ?_))))))))
     (apply C6 (v := .int _ _) j2; exact Q0; exact Q1; exact j5)
     refine C0 (off := 3) (s := 1) (r := false) j3 kz j3 ?_
     (apply C6 (v := .int _ _) j2; exact Q0; exact Q1; exact j5)
     refine L5 (o125 l.nm l.tk l.hd l.ex t.tm t.nx r.cl r.le (V.view wb pre.length l.ws.length) (.view lb 0 t.lk.length) Ss hwc htm (by omega) hle (id := id) (lb := lb) (j := k) (R := rwW t.lk W) ?_ ?_ ?_ ?_ ?_ ?_ ?_) rfl rfl rfl rfl rfl rfl ?_
     ·exact J9
     ·exact J9
     ·exact J9
     ·exact J9
     ·exact J9
     ·exact J9
     ·exact J9
     refine A3 (A1 (A2 (A0 (E0 j5 (L5 (L1 l.nm t.nx r.cl (t.tm + r.le) 1 (V.view wb pre.length l.ws.length) (lb := lb) (j := k) (R := ((rwW t.lk W).set k [.str l.nm, .int .i64 t.nx, .int .i64 r.cl, .int .i64 (t.tm + r.le), (V.view wb pre.length l.ws.length)])) ?_ ?_ ?_) rfl rfl rfl rfl rfl rfl ?_)))))
     ·exact J9
     ·exact J9
     ·exact J9
     (apply D2 (u := .agg [.int _ _, .int _ _, .int _ _, .int _ _]) j3; exact Q0; exact Q1; rfl; rfl; rfl; rfl; exact kb; rfl; exact j2)
     refine A3 (A1 (B1 (A8 (B0 (D9 (A6 (A7 rfl (by exact Q0) j2 kb rfl) A9) (by (repeat first | exact Ch.refl _ | refine Ch.upd ?_ | refine Ch.app ?_ | assumption)) ?_)))))
     have e : acqT t r = (⟨t.tm, t.nx + 1, t.lk.set k ⟨l.nm, t.nx, r.cl, t.tm + r.le, l.ws⟩, t.sn⟩, ⟨1, t.nx, r.cl, t.tm + r.le⟩) := by
      rw [G7 hh, hp]; unfold acqL; rw [hl, if_neg (fun e => e.elim h7_6 h7_14), if_pos h9_4]
     rw [e]
     refine ⟨rfl, T.lockS hk rfl ⟨l.nm, t.nx, r.cl, t.tm + r.le, l.ws⟩ (V.view wb pre.length l.ws.length) (t.nx + 1) (by omega) ?_ ?_ ?_ ?_ ?_⟩
     ·exact Q0
     ·(simp (disch := (first | omega | assumption)) only [↓appC, ↓updN, ↓updS, ↓app0]); rfl
     ·exact hkw.mono (fun a ha => by have q := hfw a ha; have q1 := q.1; have q2 := q.2.1; have q3 := q.2.2; (simp (disch := (first | omega | assumption)) only [↓appC, ↓updN, ↓updS, ↓app0]))
     ·intro a ha; have q := hfw a ha; exact ⟨by omega, .inl (by rw [hwk]; exact ha)⟩
     ·intro a ha h1 h2 h3; (simp (disch := (first | omega | assumption)) only [↓appC, ↓updN, ↓updS, ↓app0])
    ·refine C4 j5 (A3 (A1 (wF rfl (A2 (A0 (E0 j5 (G8 (v := .ptr _ _ _) j6 (C0 (off := 4) (s := 1) (r := false) j3 kz j3 ?_))))))))
     (apply C6 (v := .view _ _ _) j2; exact Q0; exact Q1; exact j5)
     refine H9 rfl rfl rfl j3 ?_
     refine I1 j6 ?_ ?_ <;> intro h12_5
     ·refine C4 j5 (A3 (A1 (wT rfl (A2 (A0 (E0 j5 (L5 (L1 l.nm l.tk l.hd l.ex 6 (V.view wb pre.length l.ws.length) (lb := lb) (j := k) (R := (rwW t.lk W)) ?_ ?_ ?_) rfl rfl rfl rfl rfl rfl ?_)))))))
      ·exact J9
      ·exact J9
      ·exact J9
      (apply D2 (u := .agg [.int _ _, .int _ _, .int _ _, .int _ _]) j3; exact Q0; exact Q1; rfl; rfl; rfl; rfl; exact kb; rfl; exact j2)
      refine A3 (A1 (B1 (A8 (B0 (D9 (A6 (A7 rfl (by exact Q0) j2 kb rfl) A9) (by (repeat first | exact Ch.refl _ | refine Ch.upd ?_ | refine Ch.app ?_ | assumption)) ?_)))))
      have e : acqT t r = (t, tellL 6 l) := by
       rw [G7 hh, hp]; unfold acqL; rw [hl, if_neg (fun e => e.elim h7_6 h7_14), if_neg h9_4]; exact if_pos (by omega)
      rw [e]
      exact ⟨rfl, T.same (by omega) (fun a ha => by (simp (disch := (first | omega | assumption)) only [↓appC, ↓updN, ↓updS, ↓app0]))⟩
     ·refine C4 j5 (A3 (A1 (wF rfl (B2 (C2 (A1 (A2 (B9 [0, 0, 2, 6, 14, 0, 32, 0, 128, 480, 992, 2046, 4095, 8191, 16383] rfl (by decide +kernel) ?_))))))))
      refine H3 j5 (H3 j5 (H4 (v := .ptr _ _ _) j6 (C8 (off := 4) (s := 1) (r := false) j3 kz j3 ?_)))
      (apply D1 (v := .view _ _ _) j2; exact Q0; exact Q1; exact j5)
      refine C8 (off := 0) (s := 1) (r := false) j3 kz j3 ?_
      (apply D1 (v := .int _ _) j2; exact Q0; exact Q1; exact j5)
      refine C8 (off := 3) (s := 1) (r := false) j3 kz j3 ?_
      (apply D1 (v := .int _ _) j2; exact Q0; exact Q1; exact j5)
      refine dbd (cs := [.int _ _, .int _ _]) j5 (AN (es := [[.int _ _, .int _ _]]) j4 kz kb rfl rfl j3 ?_)
      (apply U6 (s' := 16) (es := [[.int _ _, .int _ _]]) rfl rfl; exact Q0; exact j2; (first | rfl | omega | (show _ = (pre ++ l.ws.map wtV).length; rw [List.length_append, List.length_map]) | (show _ = (pre ++ l.ws.map wtV).length; rw [List.length_append])); exact j2; exact kz; exact U7; exact Q18; exact Q19; exact Q19; exact j3)
      refine H4 (v := .ptr _ _ _) j6 (C8 (off := 4) (s := 1) (r := false) j3 kz j3 ?_)
      (apply dst (u := .view _ _ _) rfl rfl rfl; exact Q0; exact Q1; rfl; rfl; rfl; rfl; exact kb; rfl; rfl; rfl)
      refine B3 15 [3, 0, 0, 3, 3, 0, 1, 0, 1, 0, 1, 0, 0, 0, 0] [(4, 10)] j2 (by decide +kernel) ?_ ?_
      ·(simp [ClearL, ids]; try omega)
      refine A1 (A2 (A0 (E0 j5 (L5 (L1 l.nm l.tk l.hd l.ex 2 (V.view (n + 1 + 1 + t.lk.length + 1 + 1) 0 (l.ws.length + 1)) (lb := lb) (j := k) (R := (rwW t.lk W).set k [.str l.nm, .int .i64 l.tk, .int .i64 l.hd, .int .i64 l.ex, (V.view (n + 1 + 1 + t.lk.length + 1 + 1) 0 (l.ws.length + 1))]) ?_ ?_ (List.getElem?_set_self hR)) rfl rfl rfl rfl rfl rfl ?_))))
      ·exact J9
      ·exact J9
      (apply D2 (u := .agg [.int _ _, .int _ _, .int _ _, .int _ _]) j3; exact Q0; exact Q1; rfl; rfl; rfl; rfl; exact kb; rfl; exact j2)
      refine A3 (A1 (B1 (D9 (A6 (A7 rfl (by exact Q0) j2 kb rfl) A9) (by (repeat first | exact Ch.refl _ | refine Ch.upd ?_ | refine Ch.app ?_ | assumption)) ?_)))
      have e : acqT t r = (⟨t.tm, t.nx, t.lk.set k ⟨l.nm, l.tk, l.hd, l.ex, l.ws ++ [(r.cl, r.le)]⟩, t.sn⟩, tellL 2 l) := by
       rw [G7 hh, hp]; unfold acqL; rw [hl, if_neg (fun e => e.elim h7_6 h7_14), if_neg h9_4]; exact if_neg (by omega)
      rw [e]
      refine ⟨rfl, T.lockS hk rfl ⟨l.nm, l.tk, l.hd, l.ex, l.ws ++ [(r.cl, r.le)]⟩ (V.view (n + 1 + 1 + t.lk.length + 1 + 1) 0 (l.ws.length + 1)) t.nx (by omega) ?_ ?_ ?_ ?_ ?_⟩
      ·exact Q0
      ·(simp (disch := (first | omega | assumption)) only [↓appC, ↓updN, ↓updS, ↓app0]); rfl
      ·refine .inr ⟨n + 1 + 1 + t.lk.length + 1 + 1, [], by simp, ?_⟩
       (simp (disch := (first | omega | assumption)) only [↓appC, ↓updN, ↓updS, ↓app0])
       exact congrArg (fun z => some (Blk.mk z 2 123)) (by simp [wtV])
      ·intro a ha; cases ha; exact ⟨by omega, .inr (by omega)⟩
      ·intro a ha h1 h2 h3; have h4 : a ≠ wb := fun e => h3 (by rw [hwk, e]; rfl); (simp (disch := (first | omega | assumption)) only [↓appC, ↓updN, ↓updS, ↓app0])
open Go.V
set_option linter.unusedVariables false
set_option linter.unusedSimpArgs false
set_option maxRecDepth 20000
set_option maxHeartbeats 4000000
theorem AO (s : ByteArray) : ∀ L : List Lk, pos s L ≤ L.length
 | [] => Nat.le_refl _
 | l :: r => by
  have := AO s r
  unfold pos
  split <;> simp <;> omega
theorem CA (L : List Lk) (W : Nat → V) : ∀ e ∈ rwW L W, e.length = 5 := fun e he => by
 obtain ⟨i, _, rfl⟩ := List.mem_map.1 he; rfl
theorem TabM.insS {t : Tb} {id : Nat} {Sl Ss : V} {W : Nat → V} {h g : Heap} {n m : Nat} (T : TabM t id Sl Ss W h n) {k : Nat} (hk : k ≤ t.lk.length) (l : Lk) (w : V) (nx : Int) (lb : Nat) (hnm : n ≤ m) (hlb : n ≤ lb ∧ lb < m)
  (g1 : g id = some ⟨[[.int .i64 t.tm, .int .i64 nx, .view lb 0 (t.lk.length + 1), Ss]], 4, 35⟩) (g2 : g lb = some ⟨(rwW t.lk W).take k ++ l.V w :: (rwW t.lk W).drop k, 5, 29⟩) (g3 : IsL g w (l.ws.map wtV) 2 123)
  (g4 : ∀ a, fpV w = some a → a < m ∧ n ≤ a ∧ a ≠ lb) (g5 : ∀ a, a < n → a ≠ id → fpV Sl ≠ some a → g a = h a) : TabS ⟨t.tm, nx, insL t.lk k l, t.sn⟩ id (OwnT id Sl Ss W t.lk.length) n h g m := by
 have hlen : (insL t.lk k l).length = t.lk.length + 1 := I7 hk
 refine ⟨_, Ss, _, T.insLk hk l w nx lb hnm hlb g1 g2 g3 g4 (fun a o h1 h2 => g5 a (T.lt o) h1 h2), fun a o => ?_, fun a ha hna => g5 a ha (fun e => hna (.inl e)) (fun e => hna (.inr (.inl e))), hnm⟩
 rcases o with h | h | h | ⟨i, hi, h⟩
 ·exact .inl (.inl h)
 ·cases h; exact .inr hlb.1
 ·exact .inl (.inr (.inr (.inl h)))
 ·have hi' : i < t.lk.length + 1 := by rw [← hlen]; exact hi
  unfold insW at h
  by_cases h1 : i < k
  ·rw [if_pos h1] at h; exact .inl (.inr (.inr (.inr ⟨i, by omega, h⟩)))
  ·rw [if_neg h1] at h
   by_cases h2 : i = k
   ·rw [if_pos h2] at h; exact .inr (g4 a h).2.1
   ·rw [if_neg h2] at h; exact .inl (.inr (.inr (.inr ⟨i - 1, by omega, h⟩)))
theorem o134x (t : Tb) (r : Rq) (bd : Bd t r) (hh : ¬ hit r.nm t.lk) {k : Nat} (hp : pos r.nm t.lk = k) {id lb : Nat} {Ss : V} {W : Nat → V} {h : Heap} {n : Nat} (T : TabM t id (.view lb 0 t.lk.length) Ss W h n) : OpenM En 134 [.ptr id 0 0, .agg [.int .i64 r.cl, .int .i64 r.st, .int .i64 r.kd, .int .i64 r.le, .str r.nm]] h n (fun v g m => v = .agg (acqT t r).2.V ∧ TabS (acqT t r).1 id (OwnT id (.view lb 0 t.lk.length) Ss W t.lk.length) n h g m) := by
 have hid := T.idn
 have kid := T.kid
 have hl4 := bd.l4; have htm := bd.tm; have hnx := bd.nx; have hcl := bd.cl; have hle := bd.le
 have hf := fun (h : Heap) (n : Nat) (T : TabM t id (.view lb 0 t.lk.length) Ss W h n) => o48x t W r.nm bd.srt (by omega) hh T
 rw [hp] at hf
 have hk : k ≤ t.lk.length := by rw [← hp]; exact AO _ _
 have hI := fun vb h n => @o146z (rwW t.lk W) r.nm 0 (-1) 0 .nsl rfl k (by rw [B6]; exact hk) (CA _ _) (by rw [B6]; omega) (.view lb 0 t.lk.length) vb h n
 rw [B6] at hI
 simp only [idV, fpV, Option.getD_some, Option.getD_none] at hI
 have hsl := T.fl
 have hkl := T.kl
 have hA : ((rwW t.lk W).take k).length = k := by rw [List.length_take, B6]; omega
 have hRI : k < ((rwW t.lk W).take k ++ [.str r.nm, .int .i64 0, .int .i64 (-1), .int .i64 0, .nsl] :: (rwW t.lk W).drop k).length := by rw [List.length_append, hA, List.length_cons]; omega
 have hrow : ((rwW t.lk W).take k ++ [.str r.nm, .int .i64 0, .int .i64 (-1), .int .i64 0, .nsl] :: (rwW t.lk W).drop k)[k]? = some [.str r.nm, .int .i64 0, .int .i64 (-1), .int .i64 0, .nsl] := BO hA
 have hlb := T.fl lb rfl
 have hne := hlb.2
 refine OpenM.of_wp Try.func134 rfl kb ?_
 refine A2 (A0 (J6 (u := .agg [.int _ _, .int _ _, .int _ _, .int _ _, .str _]) j3 rfl j3 (H0 j6 (A3 (A1 (A2 (A0 (E0 j5 (C0 (off := 4) (s := 1) (r := false) j3 kz j3 ?_)))))))))
 (apply C6 (v := .str _) j2; exact Q0; exact Q5; exact j5)
 refine L5 (hf _ _ (T.ext (by omega) (fun a ha => by (simp (disch := (first | omega | assumption)) only [↓appC, ↓updN, ↓updS, ↓app0])))) rfl rfl rfl rfl rfl rfl ?_
 refine rmT j5 (U4 j6 (U4 j6 (D7 j5 (C4 j5 (A3 (A1 (A2 (A2 (A0 (C7 j5 (D5 (c := false) j5 (A3 ?_))))))))))))
 refine A1 (wT rfl (A2 (A2 (A0 (E0 j5 (G8 (v := .ptr _ _ _) j6 (C0 (off := 2) (s := 1) (r := false) j3 kz j3 ?_)))))))
 (apply C6 (v := .view _ _ _) j2; exact Q0; exact Q5; exact j5)
 refine H9 rfl rfl rfl j3 ?_
 refine I1 j6 ?_ ?_ <;> intro h3_5
 ·refine A3 (A1 (wT rfl (A2 (A0 (rcl (p110 6) rfl j5 ?_)))))
  (apply D2 (u := .agg [.int _ _, .int _ _, .int _ _, .int _ _]) j3; exact Q0; exact Q5; rfl; rfl; rfl; rfl; exact kb; rfl; exact j2)
  refine A3 (A1 (B1 (B0 (B0 (D9 (A6 (A7 rfl (by exact Q0) j2 kb rfl) A9) (by (repeat first | exact Ch.refl _ | refine Ch.upd ?_ | refine Ch.app ?_ | assumption)) ?_)))))
  rw [acqT_no hh (by omega)]
  exact ⟨rfl, T.same (by omega) (fun a ha => by (simp (disch := (first | omega | assumption)) only [↓appC, ↓updN, ↓updS, ↓app0]))⟩
 ·refine A3 (A1 (wF rfl (B2 (A1 (B9 [0, 0, 2, 6, 14, 0, 0, 64, 192, 448, 1022, 2047, 4095, 8191] rfl (by decide +kernel) ?_)))))
  refine H3 j5 (H3 j5 (H4 (v := .ptr _ _ _) j6 (C8 (off := 2) (s := 1) (r := false) j3 kz j3 ?_)))
  (apply D1 (v := .view _ _ _) j2; exact Q0; exact Q5; exact j5)
  refine I8 j5 (C8 (off := 4) (s := 1) (r := false) j3 kz j3 ?_)
  (apply D1 (v := .str _) j2; exact Q0; exact Q5; exact j5)
  refine dbd (cs := [.str _, .int _ _, .int _ _, .int _ _, _]) j5 (AN (es := [[.str _, .int _ _, .int _ _, .int _ _, _]]) j4 kz kb rfl rfl j3 ?_)
  refine dop (hI (n + 1 + 1 + t.lk.length + 1) _ _ (hkl.mono (fun a ha => by have q := hsl a ha; have q1 := q.1; have q2 := q.2; (simp (disch := (first | omega | assumption)) only [↓appC, ↓updN, ↓updS, ↓app0]))) (fun a ha => by have q := hsl a (by first | exact ha | exact congrArg some (Option.some.inj ha) | cases ha); omega) (by omega) (by exact Q0)) rfl rfl rfl rfl rfl rfl ?_
  refine H4 (v := .ptr _ _ _) j6 (C8 (off := 2) (s := 1) (r := false) j3 kz j3 ?_)
  (apply dst (u := .view _ _ _) rfl rfl rfl; exact Q0; exact Q5; rfl; rfl; rfl; rfl; exact kb; rfl; rfl; rfl)
  refine B3 14 [3, 0, 0, 3, 3, 0, 1, 0, 0, 1, 0, 0, 0, 0] [(4, 9)] j2 (by decide +kernel) ?_ ?_
  ·(simp [ClearL, ids, idV, fpV]; try omega)
  refine A1 (A2 (A0 (E0 j5 (G8 (v := .ptr _ _ _) j6 (C0 (off := 2) (s := 1) (r := false) j3 kz j3 ?_)))))
  (apply C6 (v := .view _ _ _) j2; exact Q0; exact Q5; exact j5)
  refine B5 j5 ?_
  (refine r0 ((C1 (b := ⟨((rwW t.lk W).take k ++ [.str r.nm, .int .i64 0, .int .i64 (-1), .int .i64 0, .nsl] :: (rwW t.lk W).drop k), 5, 29⟩) rfl rfl rfl rfl (by exact Q0) rfl (by omega) (by omega)).to (v' := .ptr (n + 1 + 1 + t.lk.length + 1 + 1) k 0) (by rw [H5])) rfl rfl rfl ?_)
  refine raP j5 (A3 (A1 (A2 (B4 (A2 (B9 [0, 1, 3, 7, 0, 16, 63, 127, 255, 511, 1023, 255, 2303, 8191, 16383, 32767, 65535] rfl (by decide +kernel) ?_))))))
  refine H3 j5 (H4 (v := .ptr _ _ _) j6 (C8 (off := 2) (s := 1) (r := false) j3 kz j3 ?_))
  (apply D1 (v := .int _ _) j2; exact Q0; exact Q5; exact j5)
  refine C8 (off := 0) (s := 1) (r := false) j3 kz j3 ?_
  (apply D1 (v := .int _ _) j2; exact Q0; exact Q5; exact j5)
  refine deq j6 (fun h => absurd h (by omega)) ?_
  intro h7_6
  refine H1 j5 (H3 j5 (H4 (v := .ptr _ _ _) j6 ?_))
  (apply N5 (vs := [.str _, .int _ _, .int _ _, .int _ _, _]) j2; exact Q0; exact Q5; rfl; exact kb; exact j4)
  refine C8 (off := 0) (s := 1) (r := false) j3 kz j3 ?_
  (apply D1 (v := .int _ _) j2; exact Q0; exact Q5; exact j5)
  apply T9 [n + 1 + 1 + t.lk.length + 1 + 1] (p66 ⟨r.nm, 0, -1, 0, []⟩ false r.cl (Nat.zero_le _)) rfl j2
  ·exact SnapL.cons _ _ _ _ (SnapC.agg (.cons _ _ _ _ (.str _) (.cons _ _ _ _ (.int _ _) (.cons _ _ _ _ (.int _ _) (.cons _ _ _ _ (.int _ _) (.cons _ _ _ _ .nslW .nil)))))) (SnapL.cons _ _ _ _ (.one _ _ (.int _ _)) SnapL.nil)
  ·rfl
  ·rfl
  ·rfl
  refine dge j6 (fun h => absurd h ((by show ¬ ((-1 : Int) ≥ 0); decide))) ?_
  intro h7_14
  refine F7 (e := false) j6 (P6 j5 (B3 17 [0, 0, 0, 1, 1, 0, 1, 0, 0, 0, 0, 1, 0, 1, 0, 0, 0] [] j2 (by decide +kernel) trivial ?_))
  refine A1 (wF rfl (A2 (A0 (E0 j5 (G8 (v := .ptr _ _ _) j6 (C0 (off := 2) (s := 1) (r := false) j3 kz j3 ?_))))))
  (apply C6 (v := .int _ _) j2; exact Q0; exact Q5; exact j5)
  refine I1 j6 ?_ (fun h => absurd (rfl) h)
  intro h9_4
  refine C4 j5 (A3 (A1 (wT rfl (A2 (A0 (E0 j5 (E0 j5 (C0 (off := 0) (s := 1) (r := false) j3 kz j3 ?_))))))))
  (apply C6 (v := .int _ _) j2; exact Q0; exact Q5; exact j5)
  refine C0 (off := 3) (s := 1) (r := false) j3 kz j3 ?_
  (apply C6 (v := .int _ _) j2; exact Q0; exact Q5; exact j5)
  refine L5 (o125 r.nm 0 (-1) 0 t.tm t.nx r.cl r.le .nsl (.view (n + 1 + 1 + t.lk.length + 1 + 1) 0 (t.lk.length + 1)) Ss rfl htm (by omega) hle (id := id) (lb := n + 1 + 1 + t.lk.length + 1 + 1) (j := k) (R := ((rwW t.lk W).take k ++ [.str r.nm, .int .i64 0, .int .i64 (-1), .int .i64 0, .nsl] :: (rwW t.lk W).drop k)) (by omega) (by omega) (by omega) (by exact Q0) hRI (by exact Q0) hrow) rfl rfl rfl rfl rfl rfl ?_
  refine A3 (A1 (A2 (A0 (E0 j5 (L5 (L1 r.nm t.nx r.cl (t.tm + r.le) 1 .nsl (lb := n + 1 + 1 + t.lk.length + 1 + 1) (j := k) (R := ((rwW t.lk W).take k ++ [.str r.nm, .int .i64 0, .int .i64 (-1), .int .i64 0, .nsl] :: (rwW t.lk W).drop k).set k [.str r.nm, .int .i64 t.nx, .int .i64 r.cl, .int .i64 (t.tm + r.le), .nsl]) (by omega) (by exact Q0) (List.getElem?_set_self hRI)) rfl rfl rfl rfl rfl rfl ?_)))))
  (apply D2 (u := .agg [.int _ _, .int _ _, .int _ _, .int _ _]) j3; exact Q0; exact Q5; rfl; rfl; rfl; rfl; exact kb; rfl; exact j2)
  refine A3 (A1 (B1 (A8 (B0 (D9 (A6 (A7 rfl (by exact Q0) j2 kb rfl) A9) (by (repeat first | exact Ch.refl _ | refine Ch.upd ?_ | refine Ch.app ?_ | assumption)) ?_)))))
  rw [V3 hh (by omega), hp]
  refine ⟨rfl, T.insS hk ⟨r.nm, t.nx, r.cl, t.tm + r.le, []⟩ .nsl (t.nx + 1) (n + 1 + 1 + t.lk.length + 1 + 1) (by omega) ⟨by omega, by omega⟩ ?_ ?_ (.inl ⟨rfl, rfl⟩) (fun a ha => by cases ha) ?_⟩
  ·exact Q0
  ·(simp (disch := (first | omega | assumption)) only [↓appC, ↓updN, ↓updS, ↓app0])
   exact congrArg (fun z => some (Blk.mk z 5 29)) (AC hA)
  ·intro a ha h1 h2
   have h3 : a ≠ lb := fun e => h2 (by rw [e]; rfl)
   (simp (disch := (first | omega | assumption)) only [↓appC, ↓updN, ↓updS, ↓app0])
theorem o134z (t : Tb) (r : Rq) (bd : Bd t r) (hh : ¬ hit r.nm t.lk) {k : Nat} (hp : pos r.nm t.lk = k) {id : Nat} {Ss : V} {W : Nat → V} {h : Heap} {n : Nat} (hz : t.lk.length = 0) (T : TabM t id .nsl Ss W h n) : OpenM En 134 [.ptr id 0 0, .agg [.int .i64 r.cl, .int .i64 r.st, .int .i64 r.kd, .int .i64 r.le, .str r.nm]] h n (fun v g m => v = .agg (acqT t r).2.V ∧ TabS (acqT t r).1 id (OwnT id .nsl Ss W t.lk.length) n h g m) := by
 have hid := T.idn
 have kid := T.kid
 have hl4 := bd.l4; have htm := bd.tm; have hnx := bd.nx; have hcl := bd.cl; have hle := bd.le
 have hf := fun (h : Heap) (n : Nat) (T : TabM t id .nsl Ss W h n) => o48x t W r.nm bd.srt (by omega) hh T
 rw [hp] at hf
 have hk : k ≤ t.lk.length := by rw [← hp]; exact AO _ _
 have hI := fun vb h n => @o146z (rwW t.lk W) r.nm 0 (-1) 0 .nsl rfl k (by rw [B6]; exact hk) (CA _ _) (by rw [B6]; omega) .nsl vb h n
 rw [B6] at hI
 simp only [idV, fpV, Option.getD_some, Option.getD_none] at hI
 have hsl := T.fl
 have hkl := T.kl
 have hA : ((rwW t.lk W).take k).length = k := by rw [List.length_take, B6]; omega
 have hRI : k < ((rwW t.lk W).take k ++ [.str r.nm, .int .i64 0, .int .i64 (-1), .int .i64 0, .nsl] :: (rwW t.lk W).drop k).length := by rw [List.length_append, hA, List.length_cons]; omega
 have hrow : ((rwW t.lk W).take k ++ [.str r.nm, .int .i64 0, .int .i64 (-1), .int .i64 0, .nsl] :: (rwW t.lk W).drop k)[k]? = some [.str r.nm, .int .i64 0, .int .i64 (-1), .int .i64 0, .nsl] := BO hA
 refine OpenM.of_wp Try.func134 rfl kb ?_
 refine A2 (A0 (J6 (u := .agg [.int _ _, .int _ _, .int _ _, .int _ _, .str _]) j3 rfl j3 (H0 j6 (A3 (A1 (A2 (A0 (E0 j5 (C0 (off := 4) (s := 1) (r := false) j3 kz j3 ?_)))))))))
 (apply C6 (v := .str _) j2; exact Q0; exact Q5; exact j5)
 refine L5 (hf _ _ (T.ext (by omega) (fun a ha => by (simp (disch := (first | omega | assumption)) only [↓appC, ↓updN, ↓updS, ↓app0])))) rfl rfl rfl rfl rfl rfl ?_
 refine rmT j5 (U4 j6 (U4 j6 (D7 j5 (C4 j5 (A3 (A1 (A2 (A2 (A0 (C7 j5 (D5 (c := false) j5 (A3 ?_))))))))))))
 refine A1 (wT rfl (A2 (A2 (A0 (E0 j5 (G8 (v := .ptr _ _ _) j6 (C0 (off := 2) (s := 1) (r := false) j3 kz j3 ?_)))))))
 (apply C6 (v := .nsl) j2; exact Q0; exact Q5; exact j5)
 refine H9 rfl rfl rfl j3 ?_
 refine I1 j6 (fun h => absurd h ((by show ¬ ((0 : Int) = 4); decide))) ?_
 intro h3_5
 refine A3 (A1 (wF rfl (B2 (A1 (B9 [0, 0, 2, 6, 14, 0, 0, 64, 192, 448, 1022, 2047, 4095, 8191] rfl (by decide +kernel) ?_)))))
 refine H3 j5 (H3 j5 (H4 (v := .ptr _ _ _) j6 (C8 (off := 2) (s := 1) (r := false) j3 kz j3 ?_)))
 (apply D1 (v := .nsl) j2; exact Q0; exact Q5; exact j5)
 refine I8 j5 (C8 (off := 4) (s := 1) (r := false) j3 kz j3 ?_)
 (apply D1 (v := .str _) j2; exact Q0; exact Q5; exact j5)
 refine dbd (cs := [.str _, .int _ _, .int _ _, .int _ _, _]) j5 (AN (es := [[.str _, .int _ _, .int _ _, .int _ _, _]]) j4 kz kb rfl rfl j3 ?_)
 refine dop (hI (n + 1 + 1 + t.lk.length + 1) _ _ (hkl.mono (fun a ha => by have q := hsl a ha; have q1 := q.1; have q2 := q.2; (simp (disch := (first | omega | assumption)) only [↓appC, ↓updN, ↓updS, ↓app0]))) (fun a ha => by have q := hsl a (by first | exact ha | exact congrArg some (Option.some.inj ha) | cases ha); omega) (by omega) (by exact Q0)) rfl rfl rfl rfl rfl rfl ?_
 refine H4 (v := .ptr _ _ _) j6 (C8 (off := 2) (s := 1) (r := false) j3 kz j3 ?_)
 (apply dst (u := .view _ _ _) rfl rfl rfl; exact Q0; exact Q5; rfl; rfl; rfl; rfl; exact kb; rfl; rfl; rfl)
 refine B3 14 [3, 0, 0, 3, 3, 0, 1, 0, 0, 1, 0, 0, 0, 0] [(4, 9)] j2 (by decide +kernel) ?_ ?_
 ·(simp [ClearL, ids, idV, fpV]; try omega)
 refine A1 (A2 (A0 (E0 j5 (G8 (v := .ptr _ _ _) j6 (C0 (off := 2) (s := 1) (r := false) j3 kz j3 ?_)))))
 (apply C6 (v := .view _ _ _) j2; exact Q0; exact Q5; exact j5)
 refine B5 j5 ?_
 (refine r0 ((C1 (b := ⟨((rwW t.lk W).take k ++ [.str r.nm, .int .i64 0, .int .i64 (-1), .int .i64 0, .nsl] :: (rwW t.lk W).drop k), 5, 29⟩) rfl rfl rfl rfl (by exact Q0) rfl (by omega) (by omega)).to (v' := .ptr (n + 1 + 1 + t.lk.length + 1 + 1) k 0) (by rw [H5])) rfl rfl rfl ?_)
 refine raP j5 (A3 (A1 (A2 (B4 (A2 (B9 [0, 1, 3, 7, 0, 16, 63, 127, 255, 511, 1023, 255, 2303, 8191, 16383, 32767, 65535] rfl (by decide +kernel) ?_))))))
 refine H3 j5 (H4 (v := .ptr _ _ _) j6 (C8 (off := 2) (s := 1) (r := false) j3 kz j3 ?_))
 (apply D1 (v := .int _ _) j2; exact Q0; exact Q5; exact j5)
 refine C8 (off := 0) (s := 1) (r := false) j3 kz j3 ?_
 (apply D1 (v := .int _ _) j2; exact Q0; exact Q5; exact j5)
 refine deq j6 (fun h => absurd h (by omega)) ?_
 intro h7_6
 refine H1 j5 (H3 j5 (H4 (v := .ptr _ _ _) j6 ?_))
 (apply N5 (vs := [.str _, .int _ _, .int _ _, .int _ _, _]) j2; exact Q0; exact Q5; rfl; exact kb; exact j4)
 refine C8 (off := 0) (s := 1) (r := false) j3 kz j3 ?_
 (apply D1 (v := .int _ _) j2; exact Q0; exact Q5; exact j5)
 apply T9 [n + 1 + 1 + t.lk.length + 1 + 1] (p66 ⟨r.nm, 0, -1, 0, []⟩ false r.cl (Nat.zero_le _)) rfl j2
 ·exact SnapL.cons _ _ _ _ (SnapC.agg (.cons _ _ _ _ (.str _) (.cons _ _ _ _ (.int _ _) (.cons _ _ _ _ (.int _ _) (.cons _ _ _ _ (.int _ _) (.cons _ _ _ _ .nslW .nil)))))) (SnapL.cons _ _ _ _ (.one _ _ (.int _ _)) SnapL.nil)
 ·rfl
 ·rfl
 ·rfl
 refine dge j6 (fun h => absurd h ((by show ¬ ((-1 : Int) ≥ 0); decide))) ?_
 intro h7_14
 refine F7 (e := false) j6 (P6 j5 (B3 17 [0, 0, 0, 1, 1, 0, 1, 0, 0, 0, 0, 1, 0, 1, 0, 0, 0] [] j2 (by decide +kernel) trivial ?_))
 refine A1 (wF rfl (A2 (A0 (E0 j5 (G8 (v := .ptr _ _ _) j6 (C0 (off := 2) (s := 1) (r := false) j3 kz j3 ?_))))))
 (apply C6 (v := .int _ _) j2; exact Q0; exact Q5; exact j5)
 refine I1 j6 ?_ (fun h => absurd (rfl) h)
 intro h9_4
 refine C4 j5 (A3 (A1 (wT rfl (A2 (A0 (E0 j5 (E0 j5 (C0 (off := 0) (s := 1) (r := false) j3 kz j3 ?_))))))))
 (apply C6 (v := .int _ _) j2; exact Q0; exact Q5; exact j5)
 refine C0 (off := 3) (s := 1) (r := false) j3 kz j3 ?_
 (apply C6 (v := .int _ _) j2; exact Q0; exact Q5; exact j5)
 refine L5 (o125 r.nm 0 (-1) 0 t.tm t.nx r.cl r.le .nsl (.view (n + 1 + 1 + t.lk.length + 1 + 1) 0 (t.lk.length + 1)) Ss rfl htm (by omega) hle (id := id) (lb := n + 1 + 1 + t.lk.length + 1 + 1) (j := k) (R := ((rwW t.lk W).take k ++ [.str r.nm, .int .i64 0, .int .i64 (-1), .int .i64 0, .nsl] :: (rwW t.lk W).drop k)) (by omega) (by omega) (by omega) (by exact Q0) hRI (by exact Q0) hrow) rfl rfl rfl rfl rfl rfl ?_
 refine A3 (A1 (A2 (A0 (E0 j5 (L5 (L1 r.nm t.nx r.cl (t.tm + r.le) 1 .nsl (lb := n + 1 + 1 + t.lk.length + 1 + 1) (j := k) (R := ((rwW t.lk W).take k ++ [.str r.nm, .int .i64 0, .int .i64 (-1), .int .i64 0, .nsl] :: (rwW t.lk W).drop k).set k [.str r.nm, .int .i64 t.nx, .int .i64 r.cl, .int .i64 (t.tm + r.le), .nsl]) (by omega) (by exact Q0) (List.getElem?_set_self hRI)) rfl rfl rfl rfl rfl rfl ?_)))))
 (apply D2 (u := .agg [.int _ _, .int _ _, .int _ _, .int _ _]) j3; exact Q0; exact Q5; rfl; rfl; rfl; rfl; exact kb; rfl; exact j2)
 refine A3 (A1 (B1 (A8 (B0 (D9 (A6 (A7 rfl (by exact Q0) j2 kb rfl) A9) (by (repeat first | exact Ch.refl _ | refine Ch.upd ?_ | refine Ch.app ?_ | assumption)) ?_)))))
 rw [V3 hh (by omega), hp]
 refine ⟨rfl, T.insS hk ⟨r.nm, t.nx, r.cl, t.tm + r.le, []⟩ .nsl (t.nx + 1) (n + 1 + 1 + t.lk.length + 1 + 1) (by omega) ⟨by omega, by omega⟩ ?_ ?_ (.inl ⟨rfl, rfl⟩) (fun a ha => by cases ha) ?_⟩
 ·exact Q0
 ·(simp (disch := (first | omega | assumption)) only [↓appC, ↓updN, ↓updS, ↓app0])
  exact congrArg (fun z => some (Blk.mk z 5 29)) (AC hA)
 ·intro a ha h1 h2
  (simp (disch := (first | omega | assumption)) only [↓appC, ↓updN, ↓updS, ↓app0])
theorem o134 (t : Tb) (r : Rq) (bd : Bd t r) {id : Nat} {Sl Ss : V} {W : Nat → V} {h : Heap} {n : Nat} (T : TabM t id Sl Ss W h n) : OpenM En 134 [.ptr id 0 0, .agg [.int .i64 r.cl, .int .i64 r.st, .int .i64 r.kd, .int .i64 r.le, .str r.nm]] h n (fun v g m => v = .agg (acqT t r).2.V ∧ TabS (acqT t r).1 id (OwnT id Sl Ss W t.lk.length) n h g m) := by
 rcases T.kl with ⟨rfl, k⟩ | ⟨lb, rfl, k⟩
 ·have hl : t.lk.length = 0 := by have := congrArg List.length k; rw [B6] at this; exact this
  exact o134z t r bd (fun e => by have := e.1; omega) rfl hl T
 ·rw [B6] at T ⊢
  by_cases hh : hit r.nm t.lk
  ·exact o134h t r bd hh rfl T
  ·exact o134x t r bd hh rfl T
open Go.V
set_option linter.unusedVariables false
set_option linter.unusedSimpArgs false
set_option maxRecDepth 20000
set_option maxHeartbeats 4000000
theorem L0 (c : Int) : ∀ ws : List Wt, wix c ws < ws.length
 | [] => by unfold wix; show (-1 : Int) < _; simp
 | w :: r => by
  have := L0 c r
  unfold wix
  simp only [List.length_cons]
  split
  ·omega
  ·split <;> omega
theorem o135w (w : V) (L : List Wt) (j : Int) (hj : 0 ≤ j ∧ j < L.length) (hL : L.length ≤ 1000) {h : Heap} {n : Nat} (hw : ∀ a, fpV w = some a → a < n) (k : IsL h w (L.map wtV) 2 123) :
  ∃ a : Nat × List (List V), fpV w = some a.1 ∧ V.Open En 135 [w, .int .i64 j, .int .i64 (j + 1)] h n (.view n a.2.length (L.length - 1)) [(a.1, none), (n, some ⟨a.2 ++ (L.take j.toNat ++ L.drop (j.toNat + 1)).map wtV, 2, 123⟩)] (n + 1) := by
 obtain ⟨i, rfl⟩ : ∃ i : Nat, j = i := ⟨j.toNat, by omega⟩
 rcases k with ⟨rfl, k⟩ | ⟨wb, pre, rfl, k⟩
 ·have : L = [] := List.map_eq_nil_iff.1 k
  subst this; simp at hj; omega
 ·refine ⟨(wb, pre), rfl, ?_⟩
  rw [List.length_map]
  exact o135m pre L i (by omega) hL (hw wb rfl) k
theorem TabM.ownLt {t : Tb} {id : Nat} {Sl Ss : V} {W : Nat → V} {h : Heap} {n : Nat} (T : TabM t id Sl Ss W h n) : ∀ a, OwnT id Sl Ss W t.lk.length a → a < n := fun a o => T.lt o
theorem TabS.out {t : Tb} {id : Nat} {F : Nat → Prop} {n n1 m m2 : Nat} {h h1 g g2 : Heap} (S : TabS t id F n1 h1 g m) (hF : ∀ a, F a → a < n) (hn : n ≤ n1) (hh : ∀ a, a < n → h1 a = h a) (hg : ∀ a, a < n ∨ n1 ≤ a → g2 a = g a) (hm : m ≤ m2) : TabS t id F n h g2 m2 := by
 obtain ⟨Sl, Ss, W, T, s1, s2, s3⟩ := S
 refine ⟨Sl, Ss, W, T.keep hm (fun a o => hg a ((s1 a o).imp (hF a) (fun x => x))), fun a o => (s1 a o).imp (fun x => x) (fun x => by omega), fun a ha hna => ?_, by omega⟩
 rw [hg a (.inl ha), s2 a (by omega) hna, hh a ha]
theorem doT_acq {t : Tb} {r : Rq} (h : r.kd = 1) : doT t r = acqT t r := if_pos h
theorem doT_no {t : Tb} {r : Rq} (h : ¬ r.kd = 1) (h2 : ¬ hit r.nm t.lk) : doT t r = (t, bareA 3) := by unfold doT; rw [if_neg h, if_neg h2]
theorem E4 {t : Tb} {r : Rq} (h : ¬ r.kd = 1) (h2 : hit r.nm t.lk) : doT t r = doL t (pos r.nm t.lk) r := by unfold doT; rw [if_neg h, if_pos h2]
theorem o111a (t : Tb) (r : Rq) (bd : Bd t r) {id : Nat} {Sl Ss : V} {W : Nat → V} {h : Heap} {n : Nat} (T : TabM t id Sl Ss W h n) (hk1 : r.kd = 1) : OpenM En 111 [.ptr id 0 0, .agg [.int .i64 r.cl, .int .i64 r.st, .int .i64 r.kd, .int .i64 r.le, .str r.nm]] h n (fun v g m => v = .agg (doT t r).2.V ∧ TabS (doT t r).1 id (OwnT id Sl Ss W t.lk.length) n h g m) := by
 have hid := T.idn
 have kid := T.kid
 have hl4 := bd.l4; have htm := bd.tm; have hnx := bd.nx; have hcl := bd.cl; have hle := bd.le
 refine OpenM.of_wp Try.func111 rfl kb ?_
 refine A2 (A0 (J6 (u := .agg [.int _ _, .int _ _, .int _ _, .int _ _, .str _]) j3 rfl j3 (H0 j6 (A3 (A1 (A2 (A2 (A0 (C0 (off := 2) (s := 1) (r := false) j3 kz j3 ?_)))))))))
 (apply C6 (v := .int _ _) j2; exact Q0; rfl; exact j5)
 refine I1 j6 ?_ (fun h => absurd (hk1) h)
 intro h1_2
 refine A3 (A1 (wT rfl (A2 (A0 (E0 j5 ?_)))))
 (apply F8 (vs := [.int _ _, .int _ _, .int _ _, .int _ _, .str _]) j2; exact Q0; rfl; rfl; exact kb; rfl; exact j3)
 refine I5 (o134 t r bd (T.ext (by omega) (fun a ha => by (simp (disch := (first | omega | assumption)) only [↓appC, ↓updN, ↓updS, ↓app0])))) rfl j5 ?_
 rintro _ g m ⟨rfl, S⟩ hc hle2
 have q2 : g (n + 1) = some ⟨[[.int .i64 0, .int .i64 0, .int .i64 0, .int .i64 0]], 4, 60⟩ := by
  obtain ⟨_, _, _, _, _, s2, _⟩ := S
  rw [s2 (n + 1) (by omega) (fun o => by have := T.lt o; omega)]
  (simp (disch := (first | omega | assumption)) only [↓appC, ↓updN, ↓updS, ↓app0]); rfl
 (apply D2 (u := .agg [.int _ _, .int _ _, .int _ _, .int _ _]) j3; exact Q0; rfl; rfl; rfl; rfl; rfl; exact kb; rfl; exact j2)
 refine A3 (A1 (B1 (B0 ?_)))
 refine D9 (A6 (A7 rfl (by exact Q0) j2 kb rfl) A9) (by first | exact Ch.refl _ | (refine Ch.app ?_; refine Ch.trans ?_ hc; (repeat first | exact Ch.refl _ | refine Ch.upd ?_ | refine Ch.app ?_ | assumption))) ?_
 rw [doT_acq hk1]
 refine ⟨rfl, S.out T.ownLt (by omega) (fun a ha => by (simp (disch := (first | omega | assumption)) only [↓appC, ↓updN, ↓updS, ↓app0])) (fun a ha => by (simp (disch := (first | omega | assumption)) only [↓appC, ↓updN, ↓updS, ↓app0])) (by omega)⟩
theorem o111n (t : Tb) (r : Rq) (bd : Bd t r) {id : Nat} {Sl Ss : V} {W : Nat → V} {h : Heap} {n : Nat} (T : TabM t id Sl Ss W h n) (hk1 : ¬ r.kd = 1) (hh : ¬ hit r.nm t.lk) : OpenM En 111 [.ptr id 0 0, .agg [.int .i64 r.cl, .int .i64 r.st, .int .i64 r.kd, .int .i64 r.le, .str r.nm]] h n (fun v g m => v = .agg (doT t r).2.V ∧ TabS (doT t r).1 id (OwnT id Sl Ss W t.lk.length) n h g m) := by
 have hid := T.idn
 have kid := T.kid
 have hl4 := bd.l4; have htm := bd.tm; have hnx := bd.nx; have hcl := bd.cl; have hle := bd.le
 have hf := fun (h : Heap) (n : Nat) (T : TabM t id Sl Ss W h n) => o48x t W r.nm bd.srt (by omega) hh T
 refine OpenM.of_wp Try.func111 rfl kb ?_
 refine A2 (A0 (J6 (u := .agg [.int _ _, .int _ _, .int _ _, .int _ _, .str _]) j3 rfl j3 (H0 j6 (A3 (A1 (A2 (A2 (A0 (C0 (off := 2) (s := 1) (r := false) j3 kz j3 ?_)))))))))
 (apply C6 (v := .int _ _) j2; exact Q0; rfl; exact j5)
 refine I1 j6 (fun h => absurd h (hk1)) ?_
 intro h1_2
 refine A3 (A1 (wF rfl (B2 (A1 (A2 (A0 (E0 j5 (C0 (off := 4) (s := 1) (r := false) j3 kz j3 ?_))))))))
 (apply C6 (v := .str _) j2; exact Q0; rfl; exact j5)
 refine L5 (hf _ _ (T.ext (by omega) (fun a ha => by (simp (disch := (first | omega | assumption)) only [↓appC, ↓updN, ↓updS, ↓app0])))) rfl rfl rfl rfl rfl rfl ?_
 refine rmT j5 (U4 j6 (U4 j6 (D7 j5 (C4 j5 (A3 (A1 (A2 (A2 (A0 (C7 j5 (D5 (c := false) j5 (A3 ?_))))))))))))
 refine A1 (wT rfl (A2 (A0 (rcl (p110 3) rfl j5 ?_))))
 (apply D2 (u := .agg [.int _ _, .int _ _, .int _ _, .int _ _]) j3; exact Q0; rfl; rfl; rfl; rfl; rfl; exact kb; rfl; exact j2)
 refine A3 (A1 (B1 (B0 (D9 (A6 (A7 rfl (by exact Q0) j2 kb rfl) A9) (by (repeat first | exact Ch.refl _ | refine Ch.upd ?_ | refine Ch.app ?_ | assumption)) ?_))))
 rw [doT_no hk1 hh]
 exact ⟨rfl, T.same (by omega) (fun a ha => by (simp (disch := (first | omega | assumption)) only [↓appC, ↓updN, ↓updS, ↓app0]))⟩
theorem o111h (t : Tb) (r : Rq) (bd : Bd t r) (hk1 : ¬ r.kd = 1) (hh : hit r.nm t.lk) {k : Nat} (hp : pos r.nm t.lk = k) {id lb : Nat} {Ss : V} {W : Nat → V} {h : Heap} {n : Nat} (T : TabM t id (.view lb 0 t.lk.length) Ss W h n) : OpenM En 111 [.ptr id 0 0, .agg [.int .i64 r.cl, .int .i64 r.st, .int .i64 r.kd, .int .i64 r.le, .str r.nm]] h n (fun v g m => v = .agg (doT t r).2.V ∧ TabS (doT t r).1 id (OwnT id (.view lb 0 t.lk.length) Ss W t.lk.length) n h g m) := by
 have hid := T.idn
 have kid := T.kid
 have hl4 := bd.l4; have htm := bd.tm; have hnx := bd.nx; have hcl := bd.cl; have hle := bd.le
 have hf := fun (h : Heap) (n : Nat) (T : TabM t id (.view lb 0 t.lk.length) Ss W h n) => o48y t W r.nm bd.srt (by omega) hh T
 rw [hp] at hf
 have hk : k < t.lk.length := by rw [← hp]; exact hh.1
 have hR : k < (rwW t.lk W).length := by rw [B6]; exact hk
 have hw4 := bd.w4 k hk
 have klb : h lb = some ⟨rwW t.lk W, 5, 29⟩ := by
  rcases T.kl with ⟨e, _⟩ | ⟨b, e, q⟩
  ·cases e
  ·injection e with e1 e2 e3; rw [e1]; exact q
 have hlb := T.fl lb rfl
 have hne := hlb.2
 have hkw := T.kw k hk
 have hfw := fun a ha => (T.fw k a hk ha)
 have hfw := fun a ha => (⟨(hfw a ha).1, (hfw a ha).2.1, fun e => (hfw a ha).2.2.1 (by rw [e]; rfl)⟩ : a < n ∧ a ≠ id ∧ a ≠ lb)
 have hrow := H2 (W := W) hk
 have hwl := bd.wl k hk
 generalize hl : t.lk.getD k Lk0 = l at hkw hrow hw4 hwl
 generalize hwk : W k = w at hkw hrow hfw
 have hwc := hkw.cell
 have hwx := L0 r.cl l.ws
 unfold Lk.V at hrow
 refine OpenM.of_wp Try.func111 rfl kb ?_
 refine A2 (A0 (J6 (u := .agg [.int _ _, .int _ _, .int _ _, .int _ _, .str _]) j3 rfl j3 (H0 j6 (A3 (A1 (A2 (A2 (A0 (C0 (off := 2) (s := 1) (r := false) j3 kz j3 ?_)))))))))
 (apply C6 (v := .int _ _) j2; exact Q0; exact Q1; exact j5)
 refine I1 j6 (fun h => absurd h (hk1)) ?_
 intro h1_2
 refine A3 (A1 (wF rfl (B2 (A1 (A2 (A0 (E0 j5 (C0 (off := 4) (s := 1) (r := false) j3 kz j3 ?_))))))))
 (apply C6 (v := .str _) j2; exact Q0; exact Q1; exact j5)
 refine L5 (hf _ _ (T.ext (by omega) (fun a ha => by (simp (disch := (first | omega | assumption)) only [↓appC, ↓updN, ↓updS, ↓app0])))) rfl rfl rfl rfl rfl rfl ?_
 refine rmT j5 (U4 j6 (U4 j6 (D7 j5 (C4 j5 (A3 (A1 (A2 (A2 (A0 (C7 j5 (D5 (c := true) j5 (A3 ?_))))))))))))
 refine A1 (wF rfl (B2 (A1 (A2 (A0 (E0 j5 (G8 (v := .ptr _ _ _) j6 (C0 (off := 2) (s := 1) (r := false) j3 kz j3 ?_))))))))
 (apply C6 (v := .view _ _ _) j2; exact Q0; exact Q1; exact j5)
 refine B5 j5 ?_
 (refine r0 ((C1 (b := ⟨rwW t.lk W, 5, 29⟩) rfl rfl rfl rfl (by exact Q0) rfl (by omega) (by omega)).to (v' := .ptr (lb) k 0) (by rw [H5])) rfl rfl rfl ?_)
 refine raP j5 (A3 (A1 (A2 (A2 (B9 [0, 1, 3, 0, 8, 31, 63] rfl (by decide +kernel) ?_)))))
 refine H3 j5 (H4 (v := .ptr _ _ _) j6 ?_)
 (apply N5 (vs := [.str _, .int _ _, .int _ _, .int _ _, _]) j2; exact Q0; exact Q1; rfl; exact kb; exact j4)
 refine C8 (off := 0) (s := 1) (r := false) j3 kz j3 ?_
 (apply D1 (v := .int _ _) j2; exact Q0; exact Q1; exact j5)
 apply T9 (lb :: (fpV w).toList) (p66 l false r.cl (by omega)) rfl j2
 ·exact SnapL.cons _ _ _ _ (SnapC.agg (.cons _ _ _ _ (.str _) (.cons _ _ _ _ (.int _ _) (.cons _ _ _ _ (.int _ _) (.cons _ _ _ _ (.int _ _) (.cons _ _ _ _ (D6 (hkw.mono (fun a ha => by have q := hfw a ha; (simp (disch := (first | omega | assumption)) only [↓appC, ↓updN, ↓updS, ↓app0]))) (fun a ha => by exact List.mem_cons_of_mem _ (Option.mem_toList.2 ha))) .nil)))))) (SnapL.cons _ _ _ _ (.one _ _ (.int _ _)) SnapL.nil)
 ·rfl
 ·rfl
 ·rfl
 refine daI j5 (B3 7 [0, 1, 1, 0, 1, 0, 0] [] j2 (by decide +kernel) trivial ?_)
 refine A1 (A2 (A0 (B5 j5 ?_)))
 refine rge j6 ?_ ?_ <;> intro h8_1
 ·refine C7 j5 (C0 (off := 2) (s := 1) (r := false) j3 kz j3 ?_)
  (apply C6 (v := .int _ _) j2; exact Q0; exact Q1; exact j5)
  refine I1 j6 ?_ ?_ <;> intro h8_5
  ·refine B7 (e := true) j6 (A3 (A1 (wT rfl (A2 (A0 (E0 j5 (E0 j5 (G8 (v := .ptr _ _ _) j6 (C0 (off := 4) (s := 1) (r := false) j3 kz j3 ?_)))))))))
   (apply C6 (v := w) j2; exact Q0; exact Q1; exact j5)
   refine B5 j5 (B5 j5 (D0 j3 ?_ ?_ j3 ?_))
   ·exact Q4
   ·exact Q4
   refine K1 (o135w w l.ws (wix r.cl l.ws) ⟨h8_1, L0 _ _⟩ (by omega) (fun a ha => by have q := hfw a ha; omega) (hkw.mono (fun a ha => by have q := hfw a ha; have q1 := q.1; have q2 := q.2.1; have q3 := q.2.2; (simp (disch := (first | omega | assumption)) only [↓appC, ↓updN, ↓updS, ↓app0])))) rfl j5 ?_
   rintro p h9_8
   try dsimp only at h9_8
   have qw := hfw p.1 h9_8
   have qw1 := qw.1; have qw2 := qw.2.1; have qw3 := qw.2.2
   refine G8 (v := .ptr _ _ _) j6 (C0 (off := 4) (s := 1) (r := false) j3 kz j3 ?_)
   (apply D2 (u := .view _ _ _) j3; exact Q0; exact Q1; rfl; rfl; rfl; rfl; exact kb; rfl; exact j2)
   refine A3 (A1 (A2 (A0 (E0 j5 (L5 (L1 l.nm l.tk l.hd l.ex 1 (.view (n + 1 + 1 + t.lk.length + 1) p.2.length (l.ws.length - 1)) (lb := lb) (j := k) (R := (rwW t.lk W).set k [.str l.nm, .int .i64 l.tk, .int .i64 l.hd, .int .i64 l.ex, .view (n + 1 + 1 + t.lk.length + 1) p.2.length (l.ws.length - 1)]) (by omega) (by exact Q0) (List.getElem?_set_self hR)) rfl rfl rfl rfl rfl rfl ?_)))))
   (apply D2 (u := .agg [.int _ _, .int _ _, .int _ _, .int _ _]) j3; exact Q0; exact Q1; rfl; rfl; rfl; rfl; exact kb; rfl; exact j2)
   refine A3 (A1 (B1 (B0 (D9 (A6 (A7 rfl (by exact Q0) j2 kb rfl) A9) (by (repeat first | exact Ch.refl _ | refine Ch.upd ?_ | refine Ch.app ?_ | assumption)) ?_))))
   have e : doT t r = (⟨t.tm, t.nx, t.lk.set k ⟨l.nm, l.tk, l.hd, l.ex, l.ws.take (wix r.cl l.ws).toNat ++ l.ws.drop ((wix r.cl l.ws).toNat + 1)⟩, t.sn⟩, tellL 1 l) := by
    rw [E4 hk1 hh, hp]; unfold doL; rw [hl, if_pos ⟨h8_1, h8_5⟩]
   rw [e]
   have hwx := L0 r.cl l.ws
   refine ⟨rfl, T.lockS hk rfl ⟨l.nm, l.tk, l.hd, l.ex, l.ws.take (wix r.cl l.ws).toNat ++ l.ws.drop ((wix r.cl l.ws).toNat + 1)⟩ (.view (n + 1 + 1 + t.lk.length + 1) p.2.length (l.ws.length - 1)) t.nx (by omega) ?_ ?_ ?_ ?_ ?_⟩
   ·exact Q0
   ·(simp (disch := (first | omega | assumption)) only [↓appC, ↓updN, ↓updS, ↓app0]); rfl
   ·refine .inr ⟨n + 1 + 1 + t.lk.length + 1, p.2, ?_, ?_⟩
    ·rw [List.length_map, List.length_append, List.length_take, List.length_drop]; congr 1; omega
    ·(simp (disch := (first | omega | assumption)) only [↓appC, ↓updN, ↓updS, ↓app0])
   ·intro a ha; cases ha; exact ⟨by omega, .inr (by omega)⟩
   ·intro a ha h1 h2 h3
    have h4 : a ≠ p.1 := fun e => h3 (by rw [hwk, e]; exact h9_8)
    (simp (disch := (first | omega | assumption)) only [↓appC, ↓updN, ↓updS, ↓app0])
  ·refine B7 (e := false) j6 (A3 (A1 (wF rfl (B2 (A1 (A2 (B4 (A2 (A0 (E0 j5 (G8 (v := .ptr _ _ _) j6 (C0 (off := 2) (s := 1) (r := false) j3 kz j3 ?_))))))))))))
   (apply C6 (v := .int _ _) j2; exact Q0; exact Q1; exact j5)
   refine I1 j6 ?_ ?_ <;> intro h12_4
   ·refine C4 j5 (A3 (A1 (wT rfl (A2 (A0 (E0 j5 (L5 (L1 l.nm l.tk l.hd l.ex 4 w (lb := lb) (j := k) (R := (rwW t.lk W)) ?_ ?_ ?_) rfl rfl rfl rfl rfl rfl ?_)))))))
    ·exact J9
    ·exact J9
    ·exact J9
    (apply D2 (u := .agg [.int _ _, .int _ _, .int _ _, .int _ _]) j3; exact Q0; exact Q1; rfl; rfl; rfl; rfl; exact kb; rfl; exact j2)
    refine A3 (A1 (B1 (A8 (B0 (D9 (A6 (A7 rfl (by exact Q0) j2 kb rfl) A9) (by (repeat first | exact Ch.refl _ | refine Ch.upd ?_ | refine Ch.app ?_ | assumption)) ?_)))))
    have e : doT t r = (t, tellL 4 l) := by
     rw [E4 hk1 hh, hp]; unfold doL; rw [hl, if_neg (fun e => by have e1 := e.1; have e2 := e.2; first | exact h8_5 e2 | exact h8_1 e1), if_pos h12_4]
    rw [e]
    exact ⟨rfl, T.same (by omega) (fun a ha => by (simp (disch := (first | omega | assumption)) only [↓appC, ↓updN, ↓updS, ↓app0]))⟩
   ·refine C4 j5 (A3 (A1 (wF rfl (A2 (B9 [0, 1, 3, 7, 15, 31, 63, 127, 15, 271, 1023, 2047, 4095] rfl (by decide +kernel) ?_)))))
    refine C8 (off := 2) (s := 1) (r := false) j3 kz j3 ?_
    (apply D1 (v := .int _ _) j2; exact Q0; exact Q1; exact j5)
    refine deq j6 ?_ ?_ <;> intro h14_2
    ·refine H1 j5 (A5 j3 (A5 j3 (A5 j3 (A5 j3 (A5 j3 (A5 j3 (A5 j3 (F7 (e := true) j6 (P6 j5 (B3 13 [0, 0, 0, 0, 0, 0, 0, 0, 0, 0, 0, 1, 0] [] j2 (by decide +kernel) trivial ?_))))))))))
     refine A1 (wT rfl (A2 (A0 (E0 j5 (L5 (L1 l.nm l.tk l.hd l.ex 5 w (lb := lb) (j := k) (R := (rwW t.lk W)) ?_ ?_ ?_) rfl rfl rfl rfl rfl rfl ?_)))))
     ·exact J9
     ·exact J9
     ·exact J9
     (apply D2 (u := .agg [.int _ _, .int _ _, .int _ _, .int _ _]) j3; exact Q0; exact Q1; rfl; rfl; rfl; rfl; exact kb; rfl; exact j2)
     refine A3 (A1 (B1 (A8 (B0 (D9 (A6 (A7 rfl (by exact Q0) j2 kb rfl) A9) (by (repeat first | exact Ch.refl _ | refine Ch.upd ?_ | refine Ch.app ?_ | assumption)) ?_)))))
     have e : doT t r = (t, tellL 5 l) := by
      rw [E4 hk1 hh, hp]; unfold doL; rw [hl, if_neg (fun e => by have e1 := e.1; have e2 := e.2; first | exact h8_5 e2 | exact h8_1 e1), if_neg h12_4]; exact if_pos (by first | exact .inl h14_2 | exact .inr h14_10)
     rw [e]
     exact ⟨rfl, T.same (by omega) (fun a ha => by (simp (disch := (first | omega | assumption)) only [↓appC, ↓updN, ↓updS, ↓app0]))⟩
    ·refine H1 j5 (H3 j5 (H4 (v := .ptr _ _ _) j6 (C8 (off := 2) (s := 1) (r := false) j3 kz j3 ?_)))
     (apply D1 (v := .int _ _) j2; exact Q0; exact Q1; exact j5)
     refine C8 (off := 0) (s := 1) (r := false) j3 kz j3 ?_
     (apply D1 (v := .int _ _) j2; exact Q0; exact Q1; exact j5)
     refine dne j6 ?_ ?_ <;> intro h14_10
     ·refine F7 (e := true) j6 (P6 j5 (B3 13 [0, 0, 0, 1, 0, 1, 0, 0, 0, 0, 0, 1, 0] [] j2 (by decide +kernel) trivial ?_))
      refine A1 (wT rfl (A2 (A0 (E0 j5 (L5 (L1 l.nm l.tk l.hd l.ex 5 w (lb := lb) (j := k) (R := (rwW t.lk W)) ?_ ?_ ?_) rfl rfl rfl rfl rfl rfl ?_)))))
      ·exact J9
      ·exact J9
      ·exact J9
      (apply D2 (u := .agg [.int _ _, .int _ _, .int _ _, .int _ _]) j3; exact Q0; exact Q1; rfl; rfl; rfl; rfl; exact kb; rfl; exact j2)
      refine A3 (A1 (B1 (A8 (B0 (D9 (A6 (A7 rfl (by exact Q0) j2 kb rfl) A9) (by (repeat first | exact Ch.refl _ | refine Ch.upd ?_ | refine Ch.app ?_ | assumption)) ?_)))))
      have e : doT t r = (t, tellL 5 l) := by
       rw [E4 hk1 hh, hp]; unfold doL; rw [hl, if_neg (fun e => by have e1 := e.1; have e2 := e.2; first | exact h8_5 e2 | exact h8_1 e1), if_neg h12_4]; exact if_pos (by first | exact .inl h14_2 | exact .inr h14_10)
      rw [e]
      exact ⟨rfl, T.same (by omega) (fun a ha => by (simp (disch := (first | omega | assumption)) only [↓appC, ↓updN, ↓updS, ↓app0]))⟩
     ·refine F7 (e := false) j6 (P6 j5 (B3 13 [0, 0, 0, 1, 0, 1, 0, 0, 0, 0, 0, 1, 0] [] j2 (by decide +kernel) trivial ?_))
      refine A1 (wF rfl (A2 (A0 (C0 (off := 2) (s := 1) (r := false) j3 kz j3 ?_))))
      (apply C6 (v := .int _ _) j2; exact Q0; exact Q1; exact j5)
      refine I1 j6 ?_ ?_ <;> intro h16_2
      ·refine C4 j5 (A3 (A1 (wT rfl (B9 [0, 0, 2, 6, 14, 0, 32, 126, 255, 511, 1023] rfl (by decide +kernel) ?_))))
       refine H3 j5 (H3 j5 (H4 (v := .ptr _ _ _) j6 (C8 (off := 0) (s := 1) (r := false) j3 kz j3 ?_)))
       (apply D1 (v := .int _ _) j2; exact Q0; exact Q1; exact j5)
       refine C8 (off := 3) (s := 1) (r := false) j3 kz j3 ?_
       (apply D1 (v := .int _ _) j2; exact Q0; exact Q1; exact j5)
       refine K8 j3 ?_ ?_ j3 ?_
       ·exact Q4
       ·exact Q4
       refine H4 (v := .ptr _ _ _) j6 (C8 (off := 3) (s := 1) (r := false) j3 kz j3 ?_)
       (apply dst (u := .int _ _) rfl rfl rfl; exact Q0; exact Q1; rfl; rfl; rfl; rfl; exact kb; rfl; rfl; rfl)
       refine B3 11 [3, 0, 0, 0, 1, 0, 1, 0, 0, 0, 0] [] j2 (by decide +kernel) trivial ?_
       refine C2 (A1 (A2 (A0 (E0 j5 ?_))))
       (first | (refine L5 (L1 l.nm l.tk l.hd (t.tm + r.le) 1 w (lb := lb) (j := k) (R := (rwW t.lk W).set k [.str l.nm, .int .i64 l.tk, .int .i64 l.hd, .int .i64 (t.tm + r.le), w]) (by omega) (by exact Q0) (List.getElem?_set_self hR)) rfl rfl rfl rfl rfl rfl ?_) | (refine L5 (L1 (frL t.tm t.nx l).nm (frL t.tm t.nx l).tk (frL t.tm t.nx l).hd (frL t.tm t.nx l).ex 1 w1 (lb := lb) (j := k) (R := (rwW t.lk W).set k ((frL t.tm t.nx l).V w1)) (by omega) (by exact Q0) (List.getElem?_set_self hR)) rfl rfl rfl rfl rfl rfl ?_))
       (apply D2 (u := .agg [.int _ _, .int _ _, .int _ _, .int _ _]) j3; exact Q0; exact Q1; rfl; rfl; rfl; rfl; exact kb; rfl; exact j2)
       refine A3 (A1 (B1 (D9 (A6 (A7 rfl (by exact Q0) j2 kb rfl) A9) (by (repeat first | exact Ch.refl _ | refine Ch.upd ?_ | refine Ch.app ?_ | assumption)) ?_)))
       first
       |(have e : doT t r = (⟨t.tm, t.nx, t.lk.set k ⟨l.nm, l.tk, l.hd, t.tm + r.le, l.ws⟩, t.sn⟩, ⟨1, l.tk, l.hd, t.tm + r.le⟩) := by
          rw [E4 hk1 hh, hp]; unfold doL; rw [hl, if_neg (fun e => by have e1 := e.1; have e2 := e.2; first | exact h8_5 e2 | exact h8_1 e1), if_neg h12_4, if_neg (fun e => e.elim h14_2 (fun q => h14_10 q)), if_pos h16_2]
         rw [e]
         refine ⟨rfl, T.lockS hk rfl ⟨l.nm, l.tk, l.hd, t.tm + r.le, l.ws⟩ w t.nx (by omega) ?_ ?_ (hkw.mono (fun a ha => by have q := hfw a ha; have q1 := q.1; have q2 := q.2.1; have q3 := q.2.2; (simp (disch := (first | omega | assumption)) only [↓appC, ↓updN, ↓updS, ↓app0]))) (fun a ha => by have q := hfw a ha; exact ⟨by omega, .inl (by rw [hwk]; exact ha)⟩) (fun a ha h1 h2 h3 => by (simp (disch := (first | omega | assumption)) only [↓appC, ↓updN, ↓updS, ↓app0]))⟩
         ·exact Q0
         ·(simp (disch := (first | omega | assumption)) only [↓appC, ↓updN, ↓updS, ↓app0]); rfl)
       |(have e : doT t r = (⟨t.tm, frN t.nx l, t.lk.set k (frL t.tm t.nx l), t.sn⟩, tellL 1 (frL t.tm t.nx l)) := by
          rw [E4 hk1 hh, hp]; unfold doL; rw [hl, if_neg (fun e => by have e1 := e.1; have e2 := e.2; first | exact h8_5 e2 | exact h8_1 e1), if_neg h12_4, if_neg (fun e => e.elim h14_2 (fun q => h14_10 q)), if_neg h16_2]
         rw [e]
         refine ⟨rfl, T.lockS hk rfl (frL t.tm t.nx l) w1 (frN t.nx l) (by omega) ?_ ?_ (h11_2.2.mono (fun a ha => by rw [h11_2.1] at ha; have q := hfw a ha; have q1 := q.1; have q2 := q.2.1; have q3 := q.2.2; (simp (disch := (first | omega | assumption)) only [↓appC, ↓updN, ↓updS, ↓app0]))) (fun a ha => by rw [h11_2.1] at ha; have q := hfw a ha; exact ⟨by omega, .inl (by rw [hwk]; exact ha)⟩) (fun a ha h1 h2 h3 => by (simp (disch := (first | omega | assumption)) only [↓appC, ↓updN, ↓updS, ↓app0]))⟩
         ·exact Q0
         ·(simp (disch := (first | omega | assumption)) only [↓appC, ↓updN, ↓updS, ↓app0]); first | done | rfl)
      ·refine C4 j5 (A3 (A1 (wF rfl (A0 (E0 j5 (E0 j5 ?_))))))
       refine K1 (o96w l w t.tm t.nx (.view lb 0 t.lk.length) Ss htm (by omega) hwl (id := id) (lb := lb) (j := k) (R := rwW t.lk W) (by omega) (by omega) hne (by exact Q0) hR (by exact Q0) hrow (hkw.mono (fun a ha => by have q := hfw a ha; have q1 := q.1; have q2 := q.2.1; have q3 := q.2.2; (simp (disch := (first | omega | assumption)) only [↓appC, ↓updN, ↓updS, ↓app0]))) (fun a ha => by have q := hfw a ha; exact ⟨by omega, q.2.2, q.2.1⟩)) rfl j5 ?_
       rintro w1 h11_2
       try dsimp only at h11_2
       refine A3 (C2 (A1 (A2 (A0 (E0 j5 ?_)))))
       (first | (refine L5 (L1 l.nm l.tk l.hd (t.tm + r.le) 1 w (lb := lb) (j := k) (R := (rwW t.lk W).set k [.str l.nm, .int .i64 l.tk, .int .i64 l.hd, .int .i64 (t.tm + r.le), w]) (by omega) (by exact Q0) (List.getElem?_set_self hR)) rfl rfl rfl rfl rfl rfl ?_) | (refine L5 (L1 (frL t.tm t.nx l).nm (frL t.tm t.nx l).tk (frL t.tm t.nx l).hd (frL t.tm t.nx l).ex 1 w1 (lb := lb) (j := k) (R := (rwW t.lk W).set k ((frL t.tm t.nx l).V w1)) (by omega) (by exact Q0) (List.getElem?_set_self hR)) rfl rfl rfl rfl rfl rfl ?_))
       (apply D2 (u := .agg [.int _ _, .int _ _, .int _ _, .int _ _]) j3; exact Q0; exact Q1; rfl; rfl; rfl; rfl; exact kb; rfl; exact j2)
       refine A3 (A1 (B1 (D9 (A6 (A7 rfl (by exact Q0) j2 kb rfl) A9) (by (repeat first | exact Ch.refl _ | refine Ch.upd ?_ | refine Ch.app ?_ | assumption)) ?_)))
       first
       |(have e : doT t r = (⟨t.tm, t.nx, t.lk.set k ⟨l.nm, l.tk, l.hd, t.tm + r.le, l.ws⟩, t.sn⟩, ⟨1, l.tk, l.hd, t.tm + r.le⟩) := by
          rw [E4 hk1 hh, hp]; unfold doL; rw [hl, if_neg (fun e => by have e1 := e.1; have e2 := e.2; first | exact h8_5 e2 | exact h8_1 e1), if_neg h12_4, if_neg (fun e => e.elim h14_2 (fun q => h14_10 q)), if_pos h16_2]
         rw [e]
         refine ⟨rfl, T.lockS hk rfl ⟨l.nm, l.tk, l.hd, t.tm + r.le, l.ws⟩ w t.nx (by omega) ?_ ?_ (hkw.mono (fun a ha => by have q := hfw a ha; have q1 := q.1; have q2 := q.2.1; have q3 := q.2.2; (simp (disch := (first | omega | assumption)) only [↓appC, ↓updN, ↓updS, ↓app0]))) (fun a ha => by have q := hfw a ha; exact ⟨by omega, .inl (by rw [hwk]; exact ha)⟩) (fun a ha h1 h2 h3 => by (simp (disch := (first | omega | assumption)) only [↓appC, ↓updN, ↓updS, ↓app0]))⟩
         ·exact Q0
         ·(simp (disch := (first | omega | assumption)) only [↓appC, ↓updN, ↓updS, ↓app0]); rfl)
       |(have e : doT t r = (⟨t.tm, frN t.nx l, t.lk.set k (frL t.tm t.nx l), t.sn⟩, tellL 1 (frL t.tm t.nx l)) := by
          rw [E4 hk1 hh, hp]; unfold doL; rw [hl, if_neg (fun e => by have e1 := e.1; have e2 := e.2; first | exact h8_5 e2 | exact h8_1 e1), if_neg h12_4, if_neg (fun e => e.elim h14_2 (fun q => h14_10 q)), if_neg h16_2]
         rw [e]
         refine ⟨rfl, T.lockS hk rfl (frL t.tm t.nx l) w1 (frN t.nx l) (by omega) ?_ ?_ (h11_2.2.mono (fun a ha => by rw [h11_2.1] at ha; have q := hfw a ha; have q1 := q.1; have q2 := q.2.1; have q3 := q.2.2; (simp (disch := (first | omega | assumption)) only [↓appC, ↓updN, ↓updS, ↓app0]))) (fun a ha => by rw [h11_2.1] at ha; have q := hfw a ha; exact ⟨by omega, .inl (by rw [hwk]; exact ha)⟩) (fun a ha h1 h2 h3 => by (simp (disch := (first | omega | assumption)) only [↓appC, ↓updN, ↓updS, ↓app0]))⟩
         ·exact Q0
         ·(simp (disch := (first | omega | assumption)) only [↓appC, ↓updN, ↓updS, ↓app0]); first | done | rfl)
 ·refine C7 j5 (A4 j3 (A4 j3 (A4 j3 (B7 (e := false) j6 (A3 (A1 (wF rfl (B2 (A1 (A2 (B4 (A2 ?_))))))))))))
  refine A0 (E0 j5 (G8 (v := .ptr _ _ _) j6 (C0 (off := 2) (s := 1) (r := false) j3 kz j3 ?_)))
  (apply C6 (v := .int _ _) j2; exact Q0; exact Q1; exact j5)
  refine I1 j6 ?_ ?_ <;> intro h12_4
  ·refine C4 j5 (A3 (A1 (wT rfl (A2 (A0 (E0 j5 (L5 (L1 l.nm l.tk l.hd l.ex 4 w (lb := lb) (j := k) (R := (rwW t.lk W)) ?_ ?_ ?_) rfl rfl rfl rfl rfl rfl ?_)))))))
   ·exact J9
   ·exact J9
   ·exact J9
   (apply D2 (u := .agg [.int _ _, .int _ _, .int _ _, .int _ _]) j3; exact Q0; exact Q1; rfl; rfl; rfl; rfl; exact kb; rfl; exact j2)
   refine A3 (A1 (B1 (A8 (B0 (D9 (A6 (A7 rfl (by exact Q0) j2 kb rfl) A9) (by (repeat first | exact Ch.refl _ | refine Ch.upd ?_ | refine Ch.app ?_ | assumption)) ?_)))))
   have e : doT t r = (t, tellL 4 l) := by
    rw [E4 hk1 hh, hp]; unfold doL; rw [hl, if_neg (fun e => by have e1 := e.1; have e2 := e.2; first | exact h8_5 e2 | exact h8_1 e1), if_pos h12_4]
   rw [e]
   exact ⟨rfl, T.same (by omega) (fun a ha => by (simp (disch := (first | omega | assumption)) only [↓appC, ↓updN, ↓updS, ↓app0]))⟩
  ·refine C4 j5 (A3 (A1 (wF rfl (A2 (B9 [0, 1, 3, 7, 15, 31, 63, 127, 15, 271, 1023, 2047, 4095] rfl (by decide +kernel) ?_)))))
   refine C8 (off := 2) (s := 1) (r := false) j3 kz j3 ?_
   (apply D1 (v := .int _ _) j2; exact Q0; exact Q1; exact j5)
   refine deq j6 ?_ ?_ <;> intro h14_2
   ·refine H1 j5 (A5 j3 (A5 j3 (A5 j3 (A5 j3 (A5 j3 (A5 j3 (A5 j3 (F7 (e := true) j6 (P6 j5 (B3 13 [0, 0, 0, 0, 0, 0, 0, 0, 0, 0, 0, 1, 0] [] j2 (by decide +kernel) trivial ?_))))))))))
    refine A1 (wT rfl (A2 (A0 (E0 j5 (L5 (L1 l.nm l.tk l.hd l.ex 5 w (lb := lb) (j := k) (R := (rwW t.lk W)) ?_ ?_ ?_) rfl rfl rfl rfl rfl rfl ?_)))))
    ·exact J9
    ·exact J9
    ·exact J9
    (apply D2 (u := .agg [.int _ _, .int _ _, .int _ _, .int _ _]) j3; exact Q0; exact Q1; rfl; rfl; rfl; rfl; exact kb; rfl; exact j2)
    refine A3 (A1 (B1 (A8 (B0 (D9 (A6 (A7 rfl (by exact Q0) j2 kb rfl) A9) (by (repeat first | exact Ch.refl _ | refine Ch.upd ?_ | refine Ch.app ?_ | assumption)) ?_)))))
    have e : doT t r = (t, tellL 5 l) := by
     rw [E4 hk1 hh, hp]; unfold doL; rw [hl, if_neg (fun e => by have e1 := e.1; have e2 := e.2; first | exact h8_5 e2 | exact h8_1 e1), if_neg h12_4]; exact if_pos (by first | exact .inl h14_2 | exact .inr h14_10)
    rw [e]
    exact ⟨rfl, T.same (by omega) (fun a ha => by (simp (disch := (first | omega | assumption)) only [↓appC, ↓updN, ↓updS, ↓app0]))⟩
   ·refine H1 j5 (H3 j5 (H4 (v := .ptr _ _ _) j6 (C8 (off := 2) (s := 1) (r := false) j3 kz j3 ?_)))
    (apply D1 (v := .int _ _) j2; exact Q0; exact Q1; exact j5)
    refine C8 (off := 0) (s := 1) (r := false) j3 kz j3 ?_
    (apply D1 (v := .int _ _) j2; exact Q0; exact Q1; exact j5)
    refine dne j6 ?_ ?_ <;> intro h14_10
    ·refine F7 (e := true) j6 (P6 j5 (B3 13 [0, 0, 0, 1, 0, 1, 0, 0, 0, 0, 0, 1, 0] [] j2 (by decide +kernel) trivial ?_))
     refine A1 (wT rfl (A2 (A0 (E0 j5 (L5 (L1 l.nm l.tk l.hd l.ex 5 w (lb := lb) (j := k) (R := (rwW t.lk W)) ?_ ?_ ?_) rfl rfl rfl rfl rfl rfl ?_)))))
     ·exact J9
     ·exact J9
     ·exact J9
     (apply D2 (u := .agg [.int _ _, .int _ _, .int _ _, .int _ _]) j3; exact Q0; exact Q1; rfl; rfl; rfl; rfl; exact kb; rfl; exact j2)
     refine A3 (A1 (B1 (A8 (B0 (D9 (A6 (A7 rfl (by exact Q0) j2 kb rfl) A9) (by (repeat first | exact Ch.refl _ | refine Ch.upd ?_ | refine Ch.app ?_ | assumption)) ?_)))))
     have e : doT t r = (t, tellL 5 l) := by
      rw [E4 hk1 hh, hp]; unfold doL; rw [hl, if_neg (fun e => by have e1 := e.1; have e2 := e.2; first | exact h8_5 e2 | exact h8_1 e1), if_neg h12_4]; exact if_pos (by first | exact .inl h14_2 | exact .inr h14_10)
     rw [e]
     exact ⟨rfl, T.same (by omega) (fun a ha => by (simp (disch := (first | omega | assumption)) only [↓appC, ↓updN, ↓updS, ↓app0]))⟩
    ·refine F7 (e := false) j6 (P6 j5 (B3 13 [0, 0, 0, 1, 0, 1, 0, 0, 0, 0, 0, 1, 0] [] j2 (by decide +kernel) trivial ?_))
     refine A1 (wF rfl (A2 (A0 (C0 (off := 2) (s := 1) (r := false) j3 kz j3 ?_))))
     (apply C6 (v := .int _ _) j2; exact Q0; exact Q1; exact j5)
     refine I1 j6 ?_ ?_ <;> intro h16_2
     ·refine C4 j5 (A3 (A1 (wT rfl (B9 [0, 0, 2, 6, 14, 0, 32, 126, 255, 511, 1023] rfl (by decide +kernel) ?_))))
      refine H3 j5 (H3 j5 (H4 (v := .ptr _ _ _) j6 (C8 (off := 0) (s := 1) (r := false) j3 kz j3 ?_)))
      (apply D1 (v := .int _ _) j2; exact Q0; exact Q1; exact j5)
      refine C8 (off := 3) (s := 1) (r := false) j3 kz j3 ?_
      (apply D1 (v := .int _ _) j2; exact Q0; exact Q1; exact j5)
      refine K8 j3 ?_ ?_ j3 ?_
      ·exact Q4
      ·exact Q4
      refine H4 (v := .ptr _ _ _) j6 (C8 (off := 3) (s := 1) (r := false) j3 kz j3 ?_)
      (apply dst (u := .int _ _) rfl rfl rfl; exact Q0; exact Q1; rfl; rfl; rfl; rfl; exact kb; rfl; rfl; rfl)
      refine B3 11 [3, 0, 0, 0, 1, 0, 1, 0, 0, 0, 0] [] j2 (by decide +kernel) trivial ?_
      refine C2 (A1 (A2 (A0 (E0 j5 ?_))))
      (first | (refine L5 (L1 l.nm l.tk l.hd (t.tm + r.le) 1 w (lb := lb) (j := k) (R := (rwW t.lk W).set k [.str l.nm, .int .i64 l.tk, .int .i64 l.hd, .int .i64 (t.tm + r.le), w]) (by omega) (by exact Q0) (List.getElem?_set_self hR)) rfl rfl rfl rfl rfl rfl ?_) | (refine L5 (L1 (frL t.tm t.nx l).nm (frL t.tm t.nx l).tk (frL t.tm t.nx l).hd (frL t.tm t.nx l).ex 1 w1 (lb := lb) (j := k) (R := (rwW t.lk W).set k ((frL t.tm t.nx l).V w1)) (by omega) (by exact Q0) (List.getElem?_set_self hR)) rfl rfl rfl rfl rfl rfl ?_))
      (apply D2 (u := .agg [.int _ _, .int _ _, .int _ _, .int _ _]) j3; exact Q0; exact Q1; rfl; rfl; rfl; rfl; exact kb; rfl; exact j2)
      refine A3 (A1 (B1 (D9 (A6 (A7 rfl (by exact Q0) j2 kb rfl) A9) (by (repeat first | exact Ch.refl _ | refine Ch.upd ?_ | refine Ch.app ?_ | assumption)) ?_)))
      first
      |(have e : doT t r = (⟨t.tm, t.nx, t.lk.set k ⟨l.nm, l.tk, l.hd, t.tm + r.le, l.ws⟩, t.sn⟩, ⟨1, l.tk, l.hd, t.tm + r.le⟩) := by
         rw [E4 hk1 hh, hp]; unfold doL; rw [hl, if_neg (fun e => by have e1 := e.1; have e2 := e.2; first | exact h8_5 e2 | exact h8_1 e1), if_neg h12_4, if_neg (fun e => e.elim h14_2 (fun q => h14_10 q)), if_pos h16_2]
        rw [e]
        refine ⟨rfl, T.lockS hk rfl ⟨l.nm, l.tk, l.hd, t.tm + r.le, l.ws⟩ w t.nx (by omega) ?_ ?_ (hkw.mono (fun a ha => by have q := hfw a ha; have q1 := q.1; have q2 := q.2.1; have q3 := q.2.2; (simp (disch := (first | omega | assumption)) only [↓appC, ↓updN, ↓updS, ↓app0]))) (fun a ha => by have q := hfw a ha; exact ⟨by omega, .inl (by rw [hwk]; exact ha)⟩) (fun a ha h1 h2 h3 => by (simp (disch := (first | omega | assumption)) only [↓appC, ↓updN, ↓updS, ↓app0]))⟩
        ·exact Q0
        ·(simp (disch := (first | omega | assumption)) only [↓appC, ↓updN, ↓updS, ↓app0]); rfl)
      |(have e : doT t r = (⟨t.tm, frN t.nx l, t.lk.set k (frL t.tm t.nx l), t.sn⟩, tellL 1 (frL t.tm t.nx l)) := by
         rw [E4 hk1 hh, hp]; unfold doL; rw [hl, if_neg (fun e => by have e1 := e.1; have e2 := e.2; first | exact h8_5 e2 | exact h8_1 e1), if_neg h12_4, if_neg (fun e => e.elim h14_2 (fun q => h14_10 q)), if_neg h16_2]
        rw [e]
        refine ⟨rfl, T.lockS hk rfl (frL t.tm t.nx l) w1 (frN t.nx l) (by omega) ?_ ?_ (h11_2.2.mono (fun a ha => by rw [h11_2.1] at ha; have q := hfw a ha; have q1 := q.1; have q2 := q.2.1; have q3 := q.2.2; (simp (disch := (first | omega | assumption)) only [↓appC, ↓updN, ↓updS, ↓app0]))) (fun a ha => by rw [h11_2.1] at ha; have q := hfw a ha; exact ⟨by omega, .inl (by rw [hwk]; exact ha)⟩) (fun a ha h1 h2 h3 => by (simp (disch := (first | omega | assumption)) only [↓appC, ↓updN, ↓updS, ↓app0]))⟩
        ·exact Q0
        ·(simp (disch := (first | omega | assumption)) only [↓appC, ↓updN, ↓updS, ↓app0]); first | done | rfl)
     ·refine C4 j5 (A3 (A1 (wF rfl (A0 (E0 j5 (E0 j5 ?_))))))
      refine K1 (o96w l w t.tm t.nx (.view lb 0 t.lk.length) Ss htm (by omega) hwl (id := id) (lb := lb) (j := k) (R := rwW t.lk W) (by omega) (by omega) hne (by exact Q0) hR (by exact Q0) hrow (hkw.mono (fun a ha => by have q := hfw a ha; have q1 := q.1; have q2 := q.2.1; have q3 := q.2.2; (simp (disch := (first | omega | assumption)) only [↓appC, ↓updN, ↓updS, ↓app0]))) (fun a ha => by have q := hfw a ha; exact ⟨by omega, q.2.2, q.2.1⟩)) rfl j5 ?_
      rintro w1 h11_2
      try dsimp only at h11_2
      refine A3 (C2 (A1 (A2 (A0 (E0 j5 ?_)))))
      (first | (refine L5 (L1 l.nm l.tk l.hd (t.tm + r.le) 1 w (lb := lb) (j := k) (R := (rwW t.lk W).set k [.str l.nm, .int .i64 l.tk, .int .i64 l.hd, .int .i64 (t.tm + r.le), w]) (by omega) (by exact Q0) (List.getElem?_set_self hR)) rfl rfl rfl rfl rfl rfl ?_) | (refine L5 (L1 (frL t.tm t.nx l).nm (frL t.tm t.nx l).tk (frL t.tm t.nx l).hd (frL t.tm t.nx l).ex 1 w1 (lb := lb) (j := k) (R := (rwW t.lk W).set k ((frL t.tm t.nx l).V w1)) (by omega) (by exact Q0) (List.getElem?_set_self hR)) rfl rfl rfl rfl rfl rfl ?_))
      (apply D2 (u := .agg [.int _ _, .int _ _, .int _ _, .int _ _]) j3; exact Q0; exact Q1; rfl; rfl; rfl; rfl; exact kb; rfl; exact j2)
      refine A3 (A1 (B1 (D9 (A6 (A7 rfl (by exact Q0) j2 kb rfl) A9) (by (repeat first | exact Ch.refl _ | refine Ch.upd ?_ | refine Ch.app ?_ | assumption)) ?_)))
      first
      |(have e : doT t r = (⟨t.tm, t.nx, t.lk.set k ⟨l.nm, l.tk, l.hd, t.tm + r.le, l.ws⟩, t.sn⟩, ⟨1, l.tk, l.hd, t.tm + r.le⟩) := by
         rw [E4 hk1 hh, hp]; unfold doL; rw [hl, if_neg (fun e => by have e1 := e.1; have e2 := e.2; first | exact h8_5 e2 | exact h8_1 e1), if_neg h12_4, if_neg (fun e => e.elim h14_2 (fun q => h14_10 q)), if_pos h16_2]
        rw [e]
        refine ⟨rfl, T.lockS hk rfl ⟨l.nm, l.tk, l.hd, t.tm + r.le, l.ws⟩ w t.nx (by omega) ?_ ?_ (hkw.mono (fun a ha => by have q := hfw a ha; have q1 := q.1; have q2 := q.2.1; have q3 := q.2.2; (simp (disch := (first | omega | assumption)) only [↓appC, ↓updN, ↓updS, ↓app0]))) (fun a ha => by have q := hfw a ha; exact ⟨by omega, .inl (by rw [hwk]; exact ha)⟩) (fun a ha h1 h2 h3 => by (simp (disch := (first | omega | assumption)) only [↓appC, ↓updN, ↓updS, ↓app0]))⟩
        ·exact Q0
        ·(simp (disch := (first | omega | assumption)) only [↓appC, ↓updN, ↓updS, ↓app0]); rfl)
      |(have e : doT t r = (⟨t.tm, frN t.nx l, t.lk.set k (frL t.tm t.nx l), t.sn⟩, tellL 1 (frL t.tm t.nx l)) := by
         rw [E4 hk1 hh, hp]; unfold doL; rw [hl, if_neg (fun e => by have e1 := e.1; have e2 := e.2; first | exact h8_5 e2 | exact h8_1 e1), if_neg h12_4, if_neg (fun e => e.elim h14_2 (fun q => h14_10 q)), if_neg h16_2]
        rw [e]
        refine ⟨rfl, T.lockS hk rfl (frL t.tm t.nx l) w1 (frN t.nx l) (by omega) ?_ ?_ (h11_2.2.mono (fun a ha => by rw [h11_2.1] at ha; have q := hfw a ha; have q1 := q.1; have q2 := q.2.1; have q3 := q.2.2; (simp (disch := (first | omega | assumption)) only [↓appC, ↓updN, ↓updS, ↓app0]))) (fun a ha => by rw [h11_2.1] at ha; have q := hfw a ha; exact ⟨by omega, .inl (by rw [hwk]; exact ha)⟩) (fun a ha h1 h2 h3 => by (simp (disch := (first | omega | assumption)) only [↓appC, ↓updN, ↓updS, ↓app0]))⟩
        ·exact Q0
        ·(simp (disch := (first | omega | assumption)) only [↓appC, ↓updN, ↓updS, ↓app0]); first | done | rfl)
theorem o111 (t : Tb) (r : Rq) (bd : Bd t r) {id : Nat} {Sl Ss : V} {W : Nat → V} {h : Heap} {n : Nat} (T : TabM t id Sl Ss W h n) : OpenM En 111 [.ptr id 0 0, .agg [.int .i64 r.cl, .int .i64 r.st, .int .i64 r.kd, .int .i64 r.le, .str r.nm]] h n (fun v g m => v = .agg (doT t r).2.V ∧ TabS (doT t r).1 id (OwnT id Sl Ss W t.lk.length) n h g m) := by
 by_cases hk1 : r.kd = 1
 ·exact o111a t r bd T hk1
 ·by_cases hh : hit r.nm t.lk
  ·rcases T.kl with ⟨rfl, k⟩ | ⟨lb, rfl, k⟩
   ·have hl : t.lk.length = 0 := by have := congrArg List.length k; rw [B6] at this; exact this
    exact absurd hh.1 (by omega)
   ·rw [B6] at T ⊢
    exact o111h t r bd hk1 hh rfl T
  ·exact o111n t r bd T hk1 hh
end Go.Proofs.Ytknnniaoboaghaa
