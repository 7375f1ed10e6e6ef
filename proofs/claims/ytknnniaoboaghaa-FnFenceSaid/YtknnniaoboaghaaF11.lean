import Derived.Test.YtknnniaoboaghaaF10
namespace Go.Proofs.Ytknnniaoboaghaa
open Go.V
set_option linter.unusedVariables false
set_option linter.unusedSimpArgs false
set_option maxRecDepth 20000
set_option maxHeartbeats 4000000
theorem o95k (l : Lk) (w : V) (tm nx : Int) (Ss : V) (hL : l.ws.length ≤ 1000) (hw : ∀ i, i < l.ws.length → 1 ≤ (l.ws.getD i (0, 0)).2 ∧ (l.ws.getD i (0, 0)).2 ≤ 1000) (ht : 0 ≤ tm ∧ tm ≤ 1000000000) (hn : 0 ≤ nx ∧ nx ≤ 999999) {id lb j len : Nat} {R : List (List V)} {h : Heap} {n : Nat} (hid : id < n) (hlb : lb < n) (hne : lb ≠ id) (hh : h id = some ⟨[[.int .i64 tm, .int .i64 nx, .view lb 0 len, Ss]], 4, 35⟩) (hjl : j < len) (hj : j < R.length) (k1 : h lb = some ⟨R, 5, 29⟩) (k2 : R[j]? = some (l.V w)) (k3 : IsL h w (l.ws.map wtV) 2 123) (k4 : ∀ a, fpV w = some a → a < n ∧ a ≠ lb ∧ a ≠ id) :
  ∃ p : V × Option Blk, ((∀ a, fpV p.1 = some a → a = n + 2 ∨ fpV w = some a) ∧ (∀ g : Heap, g (n + 2) = p.2 → (∀ a, fpV w = some a → g a = h a) → IsL g p.1 ((frL tm nx l).ws.map wtV) 2 123)) ∧
   V.Open En 95 [.ptr id 0 0, .int .i64 j] h n (.tup []) [(lb, some ⟨R.set j ((frL tm nx l).V p.1), 5, 29⟩), (id, some ⟨[[.int .i64 tm, .int .i64 (frN nx l), .view lb 0 len, Ss]], 4, 35⟩), (n + 2, p.2)] (n + 3) := by
 have := o95w l w tm nx Ss hL hw ht hn hid hlb hne hh hjl (j := j) (R := R) (by omega) k1 (by rw [Nat.zero_add]; exact k2) k3 k4
 rwa [Nat.zero_add] at this
theorem delRows {P : List (List V)} {L : List Wt} {j : Int} {len : Nat} (hl : L.length = len) (hj : 0 ≤ j ∧ j < len) : List.drop 0 (List.drop 0 [] ++ List.take (j.toNat - Int.toNat 0) (List.drop (P.length + Int.toNat 0) (P ++ L.map wtV))) ++ List.take ((len : Int).toNat - (j + 1).toNat) (List.drop (P.length + (j + 1).toNat) (P ++ L.map wtV)) = (L.take j.toNat ++ L.drop (j.toNat + 1)).map wtV := by
 obtain ⟨i, rfl⟩ : ∃ i : Nat, j = i := ⟨j.toNat, by omega⟩
 have z0 : Int.toNat 0 = 0 := rfl
 have e1 : ((i : Int) + 1).toNat = i + 1 := by omega
 have e2 : ∀ m, List.drop (P.length + m) (P ++ L.map wtV) = (L.map wtV).drop m := fun m => by
  rw [List.drop_append, List.drop_of_length_le (by omega), List.nil_append, Nat.add_sub_cancel_left]
 simp only [List.drop_zero, List.nil_append, Int.toNat_natCast, z0, Nat.sub_zero, Nat.add_zero, e1, e2]
 rw [show List.drop P.length (P ++ L.map wtV) = L.map wtV from List.drop_left, List.take_of_length_le (l := (L.map wtV).drop (i + 1)) (by simp; omega)]
 simp [List.map_take, List.map_drop]
theorem delLen {P : List (List V)} {L : List Wt} {j : Int} {len : Nat} (hl : L.length = len) (hj : 0 ≤ j ∧ j < len) : 0 + (List.take (j.toNat - Int.toNat 0) (List.drop (P.length + Int.toNat 0) (P ++ L.map wtV))).length + (List.take ((len : Int).toNat - (j + 1).toNat) (List.drop (P.length + (j + 1).toNat) (P ++ L.map wtV))).length = len - 1 := by
 have z0 : Int.toNat 0 = 0 := rfl
 simp only [List.length_take, List.length_drop, List.length_append, List.length_map, z0]
 omega
theorem o106h (t : Tb) (r : Rq) (bd : Bd t r) (hhd0 : ∀ i, i < t.lk.length → -1 ≤ (t.lk.getD i Lk0).hd) (hkd : r.kd ≤ 4 ∧ 1 ≤ r.kd) (hk1 : ¬ r.kd = 1) (hh : hit r.nm t.lk) {k : Nat} (hp : pos r.nm t.lk = k) {id lb : Nat} {Ss : V} {W : Nat → V} {h : Heap} {n : Nat} (T : TabM t id (.view lb 0 t.lk.length) Ss W h n) : OpenM En 106 [.ptr id 0 0, .agg [.int .i64 r.cl, .int .i64 r.st, .int .i64 r.kd, .int .i64 r.le, .str r.nm]] h n (fun v g m => v = .agg (doT t r).2.V ∧ TabS (doT t r).1 id (OwnT id (.view lb 0 t.lk.length) Ss W t.lk.length) n h g m) := by
 have hid := T.idn
 have kid := T.kid
 have hl4 := bd.l4; have htm := bd.tm; have hnx := bd.nx; have hcl := bd.cl; have hle := bd.le
 have hf := s43 t false false false r.nm bd.srt (by omega)
 rw [fix_hit hh, hp] at hf
 have hk : k < t.lk.length := by rw [← hp]; exact hh.1
 have hR : k < (rwW t.lk W).length := by rw [B5]; exact hk
 have hw4 := bd.w4 k hk
 have klb : h lb = some ⟨rwW t.lk W, 5, 29⟩ := by
  rcases T.kl with ⟨e, _⟩ | ⟨b, e, q⟩
  ·cases e
  ·injection e with e1 e2 e3; rw [e1]; exact q
 have hlb := T.fl lb rfl
 have hne := hlb.2
 have hkw := T.kw k hk
 have hfw := fun a ha => (T.fw k a hk ha)
 have hfw := fun a ha => (⟨(hfw a ha).1, (hfw a ha).2.1, fun e => (hfw a ha).2.2.1 (by rw [e]; rfl)⟩ : a < n ∧ a ≠ id ∧ a ≠ lb)
 have hrow := F4 (W := W) hk
 have hhd := hhd0 k hk
 have hwl := bd.wl k hk
 generalize hl : t.lk.getD k Lk0 = l at hkw hrow hw4 hhd hwl
 generalize hwk : W k = w at hkw hrow hfw
 have hwc := hkw.cell
 have hwx := L1 r.cl l.ws
 unfold Lk.V at hrow
 rcases hkw with ⟨rfl, hws⟩ | ⟨wb, pre, hw, kwb⟩
 ·have hkw : IsL h .nsl (l.ws.map wtV) 2 123 := .inl ⟨rfl, hws⟩
  have hwz : l.ws.length = 0 := by rw [List.map_eq_nil_iff.1 hws]; rfl
  refine OpenM.of_wp Try.func106 rfl kb ?_
  refine A2 (A0 (L7 (u := .agg [.int _ _, .int _ _, .int _ _, .int _ _, .str _]) j3 rfl j3 (H3 j6 (A3 (A1 (A2 (A2 (A0 (C1 (off := 2) (s := 1) (r := false) j3 kz j3 ?_)))))))))
  (apply C5 (v := .int _ _) j2; exact Q0; exact Q1; exact j5)
  refine H5 j6 (fun h => absurd h (hk1)) ?_
  intro h1_2
  refine A3 (A1 (wF rfl (B0 (A1 (A2 (C2 [0, 1, 3, 0, 8, 31, 63] rfl (by decide +kernel) ?_))))))
  refine G6 j5 (G7 (v := .ptr _ _ _) j6 ?_)
  (apply L8 (vs := [.int _ _, .int _ _, _, _]) j2; exact Q0; exact Q1; rfl; exact kb; exact j4)
  refine D6 (off := 4) (s := 1) (r := false) j3 kz j3 ?_
  (apply E1 (v := .str _) j2; exact Q0; exact Q1; exact j5)
  apply O8 (id :: tabIds (.view lb 0 t.lk.length) Ss W t.lk.length) hf rfl j2
  ·exact SnapL.cons _ _ _ _ (H2 (T.ext (m := n + 1 + 1) (by omega) (fun a ha => by (simp (disch := (first | omega | assumption)) only [↓appC, ↓updN, ↓updS, ↓app0]))).kl (T.ext (m := n + 1 + 1) (by omega) (fun a ha => by (simp (disch := (first | omega | assumption)) only [↓appC, ↓updN, ↓updS, ↓app0]))).ks (T.ext (m := n + 1 + 1) (by omega) (fun a ha => by (simp (disch := (first | omega | assumption)) only [↓appC, ↓updN, ↓updS, ↓app0]))).kw (fun a ha => List.mem_cons_of_mem _ ha)) (SnapL.cons _ _ _ _ (.one _ _ (.str _)) SnapL.nil)
  ·rfl
  ·rfl
  ·rfl
  refine daI j5 (B1 7 [0, 1, 1, 0, 1, 0, 0] [] j2 (by decide +kernel) trivial ?_)
  refine A1 (A2 (A2 (A0 (B6 j5 ?_))))
  refine I6 j6 (fun h => absurd h (by omega)) ?_
  intro h4_1
  refine A3 (A1 (wF rfl (B0 (A1 (A2 (A0 (D9 j5 (F6 (v := .ptr _ _ _) j6 (C1 (off := 2) (s := 1) (r := false) j3 kz j3 ?_)))))))))
  (apply C5 (v := .view _ _ _) j2; exact Q0; exact Q1; exact j5)
  refine B6 j5 ?_
  (refine r0 ((B9 (b := ⟨rwW t.lk W, 5, 29⟩) rfl rfl rfl rfl (by exact Q0) rfl (by omega) (by omega)).to (v' := .ptr (lb) k 0) (by rw [F7])) rfl rfl rfl ?_)
  refine raP j5 (A3 (A1 (A2 (A2 (A0 (C1 (off := 2) (s := 1) (r := false) j3 kz j3 ?_))))))
  (apply C5 (v := .int _ _) j2; exact Q0; exact Q1; exact j5)
  refine H5 j6 ?_ ?_ <;> intro h7_2
  ·refine A3 (A1 (wT rfl (A2 (A2 (A0 (D9 j5 (F6 (v := .ptr _ _ _) j6 (C1 (off := 2) (s := 1) (r := false) j3 kz j3 ?_))))))))
   (apply C5 (v := .int _ _) j2; exact Q0; exact Q1; exact j5)
   refine I6 j6 ?_ ?_ <;> intro h8_4
   ·refine A3 (A1 (wT rfl (A2 (A0 (D9 j5 (F6 (v := .ptr _ _ _) j6 ?_))))))
    (apply F9 (vs := [.str _, .int _ _, .int _ _, .int _ _, _]) j2; exact Q0; exact Q1; rfl; exact kb; rfl; exact j3)
    apply J5 [lb] (J9 l false 4) rfl j2
    ·exact SnapL.cons _ _ _ _ (.one _ _ (.int _ _)) (SnapL.cons _ _ _ _ (SnapC.agg (.cons _ _ _ _ (.str _) (.cons _ _ _ _ (.int _ _) (.cons _ _ _ _ (.int _ _) (.cons _ _ _ _ (.int _ _) (.cons _ _ _ _ (D3 (hkw.mono (fun a ha => by have q := hfw a ha; have q1 := q.1; have q2 := q.2.1; have q3 := q.2.2; (simp (disch := (first | omega | assumption)) only [↓appC, ↓updN, ↓updS, ↓app0]))) (fun a ha => by cases ha)) .nil)))))) SnapL.nil)
    ·rfl
    ·rfl
    ·rfl
    (apply D4 (u := .agg [.int _ _, .int _ _, .int _ _, .int _ _]) j3; exact Q0; exact Q1; rfl; rfl; rfl; rfl; exact kb; rfl; exact j2)
    refine A3 (A1 (A9 (B2 (B2 (E0 (A5 (A7 rfl (by exact Q0) j2 kb rfl) A8) (by (repeat first | exact Ch.refl _ | refine Ch.upd ?_ | refine Ch.app ?_ | assumption)) ?_)))))
    have e : doT t r = (t, tellL 4 l) := by
     rw [E4 hk1 hh, hp]; unfold doL; rw [hl, if_neg (fun e => by have e1 := e.1; have e2 := e.2; omega), if_pos (by omega)]
    rw [e]
    exact ⟨rfl, T.same (by omega) (fun a ha => by (simp (disch := (first | omega | assumption)) only [↓appC, ↓updN, ↓updS, ↓app0]))⟩
   ·refine A3 (A1 (wF rfl (B0 (A1 (A2 (A0 (D9 j5 (F6 (v := .ptr _ _ _) j6 ?_))))))))
    (apply F9 (vs := [.str _, .int _ _, .int _ _, .int _ _, _]) j2; exact Q0; exact Q1; rfl; exact kb; rfl; exact j3)
    apply J5 [lb] (J9 l false 5) rfl j2
    ·exact SnapL.cons _ _ _ _ (.one _ _ (.int _ _)) (SnapL.cons _ _ _ _ (SnapC.agg (.cons _ _ _ _ (.str _) (.cons _ _ _ _ (.int _ _) (.cons _ _ _ _ (.int _ _) (.cons _ _ _ _ (.int _ _) (.cons _ _ _ _ (D3 (hkw.mono (fun a ha => by have q := hfw a ha; have q1 := q.1; have q2 := q.2.1; have q3 := q.2.2; (simp (disch := (first | omega | assumption)) only [↓appC, ↓updN, ↓updS, ↓app0]))) (fun a ha => by cases ha)) .nil)))))) SnapL.nil)
    ·rfl
    ·rfl
    ·rfl
    (apply D4 (u := .agg [.int _ _, .int _ _, .int _ _, .int _ _]) j3; exact Q0; exact Q1; rfl; rfl; rfl; rfl; exact kb; rfl; exact j2)
    refine A3 (A1 (A9 (B2 (E0 (A5 (A7 rfl (by exact Q0) j2 kb rfl) A8) (by (repeat first | exact Ch.refl _ | refine Ch.upd ?_ | refine Ch.app ?_ | assumption)) ?_))))
    have e : doT t r = (t, tellL 5 l) := by
     rw [E4 hk1 hh, hp]; unfold doL; rw [hl, if_neg (fun e => by have e1 := e.1; have e2 := e.2; omega), if_neg (by omega)]; exact if_pos (.inl (by omega))
    rw [e]
    exact ⟨rfl, T.same (by omega) (fun a ha => by (simp (disch := (first | omega | assumption)) only [↓appC, ↓updN, ↓updS, ↓app0]))⟩
  ·refine A3 (A1 (wF rfl (B0 (A1 (A2 (A2 (A0 (C1 (off := 2) (s := 1) (r := false) j3 kz j3 ?_))))))))
   (apply C5 (v := .int _ _) j2; exact Q0; exact Q1; exact j5)
   refine H5 j6 ?_ ?_ <;> intro h11_2
   ·refine A3 (A1 (wT rfl (A2 (C2 [0, 1, 3, 0, 8, 31, 63] rfl (by decide +kernel) ?_))))
    refine G6 j5 (G7 (v := .ptr _ _ _) j6 ?_)
    (apply L8 (vs := [.str _, .int _ _, .int _ _, .int _ _, _]) j2; exact Q0; exact Q1; rfl; exact kb; exact j4)
    refine D6 (off := 0) (s := 1) (r := false) j3 kz j3 ?_
    (apply E1 (v := .int _ _) j2; exact Q0; exact Q1; exact j5)
    apply O8 [lb] (s131 l false r.cl (by omega)) rfl j2
    ·exact SnapL.cons _ _ _ _ (SnapC.agg (.cons _ _ _ _ (.str _) (.cons _ _ _ _ (.int _ _) (.cons _ _ _ _ (.int _ _) (.cons _ _ _ _ (.int _ _) (.cons _ _ _ _ (D3 (hkw.mono (fun a ha => by have q := hfw a ha; have q1 := q.1; have q2 := q.2.1; have q3 := q.2.2; (simp (disch := (first | omega | assumption)) only [↓appC, ↓updN, ↓updS, ↓app0]))) (fun a ha => by cases ha)) .nil)))))) (SnapL.cons _ _ _ _ (.one _ _ (.int _ _)) SnapL.nil)
    ·rfl
    ·rfl
    ·rfl
    refine daI j5 (B1 7 [0, 1, 1, 0, 1, 0, 0] [] j2 (by decide +kernel) trivial ?_)
    refine A1 (A2 (A0 (B6 j5 ?_)))
    refine rge j6 (fun h => absurd h (by rw [show l.ws = [] from List.map_eq_nil_iff.1 hws]; show ¬ ((-1 : Int) ≥ 0); decide)) ?_
    intro h13_1
    refine A3 (A1 (wF rfl (B0 (A1 (A2 (A2 (C2 [0, 1, 3, 7, 0, 16, 63] rfl (by decide +kernel) ?_)))))))
    refine G6 j5 (G7 (v := .ptr _ _ _) j6 (D6 (off := 2) (s := 1) (r := false) j3 kz j3 ?_))
    (apply E1 (v := .int _ _) j2; exact Q0; exact Q1; exact j5)
    refine D6 (off := 0) (s := 1) (r := false) j3 kz j3 ?_
    (apply E1 (v := .int _ _) j2; exact Q0; exact Q1; exact j5)
    refine dne j6 ?_ ?_ <;> intro h16_6
    ·refine B1 7 [0, 1, 0, 1, 0, 0, 0] [] j2 (by decide +kernel) trivial ?_
     refine A1 (wT rfl (A2 (A2 (A0 (D9 j5 (F6 (v := .ptr _ _ _) j6 (C1 (off := 2) (s := 1) (r := false) j3 kz j3 ?_)))))))
     (apply C5 (v := .int _ _) j2; exact Q0; exact Q1; exact j5)
     refine I6 j6 ?_ ?_ <;> intro h17_4
     ·refine A3 (A1 (wT rfl (A2 (A0 (D9 j5 (F6 (v := .ptr _ _ _) j6 ?_))))))
      (apply F9 (vs := [.str _, .int _ _, .int _ _, .int _ _, _]) j2; exact Q0; exact Q1; rfl; exact kb; rfl; exact j3)
      apply J5 [lb] (J9 l false 4) rfl j2
      ·exact SnapL.cons _ _ _ _ (.one _ _ (.int _ _)) (SnapL.cons _ _ _ _ (SnapC.agg (.cons _ _ _ _ (.str _) (.cons _ _ _ _ (.int _ _) (.cons _ _ _ _ (.int _ _) (.cons _ _ _ _ (.int _ _) (.cons _ _ _ _ (D3 (hkw.mono (fun a ha => by have q := hfw a ha; have q1 := q.1; have q2 := q.2.1; have q3 := q.2.2; (simp (disch := (first | omega | assumption)) only [↓appC, ↓updN, ↓updS, ↓app0]))) (fun a ha => by cases ha)) .nil)))))) SnapL.nil)
      ·rfl
      ·rfl
      ·rfl
      (apply D4 (u := .agg [.int _ _, .int _ _, .int _ _, .int _ _]) j3; exact Q0; exact Q1; rfl; rfl; rfl; rfl; exact kb; rfl; exact j2)
      refine A3 (A1 (A9 (B2 (B2 (E0 (A5 (A7 rfl (by exact Q0) j2 kb rfl) A8) (by (repeat first | exact Ch.refl _ | refine Ch.upd ?_ | refine Ch.app ?_ | assumption)) ?_)))))
      have e : doT t r = (t, tellL 4 l) := by
       rw [E4 hk1 hh, hp]; unfold doL; rw [hl, if_neg (fun e => by have e1 := e.1; have e2 := e.2; omega), if_pos (by omega)]
      rw [e]
      exact ⟨rfl, T.same (by omega) (fun a ha => by (simp (disch := (first | omega | assumption)) only [↓appC, ↓updN, ↓updS, ↓app0]))⟩
     ·refine A3 (A1 (wF rfl (B0 (A1 (A2 (A0 (D9 j5 (F6 (v := .ptr _ _ _) j6 ?_))))))))
      (apply F9 (vs := [.str _, .int _ _, .int _ _, .int _ _, _]) j2; exact Q0; exact Q1; rfl; exact kb; rfl; exact j3)
      apply J5 [lb] (J9 l false 5) rfl j2
      ·exact SnapL.cons _ _ _ _ (.one _ _ (.int _ _)) (SnapL.cons _ _ _ _ (SnapC.agg (.cons _ _ _ _ (.str _) (.cons _ _ _ _ (.int _ _) (.cons _ _ _ _ (.int _ _) (.cons _ _ _ _ (.int _ _) (.cons _ _ _ _ (D3 (hkw.mono (fun a ha => by have q := hfw a ha; have q1 := q.1; have q2 := q.2.1; have q3 := q.2.2; (simp (disch := (first | omega | assumption)) only [↓appC, ↓updN, ↓updS, ↓app0]))) (fun a ha => by cases ha)) .nil)))))) SnapL.nil)
      ·rfl
      ·rfl
      ·rfl
      (apply D4 (u := .agg [.int _ _, .int _ _, .int _ _, .int _ _]) j3; exact Q0; exact Q1; rfl; rfl; rfl; rfl; exact kb; rfl; exact j2)
      refine A3 (A1 (A9 (B2 (E0 (A5 (A7 rfl (by exact Q0) j2 kb rfl) A8) (by (repeat first | exact Ch.refl _ | refine Ch.upd ?_ | refine Ch.app ?_ | assumption)) ?_))))
      have e : doT t r = (t, tellL 5 l) := by
       rw [E4 hk1 hh, hp]; unfold doL; rw [hl, if_neg (fun e => by have e1 := e.1; have e2 := e.2; omega), if_neg (by omega)]; exact if_pos (.inr (by assumption))
      rw [e]
      exact ⟨rfl, T.same (by omega) (fun a ha => by (simp (disch := (first | omega | assumption)) only [↓appC, ↓updN, ↓updS, ↓app0]))⟩
    ·refine B1 7 [0, 1, 0, 1, 0, 0, 0] [] j2 (by decide +kernel) trivial ?_
     refine A1 (wF rfl (B0 (A1 (A2 (A2 (A0 (C1 (off := 2) (s := 1) (r := false) j3 kz j3 ?_)))))))
     (apply C5 (v := .int _ _) j2; exact Q0; exact Q1; exact j5)
     refine H5 j6 ?_ ?_ <;> intro h20_2
     ·refine A3 (A1 (wT rfl (A2 ?_)))
      exfalso; omega
     ·refine A3 (A1 (wF rfl (B0 (A1 (A2 (A0 (D9 j5 (B6 j5 ?_))))))))
      refine K7 (o95k l V.nsl t.tm t.nx Ss (by omega) hwl htm (by omega) (id := id) (lb := lb) (j := k) (len := t.lk.length) (R := rwW t.lk W) (by omega) (by omega) hne (by exact Q0) hk hR (by exact Q0) hrow (hkw.mono (fun a ha => by have q := hfw a ha; have q1 := q.1; have q2 := q.2.1; have q3 := q.2.2; (simp (disch := (first | omega | assumption)) only [↓appC, ↓updN, ↓updS, ↓app0]))) (fun a ha => by have q := hfw a ha; exact ⟨by omega, q.2.2, q.2.1⟩)) rfl j5 ?_
      rintro p1 h23_2
      try dsimp only at h23_2
      refine A3 (A1 (A2 (A0 (D9 j5 (F6 (v := .ptr _ _ _) j6 (C1 (off := 2) (s := 1) (r := false) j3 kz j3 ?_))))))
      (apply C5 (v := .view _ _ _) j2; exact Q0; exact Q1; exact j5)
      refine B6 j5 ?_
      (refine r0 ((B9 (b := ⟨((rwW t.lk W).set k ((frL t.tm t.nx l).V p1.1)), 5, 29⟩) rfl rfl rfl rfl (by exact Q0) rfl (by omega) (by omega)).to (v' := .ptr (lb) k 0) (by rw [F7])) rfl rfl rfl ?_)
      (apply F9 (vs := [.str (frL t.tm t.nx l).nm, .int .i64 (frL t.tm t.nx l).tk, .int .i64 (frL t.tm t.nx l).hd, .int .i64 (frL t.tm t.nx l).ex, p1.1]) j2; exact Q0; exact List.getElem?_set_self hR; rfl; exact kb; rfl; exact j3)
      apply J5 (lb :: (fpV p1.1).toList) (J9 (frL t.tm t.nx l) false 1) rfl j2
      ·exact SnapL.cons _ _ _ _ (.one _ _ (.int _ _)) (SnapL.cons _ _ _ _ (SnapC.agg (.cons _ _ _ _ (.str _) (.cons _ _ _ _ (.int _ _) (.cons _ _ _ _ (.int _ _) (.cons _ _ _ _ (.int _ _) (.cons _ _ _ _ (D3 (h23_2.2 _ (by (simp (disch := (first | omega | assumption)) only [↓appC, ↓updN, ↓updS, ↓app0])) (fun a ha => by have q := hfw a ha; have q1 := q.1; have q2 := q.2.1; have q3 := q.2.2; (simp (disch := (first | omega | assumption)) only [↓appC, ↓updN, ↓updS, ↓app0]))) (fun a ha => by exact List.mem_cons_of_mem _ (Option.mem_toList.2 ha))) .nil)))))) SnapL.nil)
      ·rfl
      ·rfl
      ·rfl
      (apply D4 (u := .agg [.int _ _, .int _ _, .int _ _, .int _ _]) j3; exact Q0; exact Q1; rfl; rfl; rfl; rfl; exact kb; rfl; exact j2)
      refine A3 (A1 (A9 (E0 (A5 (A7 rfl (by exact Q0) j2 kb rfl) A8) (by (repeat first | exact Ch.refl _ | refine Ch.upd ?_ | refine Ch.app ?_ | assumption)) ?_)))
      have e : doT t r = (⟨t.tm, frN t.nx l, t.lk.set k (frL t.tm t.nx l), t.sn⟩, tellL 1 (frL t.tm t.nx l)) := by
       rw [E4 hk1 hh, hp]; unfold doL; rw [hl, if_neg (fun e => by have e1 := e.1; have e2 := e.2; omega), if_neg (by omega), if_neg (fun e => e.elim (fun q => by omega) (fun q => by omega)), if_neg (by omega)]
      rw [e]
      refine ⟨rfl, T.lockS hk rfl (frL t.tm t.nx l) p1.1 (frN t.nx l) (by omega) ?_ ?_ (h23_2.2 _ (by (simp (disch := (first | omega | assumption)) only [↓appC, ↓updN, ↓updS, ↓app0])) (fun a ha => by have q := hfw a ha; have q1 := q.1; have q2 := q.2.1; have q3 := q.2.2; (simp (disch := (first | omega | assumption)) only [↓appC, ↓updN, ↓updS, ↓app0]))) (fun a ha => ?_) (fun a ha h1 h2 h3 => by (simp (disch := (first | omega | assumption)) only [↓appC, ↓updN, ↓updS, ↓app0]))⟩
      ·exact Q0
      ·(simp (disch := (first | omega | assumption)) only [↓appC, ↓updN, ↓updS, ↓app0]); first | done | rfl
      ·rcases h23_2.1 a ha with e | e
       ·exact ⟨by omega, .inr (by omega)⟩
       ·have q := hfw a e; exact ⟨by omega, .inl (by rw [hwk]; exact e)⟩
   ·refine A3 (A1 (wF rfl (B0 (A1 (A2 (A2 (C2 [0, 1, 3, 7, 0, 16, 63] rfl (by decide +kernel) ?_)))))))
    refine G6 j5 (G7 (v := .ptr _ _ _) j6 (D6 (off := 2) (s := 1) (r := false) j3 kz j3 ?_))
    (apply E1 (v := .int _ _) j2; exact Q0; exact Q1; exact j5)
    refine D6 (off := 0) (s := 1) (r := false) j3 kz j3 ?_
    (apply E1 (v := .int _ _) j2; exact Q0; exact Q1; exact j5)
    refine dne j6 ?_ ?_ <;> intro h16_6
    ·refine B1 7 [0, 1, 0, 1, 0, 0, 0] [] j2 (by decide +kernel) trivial ?_
     refine A1 (wT rfl (A2 (A2 (A0 (D9 j5 (F6 (v := .ptr _ _ _) j6 (C1 (off := 2) (s := 1) (r := false) j3 kz j3 ?_)))))))
     (apply C5 (v := .int _ _) j2; exact Q0; exact Q1; exact j5)
     refine I6 j6 ?_ ?_ <;> intro h17_4
     ·refine A3 (A1 (wT rfl (A2 (A0 (D9 j5 (F6 (v := .ptr _ _ _) j6 ?_))))))
      (apply F9 (vs := [.str _, .int _ _, .int _ _, .int _ _, _]) j2; exact Q0; exact Q1; rfl; exact kb; rfl; exact j3)
      apply J5 [lb] (J9 l false 4) rfl j2
      ·exact SnapL.cons _ _ _ _ (.one _ _ (.int _ _)) (SnapL.cons _ _ _ _ (SnapC.agg (.cons _ _ _ _ (.str _) (.cons _ _ _ _ (.int _ _) (.cons _ _ _ _ (.int _ _) (.cons _ _ _ _ (.int _ _) (.cons _ _ _ _ (D3 (hkw.mono (fun a ha => by have q := hfw a ha; have q1 := q.1; have q2 := q.2.1; have q3 := q.2.2; (simp (disch := (first | omega | assumption)) only [↓appC, ↓updN, ↓updS, ↓app0]))) (fun a ha => by cases ha)) .nil)))))) SnapL.nil)
      ·rfl
      ·rfl
      ·rfl
      (apply D4 (u := .agg [.int _ _, .int _ _, .int _ _, .int _ _]) j3; exact Q0; exact Q1; rfl; rfl; rfl; rfl; exact kb; rfl; exact j2)
      refine A3 (A1 (A9 (B2 (B2 (E0 (A5 (A7 rfl (by exact Q0) j2 kb rfl) A8) (by (repeat first | exact Ch.refl _ | refine Ch.upd ?_ | refine Ch.app ?_ | assumption)) ?_)))))
      have e : doT t r = (t, tellL 4 l) := by
       rw [E4 hk1 hh, hp]; unfold doL; rw [hl, if_neg (fun e => by have e1 := e.1; have e2 := e.2; omega), if_pos (by omega)]
      rw [e]
      exact ⟨rfl, T.same (by omega) (fun a ha => by (simp (disch := (first | omega | assumption)) only [↓appC, ↓updN, ↓updS, ↓app0]))⟩
     ·refine A3 (A1 (wF rfl (B0 (A1 (A2 (A0 (D9 j5 (F6 (v := .ptr _ _ _) j6 ?_))))))))
      (apply F9 (vs := [.str _, .int _ _, .int _ _, .int _ _, _]) j2; exact Q0; exact Q1; rfl; exact kb; rfl; exact j3)
      apply J5 [lb] (J9 l false 5) rfl j2
      ·exact SnapL.cons _ _ _ _ (.one _ _ (.int _ _)) (SnapL.cons _ _ _ _ (SnapC.agg (.cons _ _ _ _ (.str _) (.cons _ _ _ _ (.int _ _) (.cons _ _ _ _ (.int _ _) (.cons _ _ _ _ (.int _ _) (.cons _ _ _ _ (D3 (hkw.mono (fun a ha => by have q := hfw a ha; have q1 := q.1; have q2 := q.2.1; have q3 := q.2.2; (simp (disch := (first | omega | assumption)) only [↓appC, ↓updN, ↓updS, ↓app0]))) (fun a ha => by cases ha)) .nil)))))) SnapL.nil)
      ·rfl
      ·rfl
      ·rfl
      (apply D4 (u := .agg [.int _ _, .int _ _, .int _ _, .int _ _]) j3; exact Q0; exact Q1; rfl; rfl; rfl; rfl; exact kb; rfl; exact j2)
      refine A3 (A1 (A9 (B2 (E0 (A5 (A7 rfl (by exact Q0) j2 kb rfl) A8) (by (repeat first | exact Ch.refl _ | refine Ch.upd ?_ | refine Ch.app ?_ | assumption)) ?_))))
      have e : doT t r = (t, tellL 5 l) := by
       rw [E4 hk1 hh, hp]; unfold doL; rw [hl, if_neg (fun e => by have e1 := e.1; have e2 := e.2; omega), if_neg (by omega)]; exact if_pos (.inr (by assumption))
      rw [e]
      exact ⟨rfl, T.same (by omega) (fun a ha => by (simp (disch := (first | omega | assumption)) only [↓appC, ↓updN, ↓updS, ↓app0]))⟩
    ·refine B1 7 [0, 1, 0, 1, 0, 0, 0] [] j2 (by decide +kernel) trivial ?_
     refine A1 (wF rfl (B0 (A1 (A2 (A2 (A0 (C1 (off := 2) (s := 1) (r := false) j3 kz j3 ?_)))))))
     (apply C5 (v := .int _ _) j2; exact Q0; exact Q1; exact j5)
     refine H5 j6 ?_ ?_ <;> intro h20_2
     ·refine A3 (A1 (wT rfl (A2 (C2 [0, 0, 2, 6, 14, 0, 32, 126, 255, 511, 1023] rfl (by decide +kernel) ?_))))
      refine G6 j5 (G6 j5 (G7 (v := .ptr _ _ _) j6 (D6 (off := 0) (s := 1) (r := false) j3 kz j3 ?_)))
      (apply E1 (v := .int _ _) j2; exact Q0; exact Q1; exact j5)
      refine D6 (off := 3) (s := 1) (r := false) j3 kz j3 ?_
      (apply E1 (v := .int _ _) j2; exact Q0; exact Q1; exact j5)
      refine dcl (s132 t.tm r.le htm hle) rfl j5 (G7 (v := .ptr _ _ _) j6 (D6 (off := 3) (s := 1) (r := false) j3 kz j3 ?_))
      (apply dst (u := .int _ _) rfl rfl rfl; exact Q0; exact Q1; rfl; rfl; rfl; rfl; exact kb; rfl; rfl; rfl)
      refine B1 11 [3, 0, 0, 0, 1, 0, 1, 0, 0, 0, 0] [] j2 (by decide +kernel) trivial ?_
      refine A1 (A2 (A0 (D9 j5 (F6 (v := .ptr _ _ _) j6 ?_))))
      (apply F9 (vs := [.str _, .int _ _, .int _ _, .int _ _, _]) j2; exact Q0; exact Q1; rfl; exact kb; rfl; exact j3)
      apply J5 [lb] (J9 ⟨l.nm, l.tk, l.hd, t.tm + r.le, l.ws⟩ false 1) rfl j2
      ·exact SnapL.cons _ _ _ _ (.one _ _ (.int _ _)) (SnapL.cons _ _ _ _ (SnapC.agg (.cons _ _ _ _ (.str _) (.cons _ _ _ _ (.int _ _) (.cons _ _ _ _ (.int _ _) (.cons _ _ _ _ (.int _ _) (.cons _ _ _ _ (D3 (hkw.mono (fun a ha => by have q := hfw a ha; have q1 := q.1; have q2 := q.2.1; have q3 := q.2.2; (simp (disch := (first | omega | assumption)) only [↓appC, ↓updN, ↓updS, ↓app0]))) (fun a ha => by cases ha)) .nil)))))) SnapL.nil)
      ·rfl
      ·rfl
      ·rfl
      (apply D4 (u := .agg [.int _ _, .int _ _, .int _ _, .int _ _]) j3; exact Q0; exact Q1; rfl; rfl; rfl; rfl; exact kb; rfl; exact j2)
      refine A3 (A1 (A9 (B2 (E0 (A5 (A7 rfl (by exact Q0) j2 kb rfl) A8) (by (repeat first | exact Ch.refl _ | refine Ch.upd ?_ | refine Ch.app ?_ | assumption)) ?_))))
      have e : doT t r = (⟨t.tm, t.nx, t.lk.set k ⟨l.nm, l.tk, l.hd, t.tm + r.le, l.ws⟩, t.sn⟩, ⟨1, l.tk, l.hd, t.tm + r.le⟩) := by
       rw [E4 hk1 hh, hp]; unfold doL; rw [hl, if_neg (fun e => by have e1 := e.1; have e2 := e.2; omega), if_neg (by omega), if_neg (fun e => e.elim (fun q => by omega) (fun q => by omega)), if_pos (by assumption)]
      rw [e]
      refine ⟨rfl, T.lockS hk rfl ⟨l.nm, l.tk, l.hd, t.tm + r.le, l.ws⟩ V.nsl t.nx (by omega) ?_ ?_ (hkw.mono (fun a ha => by have q := hfw a ha; have q1 := q.1; have q2 := q.2.1; have q3 := q.2.2; (simp (disch := (first | omega | assumption)) only [↓appC, ↓updN, ↓updS, ↓app0]))) (fun a ha => by have q := hfw a ha; exact ⟨by omega, .inl (by rw [hwk]; exact ha)⟩) (fun a ha h1 h2 h3 => by (simp (disch := (first | omega | assumption)) only [↓appC, ↓updN, ↓updS, ↓app0]))⟩
      ·exact Q0
      ·(simp (disch := (first | omega | assumption)) only [↓appC, ↓updN, ↓updS, ↓app0]); rfl
     ·refine A3 (A1 (wF rfl (B0 (A1 (A2 ?_)))))
      exfalso; omega
 ·rw [List.length_map] at hw
  subst hw
  have hwb := hfw wb rfl
  have hkw : IsL h (.view wb pre.length l.ws.length) (l.ws.map wtV) 2 123 := .inr ⟨wb, pre, by rw [List.length_map], kwb⟩
  refine OpenM.of_wp Try.func106 rfl kb ?_
  refine A2 (A0 (L7 (u := .agg [.int _ _, .int _ _, .int _ _, .int _ _, .str _]) j3 rfl j3 (H3 j6 (A3 (A1 (A2 (A2 (A0 (C1 (off := 2) (s := 1) (r := false) j3 kz j3 ?_)))))))))
  (apply C5 (v := .int _ _) j2; exact Q0; exact Q1; exact j5)
  refine H5 j6 (fun h => absurd h (hk1)) ?_
  intro h1_2
  refine A3 (A1 (wF rfl (B0 (A1 (A2 (C2 [0, 1, 3, 0, 8, 31, 63] rfl (by decide +kernel) ?_))))))
  refine G6 j5 (G7 (v := .ptr _ _ _) j6 ?_)
  (apply L8 (vs := [.int _ _, .int _ _, _, _]) j2; exact Q0; exact Q1; rfl; exact kb; exact j4)
  refine D6 (off := 4) (s := 1) (r := false) j3 kz j3 ?_
  (apply E1 (v := .str _) j2; exact Q0; exact Q1; exact j5)
  apply O8 (id :: tabIds (.view lb 0 t.lk.length) Ss W t.lk.length) hf rfl j2
  ·exact SnapL.cons _ _ _ _ (H2 (T.ext (m := n + 1 + 1) (by omega) (fun a ha => by (simp (disch := (first | omega | assumption)) only [↓appC, ↓updN, ↓updS, ↓app0]))).kl (T.ext (m := n + 1 + 1) (by omega) (fun a ha => by (simp (disch := (first | omega | assumption)) only [↓appC, ↓updN, ↓updS, ↓app0]))).ks (T.ext (m := n + 1 + 1) (by omega) (fun a ha => by (simp (disch := (first | omega | assumption)) only [↓appC, ↓updN, ↓updS, ↓app0]))).kw (fun a ha => List.mem_cons_of_mem _ ha)) (SnapL.cons _ _ _ _ (.one _ _ (.str _)) SnapL.nil)
  ·rfl
  ·rfl
  ·rfl
  refine daI j5 (B1 7 [0, 1, 1, 0, 1, 0, 0] [] j2 (by decide +kernel) trivial ?_)
  refine A1 (A2 (A2 (A0 (B6 j5 ?_))))
  refine I6 j6 (fun h => absurd h (by omega)) ?_
  intro h4_1
  refine A3 (A1 (wF rfl (B0 (A1 (A2 (A0 (D9 j5 (F6 (v := .ptr _ _ _) j6 (C1 (off := 2) (s := 1) (r := false) j3 kz j3 ?_)))))))))
  (apply C5 (v := .view _ _ _) j2; exact Q0; exact Q1; exact j5)
  refine B6 j5 ?_
  (refine r0 ((B9 (b := ⟨rwW t.lk W, 5, 29⟩) rfl rfl rfl rfl (by exact Q0) rfl (by omega) (by omega)).to (v' := .ptr (lb) k 0) (by rw [F7])) rfl rfl rfl ?_)
  refine raP j5 (A3 (A1 (A2 (A2 (A0 (C1 (off := 2) (s := 1) (r := false) j3 kz j3 ?_))))))
  (apply C5 (v := .int _ _) j2; exact Q0; exact Q1; exact j5)
  refine H5 j6 ?_ ?_ <;> intro h7_2
  ·refine A3 (A1 (wT rfl (A2 (A2 (A0 (D9 j5 (F6 (v := .ptr _ _ _) j6 (C1 (off := 2) (s := 1) (r := false) j3 kz j3 ?_))))))))
   (apply C5 (v := .int _ _) j2; exact Q0; exact Q1; exact j5)
   refine I6 j6 ?_ ?_ <;> intro h8_4
   ·refine A3 (A1 (wT rfl (A2 (A0 (D9 j5 (F6 (v := .ptr _ _ _) j6 ?_))))))
    (apply F9 (vs := [.str _, .int _ _, .int _ _, .int _ _, _]) j2; exact Q0; exact Q1; rfl; exact kb; rfl; exact j3)
    apply J5 [wb] (J9 l false 4) rfl j2
    ·exact SnapL.cons _ _ _ _ (.one _ _ (.int _ _)) (SnapL.cons _ _ _ _ (SnapC.agg (.cons _ _ _ _ (.str _) (.cons _ _ _ _ (.int _ _) (.cons _ _ _ _ (.int _ _) (.cons _ _ _ _ (.int _ _) (.cons _ _ _ _ (D3 (hkw.mono (fun a ha => by have q := hfw a ha; have q1 := q.1; have q2 := q.2.1; have q3 := q.2.2; (simp (disch := (first | omega | assumption)) only [↓appC, ↓updN, ↓updS, ↓app0]))) (fun a ha => by cases ha; exact List.mem_singleton.2 rfl)) .nil)))))) SnapL.nil)
    ·rfl
    ·rfl
    ·rfl
    (apply D4 (u := .agg [.int _ _, .int _ _, .int _ _, .int _ _]) j3; exact Q0; exact Q1; rfl; rfl; rfl; rfl; exact kb; rfl; exact j2)
    refine A3 (A1 (A9 (B2 (B2 (E0 (A5 (A7 rfl (by exact Q0) j2 kb rfl) A8) (by (repeat first | exact Ch.refl _ | refine Ch.upd ?_ | refine Ch.app ?_ | assumption)) ?_)))))
    have e : doT t r = (t, tellL 4 l) := by
     rw [E4 hk1 hh, hp]; unfold doL; rw [hl, if_neg (fun e => by have e1 := e.1; have e2 := e.2; omega), if_pos (by omega)]
    rw [e]
    exact ⟨rfl, T.same (by omega) (fun a ha => by (simp (disch := (first | omega | assumption)) only [↓appC, ↓updN, ↓updS, ↓app0]))⟩
   ·refine A3 (A1 (wF rfl (B0 (A1 (A2 (A0 (D9 j5 (F6 (v := .ptr _ _ _) j6 ?_))))))))
    (apply F9 (vs := [.str _, .int _ _, .int _ _, .int _ _, _]) j2; exact Q0; exact Q1; rfl; exact kb; rfl; exact j3)
    apply J5 [wb] (J9 l false 5) rfl j2
    ·exact SnapL.cons _ _ _ _ (.one _ _ (.int _ _)) (SnapL.cons _ _ _ _ (SnapC.agg (.cons _ _ _ _ (.str _) (.cons _ _ _ _ (.int _ _) (.cons _ _ _ _ (.int _ _) (.cons _ _ _ _ (.int _ _) (.cons _ _ _ _ (D3 (hkw.mono (fun a ha => by have q := hfw a ha; have q1 := q.1; have q2 := q.2.1; have q3 := q.2.2; (simp (disch := (first | omega | assumption)) only [↓appC, ↓updN, ↓updS, ↓app0]))) (fun a ha => by cases ha; exact List.mem_singleton.2 rfl)) .nil)))))) SnapL.nil)
    ·rfl
    ·rfl
    ·rfl
    (apply D4 (u := .agg [.int _ _, .int _ _, .int _ _, .int _ _]) j3; exact Q0; exact Q1; rfl; rfl; rfl; rfl; exact kb; rfl; exact j2)
    refine A3 (A1 (A9 (B2 (E0 (A5 (A7 rfl (by exact Q0) j2 kb rfl) A8) (by (repeat first | exact Ch.refl _ | refine Ch.upd ?_ | refine Ch.app ?_ | assumption)) ?_))))
    have e : doT t r = (t, tellL 5 l) := by
     rw [E4 hk1 hh, hp]; unfold doL; rw [hl, if_neg (fun e => by have e1 := e.1; have e2 := e.2; omega), if_neg (by omega)]; exact if_pos (.inl (by omega))
    rw [e]
    exact ⟨rfl, T.same (by omega) (fun a ha => by (simp (disch := (first | omega | assumption)) only [↓appC, ↓updN, ↓updS, ↓app0]))⟩
  ·refine A3 (A1 (wF rfl (B0 (A1 (A2 (A2 (A0 (C1 (off := 2) (s := 1) (r := false) j3 kz j3 ?_))))))))
   (apply C5 (v := .int _ _) j2; exact Q0; exact Q1; exact j5)
   refine H5 j6 ?_ ?_ <;> intro h11_2
   ·refine A3 (A1 (wT rfl (A2 (C2 [0, 1, 3, 0, 8, 31, 63] rfl (by decide +kernel) ?_))))
    refine G6 j5 (G7 (v := .ptr _ _ _) j6 ?_)
    (apply L8 (vs := [.str _, .int _ _, .int _ _, .int _ _, _]) j2; exact Q0; exact Q1; rfl; exact kb; exact j4)
    refine D6 (off := 0) (s := 1) (r := false) j3 kz j3 ?_
    (apply E1 (v := .int _ _) j2; exact Q0; exact Q1; exact j5)
    apply O8 [wb] (s131 l false r.cl (by omega)) rfl j2
    ·exact SnapL.cons _ _ _ _ (SnapC.agg (.cons _ _ _ _ (.str _) (.cons _ _ _ _ (.int _ _) (.cons _ _ _ _ (.int _ _) (.cons _ _ _ _ (.int _ _) (.cons _ _ _ _ (D3 (hkw.mono (fun a ha => by have q := hfw a ha; have q1 := q.1; have q2 := q.2.1; have q3 := q.2.2; (simp (disch := (first | omega | assumption)) only [↓appC, ↓updN, ↓updS, ↓app0]))) (fun a ha => by cases ha; exact List.mem_singleton.2 rfl)) .nil)))))) (SnapL.cons _ _ _ _ (.one _ _ (.int _ _)) SnapL.nil)
    ·rfl
    ·rfl
    ·rfl
    refine daI j5 (B1 7 [0, 1, 1, 0, 1, 0, 0] [] j2 (by decide +kernel) trivial ?_)
    refine A1 (A2 (A0 (B6 j5 ?_)))
    refine rge j6 ?_ ?_ <;> intro h13_1
    ·refine A3 (A1 (wT rfl (A2 (C2 [0, 0, 0, 4, 12, 28, 0, 124, 254, 0, 512, 1536, 3584, 0, 8192, 32256, 65534, 131071, 262143, 524287] rfl (by decide +kernel) ?_))))
     refine G6 j5 (dbs (es := []) j4 kz kb rfl rfl j3 (G6 j5 (G7 (v := .ptr _ _ _) j6 (D6 (off := 4) (s := 1) (r := false) j3 kz j3 ?_))))
     (apply E1 (v := .view _ _ _) j2; exact Q0; exact Q1; exact j5)
     refine I0 j5 ?_
     (apply dslv j3; exact Q0; exact j3; exact Q4; exact Q4; exact Q4; exact j3)
     (apply dap (s' := 16)  rfl rfl; exact Q0; exact j2; exact Q31; exact j2; exact kz; (first | rfl | (apply K0 rfl; exact Q0; (first | exact Nat.le_refl _ | (show _ ≤ (pre ++ l.ws.map wtV).length; rw [List.length_append, List.length_map]; omega) | omega); rfl)); (first | rfl | assumption | (exact lenD l.ws _ _ (by omega)) | (focus (simp; done)) | (focus (intro _ hc; rw [List.mem_singleton] at hc; subst hc; rfl)) | (intro _ _; simp_all)); exact Q12; exact Q12; exact j3)
     refine G6 j5 (G7 (v := .ptr _ _ _) j6 (D6 (off := 4) (s := 1) (r := false) j3 kz j3 ?_))
     (apply E1 (v := .view _ _ _) j2; exact Q0; exact Q1; exact j5)
     refine I0 j5 (V3 j3 ?_ ?_ j3 ?_)
     ·exact Q4
     ·exact Q4
     (apply dslv j3; exact Q0; exact j3; exact Q4; exact Q4; exact Q4; exact j3)
     (apply dap (s' := 16)  rfl rfl; exact Q0; exact j2; exact Q31; exact j2; exact kz; (first | rfl | (apply K0 rfl; exact Q0; (first | exact Nat.le_refl _ | (show _ ≤ (pre ++ l.ws.map wtV).length; rw [List.length_append, List.length_map]; omega) | omega); rfl)); (first | rfl | assumption | (exact lenD l.ws _ _ (by omega)) | (focus (simp; done)) | (focus (intro _ hc; rw [List.mem_singleton] at hc; subst hc; rfl)) | (intro _ _; simp_all)); exact Q12; exact Q12; exact j3)
     refine G7 (v := .ptr _ _ _) j6 (D6 (off := 4) (s := 1) (r := false) j3 kz j3 ?_)
     (apply dst (u := .view _ _ _) rfl rfl rfl; exact Q0; exact Q1; rfl; rfl; rfl; rfl; exact kb; rfl; rfl; rfl)
     refine B1 20 [3, 0, 0, 3, 1, 0, 0, 1, 0, 0, 0, 3, 1, 0, 1, 0, 0, 0, 3, 0] [(1, 5), (1, 7), (1, 12), (8, 12), (1, 15), (8, 15)] j2 (by decide +kernel) ?_ ?_
     ·(simp [ClearL, ids, srcIds, Env.eval, upd]; try omega)
     refine A1 (A2 ?_)
     refine Y1 fun g1 hg1 => ?_
     have qD : g1 (n + 1 + 1 + 1 + 1) = some ⟨(l.ws.take (wix r.cl l.ws).toNat ++ l.ws.drop ((wix r.cl l.ws).toNat + 1)).map wtV, 2, 123⟩ := by
      rw [hg1]; (simp (disch := (first | omega | assumption)) only [↓appC, ↓updN, ↓updS, ↓app0])
      exact congrArg (fun z => some (Blk.mk z 2 123)) (delRows rfl ⟨by omega, hwx⟩)
     have q0 : g1 n = some ⟨[[.int .i64 r.cl, .int .i64 r.st, .int .i64 r.kd, .int .i64 r.le, .str r.nm]], 5, 64⟩ := by rw [hg1]; (simp (disch := (first | omega | assumption)) only [↓appC, ↓updN, ↓updS, ↓app0]); rfl
     have q1 : g1 (n + 1) = some ⟨[[.int .i64 0, .int .i64 0, .int .i64 0, .int .i64 0]], 4, 60⟩ := by rw [hg1]; (simp (disch := (first | omega | assumption)) only [↓appC, ↓updN, ↓updS, ↓app0]); rfl
     have q2 : g1 id = some ⟨[[.int .i64 t.tm, .int .i64 t.nx, .view lb 0 t.lk.length, Ss]], 4, 35⟩ := by rw [hg1]; (simp (disch := (first | omega | assumption)) only [↓appC, ↓updN, ↓updS, ↓app0]); exact kid
     have q3 : g1 lb = some ⟨((rwW t.lk W).set k [.str l.nm, .int .i64 l.tk, .int .i64 l.hd, .int .i64 l.ex, (V.view (n + 1 + 1 + 1 + 1) 0 (l.ws.length - 1))]), 5, 29⟩ := by
      rw [hg1]; (simp (disch := (first | omega | assumption)) only [↓appC, ↓updN, ↓updS, ↓app0])
      exact congrArg (fun z => some (Blk.mk ((rwW t.lk W).set k [.str l.nm, .int .i64 l.tk, .int .i64 l.hd, .int .i64 l.ex, .view (n + 1 + 1 + 1 + 1) 0 z]) 5 29)) (delLen rfl ⟨by omega, hwx⟩)
     have qk : ∀ a, a < n → a ≠ id → a ≠ lb → g1 a = h a := fun a ha h1 h2 => by rw [hg1]; (simp (disch := (first | omega | assumption)) only [↓appC, ↓updN, ↓updS, ↓app0])
     have qc : Ch h g1 := by rw [hg1]; (repeat first | exact Ch.refl _ | refine Ch.upd ?_ | refine Ch.app ?_)
     have qr := List.getElem?_set_self (a := [.str l.nm, .int .i64 l.tk, .int .i64 l.hd, .int .i64 l.ex, .view (n + 1 + 1 + 1 + 1) 0 (l.ws.length - 1)]) hR
     refine A0 (D9 j5 (F6 (v := .ptr _ _ _) j6 ?_))
     (apply F9 (vs := [.str _, .int _ _, .int _ _, .int _ _, _]) j2; exact Q0; exact Q1; rfl; exact kb; rfl; exact j3)
     apply J5 [n + 1 + 1 + 1 + 1] (J9 ⟨l.nm, l.tk, l.hd, l.ex, (l.ws.take (wix r.cl l.ws).toNat ++ l.ws.drop ((wix r.cl l.ws).toNat + 1))⟩ false 1) rfl j2
     ·exact SnapL.cons _ _ _ _ (.one _ _ (.int _ _)) (SnapL.cons _ _ _ _ (SnapC.agg (.cons _ _ _ _ (.str _) (.cons _ _ _ _ (.int _ _) (.cons _ _ _ _ (.int _ _) (.cons _ _ _ _ (.int _ _) (.cons _ _ _ _ (D3 (.inr ⟨n + 1 + 1 + 1 + 1, [], by rw [List.length_map, List.length_append, List.length_take, List.length_drop]; congr 1; omega, qD⟩) (fun a ha => by cases ha; exact List.mem_singleton.2 rfl)) .nil)))))) SnapL.nil)
     ·rfl
     ·rfl
     ·rfl
     (apply D4 (u := .agg [.int _ _, .int _ _, .int _ _, .int _ _]) j3; exact Q0; exact Q1; rfl; rfl; rfl; rfl; exact kb; rfl; exact j2)
     refine A3 (A1 (A9 (B2 (E0 (A5 (A7 rfl (by exact Q0) j2 kb rfl) A8) (by (repeat first | exact Ch.refl _ | exact qc | refine Ch.upd ?_ | refine Ch.app ?_)) ?_))))
     have e : doT t r = (⟨t.tm, t.nx, t.lk.set k ⟨l.nm, l.tk, l.hd, l.ex, (l.ws.take (wix r.cl l.ws).toNat ++ l.ws.drop ((wix r.cl l.ws).toNat + 1))⟩, t.sn⟩, tellL 1 l) := by
      rw [E4 hk1 hh, hp]; unfold doL; rw [hl, if_pos ⟨by omega, by omega⟩]
     rw [e]
     refine ⟨rfl, T.lockS hk rfl ⟨l.nm, l.tk, l.hd, l.ex, (l.ws.take (wix r.cl l.ws).toNat ++ l.ws.drop ((wix r.cl l.ws).toNat + 1))⟩ (V.view (n + 1 + 1 + 1 + 1) 0 (l.ws.length - 1)) t.nx (by omega) ?_ ?_ ?_ ?_ ?_⟩
     ·exact Q0
     ·(simp (disch := (first | omega | assumption)) only [↓appC, ↓updN, ↓updS, ↓app0]); exact q3
     ·refine .inr ⟨n + 1 + 1 + 1 + 1, [], by rw [List.length_map, List.length_append, List.length_take, List.length_drop]; congr 1; omega, ?_⟩
      (simp (disch := (first | omega | assumption)) only [↓appC, ↓updN, ↓updS, ↓app0]); exact qD
     ·intro a ha; cases ha; exact ⟨by omega, .inr (by omega)⟩
     ·intro a ha h1 h2 h3
      (simp (disch := (first | omega | assumption)) only [↓appC, ↓updN, ↓updS, ↓app0]); exact qk a ha h1 h2
    ·refine A3 (A1 (wF rfl (B0 (A1 (A2 (A2 (C2 [0, 1, 3, 7, 0, 16, 63] rfl (by decide +kernel) ?_)))))))
     refine G6 j5 (G7 (v := .ptr _ _ _) j6 (D6 (off := 2) (s := 1) (r := false) j3 kz j3 ?_))
     (apply E1 (v := .int _ _) j2; exact Q0; exact Q1; exact j5)
     refine D6 (off := 0) (s := 1) (r := false) j3 kz j3 ?_
     (apply E1 (v := .int _ _) j2; exact Q0; exact Q1; exact j5)
     refine dne j6 ?_ ?_ <;> intro h16_6
     ·refine B1 7 [0, 1, 0, 1, 0, 0, 0] [] j2 (by decide +kernel) trivial ?_
      refine A1 (wT rfl (A2 (A2 (A0 (D9 j5 (F6 (v := .ptr _ _ _) j6 (C1 (off := 2) (s := 1) (r := false) j3 kz j3 ?_)))))))
      (apply C5 (v := .int _ _) j2; exact Q0; exact Q1; exact j5)
      refine I6 j6 ?_ ?_ <;> intro h17_4
      ·refine A3 (A1 (wT rfl (A2 (A0 (D9 j5 (F6 (v := .ptr _ _ _) j6 ?_))))))
       (apply F9 (vs := [.str _, .int _ _, .int _ _, .int _ _, _]) j2; exact Q0; exact Q1; rfl; exact kb; rfl; exact j3)
       apply J5 [wb] (J9 l false 4) rfl j2
       ·exact SnapL.cons _ _ _ _ (.one _ _ (.int _ _)) (SnapL.cons _ _ _ _ (SnapC.agg (.cons _ _ _ _ (.str _) (.cons _ _ _ _ (.int _ _) (.cons _ _ _ _ (.int _ _) (.cons _ _ _ _ (.int _ _) (.cons _ _ _ _ (D3 (hkw.mono (fun a ha => by have q := hfw a ha; have q1 := q.1; have q2 := q.2.1; have q3 := q.2.2; (simp (disch := (first | omega | assumption)) only [↓appC, ↓updN, ↓updS, ↓app0]))) (fun a ha => by cases ha; exact List.mem_singleton.2 rfl)) .nil)))))) SnapL.nil)
       ·rfl
       ·rfl
       ·rfl
       (apply D4 (u := .agg [.int _ _, .int _ _, .int _ _, .int _ _]) j3; exact Q0; exact Q1; rfl; rfl; rfl; rfl; exact kb; rfl; exact j2)
       refine A3 (A1 (A9 (B2 (B2 (E0 (A5 (A7 rfl (by exact Q0) j2 kb rfl) A8) (by (repeat first | exact Ch.refl _ | refine Ch.upd ?_ | refine Ch.app ?_ | assumption)) ?_)))))
       have e : doT t r = (t, tellL 4 l) := by
        rw [E4 hk1 hh, hp]; unfold doL; rw [hl, if_neg (fun e => by have e1 := e.1; have e2 := e.2; omega), if_pos (by omega)]
       rw [e]
       exact ⟨rfl, T.same (by omega) (fun a ha => by (simp (disch := (first | omega | assumption)) only [↓appC, ↓updN, ↓updS, ↓app0]))⟩
      ·refine A3 (A1 (wF rfl (B0 (A1 (A2 (A0 (D9 j5 (F6 (v := .ptr _ _ _) j6 ?_))))))))
       (apply F9 (vs := [.str _, .int _ _, .int _ _, .int _ _, _]) j2; exact Q0; exact Q1; rfl; exact kb; rfl; exact j3)
       apply J5 [wb] (J9 l false 5) rfl j2
       ·exact SnapL.cons _ _ _ _ (.one _ _ (.int _ _)) (SnapL.cons _ _ _ _ (SnapC.agg (.cons _ _ _ _ (.str _) (.cons _ _ _ _ (.int _ _) (.cons _ _ _ _ (.int _ _) (.cons _ _ _ _ (.int _ _) (.cons _ _ _ _ (D3 (hkw.mono (fun a ha => by have q := hfw a ha; have q1 := q.1; have q2 := q.2.1; have q3 := q.2.2; (simp (disch := (first | omega | assumption)) only [↓appC, ↓updN, ↓updS, ↓app0]))) (fun a ha => by cases ha; exact List.mem_singleton.2 rfl)) .nil)))))) SnapL.nil)
       ·rfl
       ·rfl
       ·rfl
       (apply D4 (u := .agg [.int _ _, .int _ _, .int _ _, .int _ _]) j3; exact Q0; exact Q1; rfl; rfl; rfl; rfl; exact kb; rfl; exact j2)
       refine A3 (A1 (A9 (B2 (E0 (A5 (A7 rfl (by exact Q0) j2 kb rfl) A8) (by (repeat first | exact Ch.refl _ | refine Ch.upd ?_ | refine Ch.app ?_ | assumption)) ?_))))
       have e : doT t r = (t, tellL 5 l) := by
        rw [E4 hk1 hh, hp]; unfold doL; rw [hl, if_neg (fun e => by have e1 := e.1; have e2 := e.2; omega), if_neg (by omega)]; exact if_pos (.inr (by assumption))
       rw [e]
       exact ⟨rfl, T.same (by omega) (fun a ha => by (simp (disch := (first | omega | assumption)) only [↓appC, ↓updN, ↓updS, ↓app0]))⟩
     ·refine B1 7 [0, 1, 0, 1, 0, 0, 0] [] j2 (by decide +kernel) trivial ?_
      refine A1 (wF rfl (B0 (A1 (A2 (A2 (A0 (C1 (off := 2) (s := 1) (r := false) j3 kz j3 ?_)))))))
      (apply C5 (v := .int _ _) j2; exact Q0; exact Q1; exact j5)
      refine H5 j6 ?_ ?_ <;> intro h20_2
      ·refine A3 (A1 (wT rfl (A2 ?_)))
       exfalso; omega
      ·refine A3 (A1 (wF rfl (B0 (A1 (A2 (A0 (D9 j5 (B6 j5 ?_))))))))
       refine K7 (o95k l (V.view wb pre.length l.ws.length) t.tm t.nx Ss (by omega) hwl htm (by omega) (id := id) (lb := lb) (j := k) (len := t.lk.length) (R := rwW t.lk W) (by omega) (by omega) hne (by exact Q0) hk hR (by exact Q0) hrow (hkw.mono (fun a ha => by have q := hfw a ha; have q1 := q.1; have q2 := q.2.1; have q3 := q.2.2; (simp (disch := (first | omega | assumption)) only [↓appC, ↓updN, ↓updS, ↓app0]))) (fun a ha => by have q := hfw a ha; exact ⟨by omega, q.2.2, q.2.1⟩)) rfl j5 ?_
       rintro p1 h23_2
       try dsimp only at h23_2
       refine A3 (A1 (A2 (A0 (D9 j5 (F6 (v := .ptr _ _ _) j6 (C1 (off := 2) (s := 1) (r := false) j3 kz j3 ?_))))))
       (apply C5 (v := .view _ _ _) j2; exact Q0; exact Q1; exact j5)
       refine B6 j5 ?_
       (refine r0 ((B9 (b := ⟨((rwW t.lk W).set k ((frL t.tm t.nx l).V p1.1)), 5, 29⟩) rfl rfl rfl rfl (by exact Q0) rfl (by omega) (by omega)).to (v' := .ptr (lb) k 0) (by rw [F7])) rfl rfl rfl ?_)
       (apply F9 (vs := [.str (frL t.tm t.nx l).nm, .int .i64 (frL t.tm t.nx l).tk, .int .i64 (frL t.tm t.nx l).hd, .int .i64 (frL t.tm t.nx l).ex, p1.1]) j2; exact Q0; exact List.getElem?_set_self hR; rfl; exact kb; rfl; exact j3)
       apply J5 (lb :: (fpV p1.1).toList) (J9 (frL t.tm t.nx l) false 1) rfl j2
       ·exact SnapL.cons _ _ _ _ (.one _ _ (.int _ _)) (SnapL.cons _ _ _ _ (SnapC.agg (.cons _ _ _ _ (.str _) (.cons _ _ _ _ (.int _ _) (.cons _ _ _ _ (.int _ _) (.cons _ _ _ _ (.int _ _) (.cons _ _ _ _ (D3 (h23_2.2 _ (by (simp (disch := (first | omega | assumption)) only [↓appC, ↓updN, ↓updS, ↓app0])) (fun a ha => by have q := hfw a ha; have q1 := q.1; have q2 := q.2.1; have q3 := q.2.2; (simp (disch := (first | omega | assumption)) only [↓appC, ↓updN, ↓updS, ↓app0]))) (fun a ha => by exact List.mem_cons_of_mem _ (Option.mem_toList.2 ha))) .nil)))))) SnapL.nil)
       ·rfl
       ·rfl
       ·rfl
       (apply D4 (u := .agg [.int _ _, .int _ _, .int _ _, .int _ _]) j3; exact Q0; exact Q1; rfl; rfl; rfl; rfl; exact kb; rfl; exact j2)
       refine A3 (A1 (A9 (E0 (A5 (A7 rfl (by exact Q0) j2 kb rfl) A8) (by (repeat first | exact Ch.refl _ | refine Ch.upd ?_ | refine Ch.app ?_ | assumption)) ?_)))
       have e : doT t r = (⟨t.tm, frN t.nx l, t.lk.set k (frL t.tm t.nx l), t.sn⟩, tellL 1 (frL t.tm t.nx l)) := by
        rw [E4 hk1 hh, hp]; unfold doL; rw [hl, if_neg (fun e => by have e1 := e.1; have e2 := e.2; omega), if_neg (by omega), if_neg (fun e => e.elim (fun q => by omega) (fun q => by omega)), if_neg (by omega)]
       rw [e]
       refine ⟨rfl, T.lockS hk rfl (frL t.tm t.nx l) p1.1 (frN t.nx l) (by omega) ?_ ?_ (h23_2.2 _ (by (simp (disch := (first | omega | assumption)) only [↓appC, ↓updN, ↓updS, ↓app0])) (fun a ha => by have q := hfw a ha; have q1 := q.1; have q2 := q.2.1; have q3 := q.2.2; (simp (disch := (first | omega | assumption)) only [↓appC, ↓updN, ↓updS, ↓app0]))) (fun a ha => ?_) (fun a ha h1 h2 h3 => by (simp (disch := (first | omega | assumption)) only [↓appC, ↓updN, ↓updS, ↓app0]))⟩
       ·exact Q0
       ·(simp (disch := (first | omega | assumption)) only [↓appC, ↓updN, ↓updS, ↓app0]); first | done | rfl
       ·rcases h23_2.1 a ha with e | e
        ·exact ⟨by omega, .inr (by omega)⟩
        ·have q := hfw a e; exact ⟨by omega, .inl (by rw [hwk]; exact e)⟩
   ·refine A3 (A1 (wF rfl (B0 (A1 (A2 (A2 (C2 [0, 1, 3, 7, 0, 16, 63] rfl (by decide +kernel) ?_)))))))
    refine G6 j5 (G7 (v := .ptr _ _ _) j6 (D6 (off := 2) (s := 1) (r := false) j3 kz j3 ?_))
    (apply E1 (v := .int _ _) j2; exact Q0; exact Q1; exact j5)
    refine D6 (off := 0) (s := 1) (r := false) j3 kz j3 ?_
    (apply E1 (v := .int _ _) j2; exact Q0; exact Q1; exact j5)
    refine dne j6 ?_ ?_ <;> intro h16_6
    ·refine B1 7 [0, 1, 0, 1, 0, 0, 0] [] j2 (by decide +kernel) trivial ?_
     refine A1 (wT rfl (A2 (A2 (A0 (D9 j5 (F6 (v := .ptr _ _ _) j6 (C1 (off := 2) (s := 1) (r := false) j3 kz j3 ?_)))))))
     (apply C5 (v := .int _ _) j2; exact Q0; exact Q1; exact j5)
     refine I6 j6 ?_ ?_ <;> intro h17_4
     ·refine A3 (A1 (wT rfl (A2 (A0 (D9 j5 (F6 (v := .ptr _ _ _) j6 ?_))))))
      (apply F9 (vs := [.str _, .int _ _, .int _ _, .int _ _, _]) j2; exact Q0; exact Q1; rfl; exact kb; rfl; exact j3)
      apply J5 [wb] (J9 l false 4) rfl j2
      ·exact SnapL.cons _ _ _ _ (.one _ _ (.int _ _)) (SnapL.cons _ _ _ _ (SnapC.agg (.cons _ _ _ _ (.str _) (.cons _ _ _ _ (.int _ _) (.cons _ _ _ _ (.int _ _) (.cons _ _ _ _ (.int _ _) (.cons _ _ _ _ (D3 (hkw.mono (fun a ha => by have q := hfw a ha; have q1 := q.1; have q2 := q.2.1; have q3 := q.2.2; (simp (disch := (first | omega | assumption)) only [↓appC, ↓updN, ↓updS, ↓app0]))) (fun a ha => by cases ha; exact List.mem_singleton.2 rfl)) .nil)))))) SnapL.nil)
      ·rfl
      ·rfl
      ·rfl
      (apply D4 (u := .agg [.int _ _, .int _ _, .int _ _, .int _ _]) j3; exact Q0; exact Q1; rfl; rfl; rfl; rfl; exact kb; rfl; exact j2)
      refine A3 (A1 (A9 (B2 (B2 (E0 (A5 (A7 rfl (by exact Q0) j2 kb rfl) A8) (by (repeat first | exact Ch.refl _ | refine Ch.upd ?_ | refine Ch.app ?_ | assumption)) ?_)))))
      have e : doT t r = (t, tellL 4 l) := by
       rw [E4 hk1 hh, hp]; unfold doL; rw [hl, if_neg (fun e => by have e1 := e.1; have e2 := e.2; omega), if_pos (by omega)]
      rw [e]
      exact ⟨rfl, T.same (by omega) (fun a ha => by (simp (disch := (first | omega | assumption)) only [↓appC, ↓updN, ↓updS, ↓app0]))⟩
     ·refine A3 (A1 (wF rfl (B0 (A1 (A2 (A0 (D9 j5 (F6 (v := .ptr _ _ _) j6 ?_))))))))
      (apply F9 (vs := [.str _, .int _ _, .int _ _, .int _ _, _]) j2; exact Q0; exact Q1; rfl; exact kb; rfl; exact j3)
      apply J5 [wb] (J9 l false 5) rfl j2
      ·exact SnapL.cons _ _ _ _ (.one _ _ (.int _ _)) (SnapL.cons _ _ _ _ (SnapC.agg (.cons _ _ _ _ (.str _) (.cons _ _ _ _ (.int _ _) (.cons _ _ _ _ (.int _ _) (.cons _ _ _ _ (.int _ _) (.cons _ _ _ _ (D3 (hkw.mono (fun a ha => by have q := hfw a ha; have q1 := q.1; have q2 := q.2.1; have q3 := q.2.2; (simp (disch := (first | omega | assumption)) only [↓appC, ↓updN, ↓updS, ↓app0]))) (fun a ha => by cases ha; exact List.mem_singleton.2 rfl)) .nil)))))) SnapL.nil)
      ·rfl
      ·rfl
      ·rfl
      (apply D4 (u := .agg [.int _ _, .int _ _, .int _ _, .int _ _]) j3; exact Q0; exact Q1; rfl; rfl; rfl; rfl; exact kb; rfl; exact j2)
      refine A3 (A1 (A9 (B2 (E0 (A5 (A7 rfl (by exact Q0) j2 kb rfl) A8) (by (repeat first | exact Ch.refl _ | refine Ch.upd ?_ | refine Ch.app ?_ | assumption)) ?_))))
      have e : doT t r = (t, tellL 5 l) := by
       rw [E4 hk1 hh, hp]; unfold doL; rw [hl, if_neg (fun e => by have e1 := e.1; have e2 := e.2; omega), if_neg (by omega)]; exact if_pos (.inr (by assumption))
      rw [e]
      exact ⟨rfl, T.same (by omega) (fun a ha => by (simp (disch := (first | omega | assumption)) only [↓appC, ↓updN, ↓updS, ↓app0]))⟩
    ·refine B1 7 [0, 1, 0, 1, 0, 0, 0] [] j2 (by decide +kernel) trivial ?_
     refine A1 (wF rfl (B0 (A1 (A2 (A2 (A0 (C1 (off := 2) (s := 1) (r := false) j3 kz j3 ?_)))))))
     (apply C5 (v := .int _ _) j2; exact Q0; exact Q1; exact j5)
     refine H5 j6 ?_ ?_ <;> intro h20_2
     ·refine A3 (A1 (wT rfl (A2 (C2 [0, 0, 2, 6, 14, 0, 32, 126, 255, 511, 1023] rfl (by decide +kernel) ?_))))
      refine G6 j5 (G6 j5 (G7 (v := .ptr _ _ _) j6 (D6 (off := 0) (s := 1) (r := false) j3 kz j3 ?_)))
      (apply E1 (v := .int _ _) j2; exact Q0; exact Q1; exact j5)
      refine D6 (off := 3) (s := 1) (r := false) j3 kz j3 ?_
      (apply E1 (v := .int _ _) j2; exact Q0; exact Q1; exact j5)
      refine dcl (s132 t.tm r.le htm hle) rfl j5 (G7 (v := .ptr _ _ _) j6 (D6 (off := 3) (s := 1) (r := false) j3 kz j3 ?_))
      (apply dst (u := .int _ _) rfl rfl rfl; exact Q0; exact Q1; rfl; rfl; rfl; rfl; exact kb; rfl; rfl; rfl)
      refine B1 11 [3, 0, 0, 0, 1, 0, 1, 0, 0, 0, 0] [] j2 (by decide +kernel) trivial ?_
      refine A1 (A2 (A0 (D9 j5 (F6 (v := .ptr _ _ _) j6 ?_))))
      (apply F9 (vs := [.str _, .int _ _, .int _ _, .int _ _, _]) j2; exact Q0; exact Q1; rfl; exact kb; rfl; exact j3)
      apply J5 [wb] (J9 ⟨l.nm, l.tk, l.hd, t.tm + r.le, l.ws⟩ false 1) rfl j2
      ·exact SnapL.cons _ _ _ _ (.one _ _ (.int _ _)) (SnapL.cons _ _ _ _ (SnapC.agg (.cons _ _ _ _ (.str _) (.cons _ _ _ _ (.int _ _) (.cons _ _ _ _ (.int _ _) (.cons _ _ _ _ (.int _ _) (.cons _ _ _ _ (D3 (hkw.mono (fun a ha => by have q := hfw a ha; have q1 := q.1; have q2 := q.2.1; have q3 := q.2.2; (simp (disch := (first | omega | assumption)) only [↓appC, ↓updN, ↓updS, ↓app0]))) (fun a ha => by cases ha; exact List.mem_singleton.2 rfl)) .nil)))))) SnapL.nil)
      ·rfl
      ·rfl
      ·rfl
      (apply D4 (u := .agg [.int _ _, .int _ _, .int _ _, .int _ _]) j3; exact Q0; exact Q1; rfl; rfl; rfl; rfl; exact kb; rfl; exact j2)
      refine A3 (A1 (A9 (B2 (E0 (A5 (A7 rfl (by exact Q0) j2 kb rfl) A8) (by (repeat first | exact Ch.refl _ | refine Ch.upd ?_ | refine Ch.app ?_ | assumption)) ?_))))
      have e : doT t r = (⟨t.tm, t.nx, t.lk.set k ⟨l.nm, l.tk, l.hd, t.tm + r.le, l.ws⟩, t.sn⟩, ⟨1, l.tk, l.hd, t.tm + r.le⟩) := by
       rw [E4 hk1 hh, hp]; unfold doL; rw [hl, if_neg (fun e => by have e1 := e.1; have e2 := e.2; omega), if_neg (by omega), if_neg (fun e => e.elim (fun q => by omega) (fun q => by omega)), if_pos (by assumption)]
      rw [e]
      refine ⟨rfl, T.lockS hk rfl ⟨l.nm, l.tk, l.hd, t.tm + r.le, l.ws⟩ (V.view wb pre.length l.ws.length) t.nx (by omega) ?_ ?_ (hkw.mono (fun a ha => by have q := hfw a ha; have q1 := q.1; have q2 := q.2.1; have q3 := q.2.2; (simp (disch := (first | omega | assumption)) only [↓appC, ↓updN, ↓updS, ↓app0]))) (fun a ha => by have q := hfw a ha; exact ⟨by omega, .inl (by rw [hwk]; exact ha)⟩) (fun a ha h1 h2 h3 => by (simp (disch := (first | omega | assumption)) only [↓appC, ↓updN, ↓updS, ↓app0]))⟩
      ·exact Q0
      ·(simp (disch := (first | omega | assumption)) only [↓appC, ↓updN, ↓updS, ↓app0]); rfl
     ·refine A3 (A1 (wF rfl (B0 (A1 (A2 ?_)))))
      exfalso; omega
open Go.V
set_option linter.unusedVariables false
set_option linter.unusedSimpArgs false
set_option maxRecDepth 20000
set_option maxHeartbeats 4000000
theorem o106a (t : Tb) (r : Rq) (bd : Bd t r) (hhd0 : ∀ i, i < t.lk.length → -1 ≤ (t.lk.getD i Lk0).hd) {id : Nat} {Sl Ss : V} {W : Nat → V} {h : Heap} {n : Nat} (T : TabM t id Sl Ss W h n) (hk1 : r.kd = 1) : OpenM En 106 [.ptr id 0 0, .agg [.int .i64 r.cl, .int .i64 r.st, .int .i64 r.kd, .int .i64 r.le, .str r.nm]] h n (fun v g m => v = .agg (doT t r).2.V ∧ TabS (doT t r).1 id (OwnT id Sl Ss W t.lk.length) n h g m) := by
 have hid := T.idn
 have kid := T.kid
 have hl4 := bd.l4; have htm := bd.tm; have hnx := bd.nx; have hcl := bd.cl; have hle := bd.le
 refine OpenM.of_wp Try.func106 rfl kb ?_
 refine A2 (A0 (L7 (u := .agg [.int _ _, .int _ _, .int _ _, .int _ _, .str _]) j3 rfl j3 (H3 j6 (A3 (A1 (A2 (A2 (A0 (C1 (off := 2) (s := 1) (r := false) j3 kz j3 ?_)))))))))
 (apply C5 (v := .int _ _) j2; exact Q0; rfl; exact j5)
 refine H5 j6 ?_ (fun h => absurd (hk1) h)
 intro h1_2
 refine A3 (A1 (wT rfl (A2 (A0 (D9 j5 ?_)))))
 (apply F9 (vs := [.int _ _, .int _ _, .int _ _, .int _ _, .str _]) j2; exact Q0; rfl; rfl; exact kb; rfl; exact j3)
 refine K9 (o129 t r bd hhd0 (T.ext (by omega) (fun a ha => by (simp (disch := (first | omega | assumption)) only [↓appC, ↓updN, ↓updS, ↓app0])))) rfl j5 ?_
 rintro _ g m ⟨rfl, S⟩ hc hle2
 have q2 : g (n + 1) = some ⟨[[.int .i64 0, .int .i64 0, .int .i64 0, .int .i64 0]], 4, 60⟩ := by
  obtain ⟨_, _, _, _, _, s2, _⟩ := S
  rw [s2 (n + 1) (by omega) (fun o => by have := T.lt o; omega)]
  (simp (disch := (first | omega | assumption)) only [↓appC, ↓updN, ↓updS, ↓app0]); rfl
 (apply D4 (u := .agg [.int _ _, .int _ _, .int _ _, .int _ _]) j3; exact Q0; rfl; rfl; rfl; rfl; rfl; exact kb; rfl; exact j2)
 refine A3 (A1 (A9 (B2 ?_)))
 refine E0 (A5 (A7 rfl (by exact Q0) j2 kb rfl) A8) (by first | exact Ch.refl _ | (refine Ch.app ?_; refine Ch.trans ?_ hc; (repeat first | exact Ch.refl _ | refine Ch.upd ?_ | refine Ch.app ?_ | assumption))) ?_
 rw [doT_acq hk1]
 refine ⟨rfl, S.out T.ownLt (by omega) (fun a ha => by (simp (disch := (first | omega | assumption)) only [↓appC, ↓updN, ↓updS, ↓app0])) (fun a ha => by (simp (disch := (first | omega | assumption)) only [↓appC, ↓updN, ↓updS, ↓app0])) (by omega)⟩
theorem o106n (t : Tb) (r : Rq) (bd : Bd t r) (hhd0 : ∀ i, i < t.lk.length → -1 ≤ (t.lk.getD i Lk0).hd) {id : Nat} {Sl Ss : V} {W : Nat → V} {h : Heap} {n : Nat} (T : TabM t id Sl Ss W h n) (hk1 : ¬ r.kd = 1) (hh : ¬ hit r.nm t.lk) : OpenM En 106 [.ptr id 0 0, .agg [.int .i64 r.cl, .int .i64 r.st, .int .i64 r.kd, .int .i64 r.le, .str r.nm]] h n (fun v g m => v = .agg (doT t r).2.V ∧ TabS (doT t r).1 id (OwnT id Sl Ss W t.lk.length) n h g m) := by
 have hid := T.idn
 have kid := T.kid
 have hl4 := bd.l4; have htm := bd.tm; have hnx := bd.nx; have hcl := bd.cl; have hle := bd.le
 have hf := s43 t false false false r.nm bd.srt (by omega)
 rw [fix_no hh] at hf
 refine OpenM.of_wp Try.func106 rfl kb ?_
 refine A2 (A0 (L7 (u := .agg [.int _ _, .int _ _, .int _ _, .int _ _, .str _]) j3 rfl j3 (H3 j6 (A3 (A1 (A2 (A2 (A0 (C1 (off := 2) (s := 1) (r := false) j3 kz j3 ?_)))))))))
 (apply C5 (v := .int _ _) j2; exact Q0; rfl; exact j5)
 refine H5 j6 (fun h => absurd h (hk1)) ?_
 intro h1_2
 refine A3 (A1 (wF rfl (B0 (A1 (A2 (C2 [0, 1, 3, 0, 8, 31, 63] rfl (by decide +kernel) ?_))))))
 refine G6 j5 (G7 (v := .ptr _ _ _) j6 ?_)
 (apply L8 (vs := [.int _ _, .int _ _, _, _]) j2; exact Q0; rfl; rfl; exact kb; exact j4)
 refine D6 (off := 4) (s := 1) (r := false) j3 kz j3 ?_
 (apply E1 (v := .str _) j2; exact Q0; rfl; exact j5)
 apply O8 (id :: tabIds Sl Ss W t.lk.length) hf rfl j2
 ·exact SnapL.cons _ _ _ _ (H2 (T.ext (m := n + 1 + 1) (by omega) (fun a ha => by (simp (disch := (first | omega | assumption)) only [↓appC, ↓updN, ↓updS, ↓app0]))).kl (T.ext (m := n + 1 + 1) (by omega) (fun a ha => by (simp (disch := (first | omega | assumption)) only [↓appC, ↓updN, ↓updS, ↓app0]))).ks (T.ext (m := n + 1 + 1) (by omega) (fun a ha => by (simp (disch := (first | omega | assumption)) only [↓appC, ↓updN, ↓updS, ↓app0]))).kw (fun a ha => List.mem_cons_of_mem _ ha)) (SnapL.cons _ _ _ _ (.one _ _ (.str _)) SnapL.nil)
 ·rfl
 ·rfl
 ·rfl
 refine daI j5 (B1 7 [0, 1, 1, 0, 1, 0, 0] [] j2 (by decide +kernel) trivial ?_)
 refine A1 (A2 (A2 (A0 (B6 j5 ?_))))
 refine I6 j6 ?_ (fun h => absurd ((by show (-1 : Int) < 0; decide)) h)
 intro h4_1
 refine A3 (A1 (wT rfl (A2 (A0 (L6 (cs := [.int _ _, .int _ _, .int _ _, .int _ _]) j5 ?_)))))
 (apply D4 (u := .agg [.int _ _, .int _ _, .int _ _, .int _ _]) j3; exact Q0; rfl; rfl; rfl; rfl; rfl; exact kb; rfl; exact j2)
 refine A3 (A1 (A9 (B2 (E0 (A5 (A7 rfl (by exact Q0) j2 kb rfl) A8) (by (repeat first | exact Ch.refl _ | refine Ch.upd ?_ | refine Ch.app ?_ | assumption)) ?_))))
 rw [doT_no hk1 hh]
 exact ⟨rfl, T.same (by omega) (fun a ha => by (simp (disch := (first | omega | assumption)) only [↓appC, ↓updN, ↓updS, ↓app0]))⟩
theorem o106 (t : Tb) (r : Rq) (bd : Bd t r) (hhd0 : ∀ i, i < t.lk.length → -1 ≤ (t.lk.getD i Lk0).hd) {id : Nat} {Sl Ss : V} {W : Nat → V} {h : Heap} {n : Nat} (T : TabM t id Sl Ss W h n) (hkd : r.kd ≤ 4 ∧ 1 ≤ r.kd) : OpenM En 106 [.ptr id 0 0, .agg [.int .i64 r.cl, .int .i64 r.st, .int .i64 r.kd, .int .i64 r.le, .str r.nm]] h n (fun v g m => v = .agg (doT t r).2.V ∧ TabS (doT t r).1 id (OwnT id Sl Ss W t.lk.length) n h g m) := by
 by_cases hk1 : r.kd = 1
 ·exact o106a t r bd hhd0 T hk1
 ·by_cases hh : hit r.nm t.lk
  ·rcases T.kl with ⟨rfl, k⟩ | ⟨lb, rfl, k⟩
   ·have hl : t.lk.length = 0 := by have := congrArg List.length k; rw [B5] at this; exact this
    exact absurd hh.1 (by omega)
   ·rw [B5] at T ⊢
    exact o106h t r bd hhd0 hkd hk1 hh rfl T
  ·exact o106n t r bd hhd0 T hk1 hh
open Go.V
set_option linter.unusedVariables false
set_option linter.unusedSimpArgs false
set_option maxRecDepth 20000
set_option maxHeartbeats 4000000
def idZ (v : V) : Nat := (fpV v).getD 0
def slZ (v : V) (a b : Nat) : V := match v with | .view id off _ => .view id (off + a) (b - a) | _ => .nsl
section
variable {E : Env} {o : Oper} {t : Nat → V} {h : Heap} {n : Nat}
theorem OpOK.rdMore {v : V} {rd rd2 : List Nat} {wr : List (Nat × Option Blk)} {m : Nat} (H : OpOK E o t h n rd false v wr m) (hs : ∀ a ∈ rd, a ∈ rd2) : OpOK E o t h n rd2 false v wr m := by
 intro c a h2 K Q hd hx hg hrd ht hf hK
 exact H c a h2 K Q hd hx hg (fun id hid => hrd id (hs id hid)) ht hf hK
theorem K5 {ty e : TypeId} {x y : Operand} {k : IntKind} {m : Int} {v : V} {rows : List (List V)} {sz tyy : Nat} (G0 : o.op = .indexAddr ty x y ∧ E.eval t x = v ∧ E.eval t y = .int k m ∧ sliceP E.P ty = some (e, sz)) (hz : IsZ h v rows sz tyy) (h0 : 0 ≤ m) (h1 : m < rows.length) :
  OpOK E o t h n [idZ v] false (.ptr (idZ v) m.toNat 0) [] n := by
 obtain ⟨ho, hx, hy, hs⟩ := G0
 obtain ⟨id, rfl, hk⟩ := hz.some (by omega)
 have := B9 (n := n) ho hx hy hs hk rfl h0 h1
 rw [Nat.zero_add] at this; exact this
theorem P5 {ty e : TypeId} {x : Operand} {lo hi : Option Operand} {v : V} {rows : List (List V)} {sz tyy : Nat} {l r : Int} (G0 : o.op = .slice ty x lo hi none ∧ E.eval t x = v ∧ sliceP E.P ty = some (e, sz)) (hz : IsZ h v rows sz tyy) (hl : bndV E t lo 0 = some l) (hr : bndV E t hi rows.length = some r) (h0 : 0 ≤ l) (h1 : l ≤ r) (h2 : r ≤ rows.length) :
  OpOK E o t h n [idZ v] false (slZ v l.toNat r.toNat) [] n := by
 obtain ⟨ho, hx, hs⟩ := G0
 rcases hz with ⟨rfl, rfl⟩ | ⟨id, rfl, hk⟩
 ·simp only [List.length_nil] at hr h2
  obtain rfl : l = 0 := by omega
  obtain rfl : r = 0 := by omega
  exact OpOK.rdMore (V5 ho hx hs hl hr) (fun a ha => absurd ha List.not_mem_nil)
 ·exact N7 ho hx hs hk rfl hl hr h0 h1 h2
end
theorem srcZ {h : Heap} {v : V} {rows : List (List V)} {sz ty a b : Nat} (hz : IsZ h v rows sz ty) (hab : a ≤ b) (hb : b ≤ rows.length) : srcV h (slZ v a b) = some ((rows.drop a).take (b - a)) := by
 rcases hz with ⟨rfl, rfl⟩ | ⟨id, rfl, hk⟩
 ·simp [slZ, srcV]
 ·simp only [slZ, srcV, hk]
  rw [if_pos (by omega), Nat.zero_add]
theorem idsZ (v : V) (a b : Nat) : ∀ x ∈ srcIds (slZ v a b), x = idZ v := fun x hx => by
 unfold slZ at hx
 split at hx
 ·exact List.mem_singleton.1 hx
 ·exact absurd hx List.not_mem_nil
theorem kZ {h : Heap} {v : V} {rows : List (List V)} {sz ty : Nat} (hz : IsZ h v rows sz ty) (hn : 0 < rows.length) : h (idZ v) = some ⟨rows, sz, ty⟩ := by
 obtain ⟨id, rfl, hk⟩ := hz.some hn
 exact hk
theorem fpZ {h : Heap} {v : V} {rows : List (List V)} {sz ty : Nat} (hz : IsZ h v rows sz ty) (hn : 0 < rows.length) : fpV v = some (idZ v) := by
 obtain ⟨id, rfl, hk⟩ := hz.some hn
 rfl
end Go.Proofs.Ytknnniaoboaghaa
