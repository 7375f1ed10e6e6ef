import Derived.Test.YtknnniaoboaghaaF9
namespace Go.Proofs.Ytknnniaoboaghaa
open Go.V
set_option linter.unusedVariables false
set_option linter.unusedSimpArgs false
set_option maxRecDepth 20000
set_option maxHeartbeats 4000000
theorem P7 {t : Tb} {k : Nat} {r : Rq} {l : Lk} (hl : t.lk.getD k Lk0 = l) (h : l.hd = r.cl ∨ 0 ≤ wix r.cl l.ws) : acqL t k r = (t, tellL 8 l) := by subst hl; exact if_pos h
theorem o124k (nm : ByteArray) (tk hd ex tm nx c le : Int) (W Ss : V) (hW : W.cell = true) (ht : 0 ≤ tm ∧ tm ≤ 1000000000) (hn : 0 ≤ nx ∧ nx ≤ 999999) (hle : 0 ≤ le ∧ le ≤ 1000) {id lb j len : Nat} {R : List (List V)} {h : Heap} {n : Nat} (hid : id < n) (hlb : lb < n) (hne : lb ≠ id) (hh : h id = some ⟨[[.int .i64 tm, .int .i64 nx, .view lb 0 len, Ss]], 4, 35⟩) (hjl : j < len) (hj : j < R.length) (k1 : h lb = some ⟨R, 5, 29⟩) (k2 : R[j]? = some [.str nm, .int .i64 tk, .int .i64 hd, .int .i64 ex, W]) :
  V.Open En 124 [.ptr id 0 0, .int .i64 j, .int .i64 c, .int .i64 le] h n (.tup []) [(lb, some ⟨R.set j [.str nm, .int .i64 nx, .int .i64 c, .int .i64 (tm + le), W], 5, 29⟩), (id, some ⟨[[.int .i64 tm, .int .i64 (nx + 1), .view lb 0 len, Ss]], 4, 35⟩)] n := by
 have := o124 nm tk hd ex tm nx c le W Ss hW ht hn hle hid hlb hne hh hjl (j := j) (R := R) (by omega) k1 (by rw [Nat.zero_add]; exact k2)
 rwa [Nat.zero_add] at this
theorem o129h (t : Tb) (r : Rq) (bd : Bd t r) (hhd0 : ∀ i, i < t.lk.length → -1 ≤ (t.lk.getD i Lk0).hd) (hh : hit r.nm t.lk) {k : Nat} (hp : pos r.nm t.lk = k) {id lb : Nat} {Ss : V} {W : Nat → V} {h : Heap} {n : Nat} (T : TabM t id (.view lb 0 t.lk.length) Ss W h n) : OpenM En 129 [.ptr id 0 0, .agg [.int .i64 r.cl, .int .i64 r.st, .int .i64 r.kd, .int .i64 r.le, .str r.nm]] h n (fun v g m => v = .agg (acqT t r).2.V ∧ TabS (acqT t r).1 id (OwnT id (.view lb 0 t.lk.length) Ss W t.lk.length) n h g m) := by
 have hid := T.idn
 have kid := T.kid
 have hl4 := bd.l4; have htm := bd.tm; have hnx := bd.nx; have hcl := bd.cl; have hle := bd.le
 have hf := s43 t false false false r.nm bd.srt (by omega)
 rw [fix_hit hh, hp] at hf
 have hk : k < t.lk.length := by rw [← hp]; exact hh.1
 have hR : k < (rwW t.lk W).length := by rw [B5]; exact hk
 have hw4 := bd.w4 k hk
 have klb : h lb = some ⟨rwW t.lk W, 5, 29⟩ := by
  rcases T.kl with ⟨e, _⟩ | ⟨b, e, q⟩
  ·cases e
  ·injection e with e1 e2 e3; rw [e1]; exact q
 have hlb := T.fl lb rfl
 have hne := hlb.2
 have hkw := T.kw k hk
 have hfw := fun a ha => (T.fw k a hk ha)
 have hfw := fun a ha => (⟨(hfw a ha).1, (hfw a ha).2.1, fun e => (hfw a ha).2.2.1 (by rw [e]; rfl)⟩ : a < n ∧ a ≠ id ∧ a ≠ lb)
 have hrow := F4 (W := W) hk
 have hhd := hhd0 k hk
 generalize hl : t.lk.getD k Lk0 = l at hkw hrow hw4 hhd
 generalize hwk : W k = w at hkw hrow hfw
 have hwc := hkw.cell
 unfold Lk.V at hrow
 rcases hkw with ⟨rfl, hws⟩ | ⟨wb, pre, hw, kwb⟩
 ·have hkw : IsL h .nsl (l.ws.map wtV) 2 123 := .inl ⟨rfl, hws⟩
  have hwz : l.ws.length = 0 := by rw [List.map_eq_nil_iff.1 hws]; rfl
  refine OpenM.of_wp Try.func129 rfl kb ?_
  refine A2 (A0 (L7 (u := .agg [.int _ _, .int _ _, .int _ _, .int _ _, .str _]) j3 rfl j3 (H3 j6 (A3 (A1 (A2 (C2 [0, 1, 3, 0, 8, 31, 63] rfl (by decide +kernel) ?_)))))))
  refine G6 j5 (G7 (v := .ptr _ _ _) j6 ?_)
  (apply L8 (vs := [.int _ _, .int _ _, _, _]) j2; exact Q0; exact Q1; rfl; exact kb; exact j4)
  refine D6 (off := 4) (s := 1) (r := false) j3 kz j3 ?_
  (apply E1 (v := .str _) j2; exact Q0; exact Q1; exact j5)
  apply O8 (id :: tabIds (.view lb 0 t.lk.length) Ss W t.lk.length) hf rfl j2
  ·exact SnapL.cons _ _ _ _ (H2 (T.ext (m := n + 1 + 1) (by omega) (fun a ha => by (simp (disch := (first | omega | assumption)) only [↓appC, ↓updN, ↓updS, ↓app0]))).kl (T.ext (m := n + 1 + 1) (by omega) (fun a ha => by (simp (disch := (first | omega | assumption)) only [↓appC, ↓updN, ↓updS, ↓app0]))).ks (T.ext (m := n + 1 + 1) (by omega) (fun a ha => by (simp (disch := (first | omega | assumption)) only [↓appC, ↓updN, ↓updS, ↓app0]))).kw (fun a ha => List.mem_cons_of_mem _ ha)) (SnapL.cons _ _ _ _ (.one _ _ (.str _)) SnapL.nil)
  ·rfl
  ·rfl
  ·rfl
  refine daI j5 (B1 7 [0, 1, 1, 0, 1, 0, 0] [] j2 (by decide +kernel) trivial ?_)
  refine A1 (A2 (A2 (A0 (B6 j5 ?_))))
  refine I6 j6 (fun h => absurd h (by omega)) ?_
  intro h2_1
  refine A3 (A1 (wF rfl (B0 (A1 (A2 (A0 (D9 j5 (F6 (v := .ptr _ _ _) j6 (C1 (off := 2) (s := 1) (r := false) j3 kz j3 ?_)))))))))
  (apply C5 (v := .view _ _ _) j2; exact Q0; exact Q1; exact j5)
  refine B6 j5 ?_
  (refine r0 ((B9 (b := ⟨rwW t.lk W, 5, 29⟩) rfl rfl rfl rfl (by exact Q0) rfl (by omega) (by omega)).to (v' := .ptr (lb) k 0) (by rw [F7])) rfl rfl rfl ?_)
  refine raP j5 (A3 (A1 (A2 (B3 (A2 (C2 [0, 1, 3, 7, 0, 16, 63, 127, 255, 511, 1023, 255, 2303, 8191, 16383, 32767, 65535] rfl (by decide +kernel) ?_))))))
  refine G6 j5 (G7 (v := .ptr _ _ _) j6 (D6 (off := 2) (s := 1) (r := false) j3 kz j3 ?_))
  (apply E1 (v := .int _ _) j2; exact Q0; exact Q1; exact j5)
  refine D6 (off := 0) (s := 1) (r := false) j3 kz j3 ?_
  (apply E1 (v := .int _ _) j2; exact Q0; exact Q1; exact j5)
  refine deq j6 ?_ ?_ <;> intro h11_6
  ·refine H8 j5 (A6 j3 (A6 j3 (A6 j3 (A6 j3 (A6 j3 (A6 j3 (A6 j3 (G5 (e := true) j6 (K3 j5 (B1 17 [0, 0, 0, 0, 0, 0, 0, 0, 0, 0, 0, 1, 0, 1, 0, 0, 0] [] j2 (by decide +kernel) trivial ?_))))))))))
   refine A1 (wT rfl (A2 (A0 (D9 j5 (F6 (v := .ptr _ _ _) j6 ?_)))))
   (apply F9 (vs := [.str _, .int _ _, .int _ _, .int _ _, _]) j2; exact Q0; exact Q1; rfl; exact kb; rfl; exact j3)
   apply J5 [lb] (J9 l false 8) rfl j2
   ·exact SnapL.cons _ _ _ _ (.one _ _ (.int _ _)) (SnapL.cons _ _ _ _ (SnapC.agg (.cons _ _ _ _ (.str _) (.cons _ _ _ _ (.int _ _) (.cons _ _ _ _ (.int _ _) (.cons _ _ _ _ (.int _ _) (.cons _ _ _ _ (D3 (hkw.mono (fun a ha => by have q := hfw a ha; have q1 := q.1; have q2 := q.2.1; have q3 := q.2.2; (simp (disch := (first | omega | assumption)) only [↓appC, ↓updN, ↓updS, ↓app0]))) (fun a ha => by cases ha)) .nil)))))) SnapL.nil)
   ·rfl
   ·rfl
   ·rfl
   (apply D4 (u := .agg [.int _ _, .int _ _, .int _ _, .int _ _]) j3; exact Q0; exact Q1; rfl; rfl; rfl; rfl; exact kb; rfl; exact j2)
   refine A3 (A1 (A9 (B4 (B2 (E0 (A5 (A7 rfl (by exact Q0) j2 kb rfl) A8) (by (repeat first | exact Ch.refl _ | refine Ch.upd ?_ | refine Ch.app ?_ | assumption)) ?_)))))
   have e : acqT t r = (t, tellL 8 l) := by
    rw [F5 hh, hp]; exact P7 hl (by first | exact .inl h11_6 | exact .inr h11_14)
   rw [e]
   exact ⟨rfl, T.same (by omega) (fun a ha => by (simp (disch := (first | omega | assumption)) only [↓appC, ↓updN, ↓updS, ↓app0]))⟩
  ·refine H8 j5 (G6 j5 (G7 (v := .ptr _ _ _) j6 ?_))
   (apply L8 (vs := [.str _, .int _ _, .int _ _, .int _ _, _]) j2; exact Q0; exact Q1; rfl; exact kb; exact j4)
   refine D6 (off := 0) (s := 1) (r := false) j3 kz j3 ?_
   (apply E1 (v := .int _ _) j2; exact Q0; exact Q1; exact j5)
   apply O8 [lb] (s131 l false r.cl (by omega)) rfl j2
   ·exact SnapL.cons _ _ _ _ (SnapC.agg (.cons _ _ _ _ (.str _) (.cons _ _ _ _ (.int _ _) (.cons _ _ _ _ (.int _ _) (.cons _ _ _ _ (.int _ _) (.cons _ _ _ _ (D3 (hkw.mono (fun a ha => by have q := hfw a ha; have q1 := q.1; have q2 := q.2.1; have q3 := q.2.2; (simp (disch := (first | omega | assumption)) only [↓appC, ↓updN, ↓updS, ↓app0]))) (fun a ha => by cases ha)) .nil)))))) (SnapL.cons _ _ _ _ (.one _ _ (.int _ _)) SnapL.nil)
   ·rfl
   ·rfl
   ·rfl
   refine dge j6 ?_ ?_ <;> intro h11_14
   ·refine G5 (e := true) j6 (K3 j5 (B1 17 [0, 0, 0, 1, 1, 0, 1, 0, 0, 0, 0, 1, 0, 1, 0, 0, 0] [] j2 (by decide +kernel) trivial ?_))
    refine A1 (wT rfl (A2 (A0 (D9 j5 (F6 (v := .ptr _ _ _) j6 ?_)))))
    (apply F9 (vs := [.str _, .int _ _, .int _ _, .int _ _, _]) j2; exact Q0; exact Q1; rfl; exact kb; rfl; exact j3)
    apply J5 [lb] (J9 l false 8) rfl j2
    ·exact SnapL.cons _ _ _ _ (.one _ _ (.int _ _)) (SnapL.cons _ _ _ _ (SnapC.agg (.cons _ _ _ _ (.str _) (.cons _ _ _ _ (.int _ _) (.cons _ _ _ _ (.int _ _) (.cons _ _ _ _ (.int _ _) (.cons _ _ _ _ (D3 (hkw.mono (fun a ha => by have q := hfw a ha; have q1 := q.1; have q2 := q.2.1; have q3 := q.2.2; (simp (disch := (first | omega | assumption)) only [↓appC, ↓updN, ↓updS, ↓app0]))) (fun a ha => by cases ha)) .nil)))))) SnapL.nil)
    ·rfl
    ·rfl
    ·rfl
    (apply D4 (u := .agg [.int _ _, .int _ _, .int _ _, .int _ _]) j3; exact Q0; exact Q1; rfl; rfl; rfl; rfl; exact kb; rfl; exact j2)
    refine A3 (A1 (A9 (B4 (B2 (E0 (A5 (A7 rfl (by exact Q0) j2 kb rfl) A8) (by (repeat first | exact Ch.refl _ | refine Ch.upd ?_ | refine Ch.app ?_ | assumption)) ?_)))))
    have e : acqT t r = (t, tellL 8 l) := by
     rw [F5 hh, hp]; exact P7 hl (by first | exact .inl h11_6 | exact .inr h11_14)
    rw [e]
    exact ⟨rfl, T.same (by omega) (fun a ha => by (simp (disch := (first | omega | assumption)) only [↓appC, ↓updN, ↓updS, ↓app0]))⟩
   ·refine G5 (e := false) j6 (K3 j5 (B1 17 [0, 0, 0, 1, 1, 0, 1, 0, 0, 0, 0, 1, 0, 1, 0, 0, 0] [] j2 (by decide +kernel) trivial ?_))
    refine A1 (wF rfl (A2 (A0 (D9 j5 (F6 (v := .ptr _ _ _) j6 (C1 (off := 2) (s := 1) (r := false) j3 kz j3 ?_))))))
    (apply C5 (v := .int _ _) j2; exact Q0; exact Q1; exact j5)
    refine I6 j6 ?_ ?_ <;> intro h13_4
    ·refine C6 j5 (A3 (A1 (wT rfl (A2 (A0 (D9 j5 (B6 j5 (C1 (off := 0) (s := 1) (r := false) j3 kz j3 ?_))))))))
     (apply C5 (v := .int _ _) j2; exact Q0; exact Q1; exact j5)
     refine C1 (off := 3) (s := 1) (r := false) j3 kz j3 ?_
     (apply C5 (v := .int _ _) j2; exact Q0; exact Q1; exact j5)
     refine I9 (o124k l.nm l.tk l.hd l.ex t.tm t.nx r.cl r.le V.nsl Ss hwc htm (by omega) hle (id := id) (lb := lb) (j := k) (len := t.lk.length) (R := rwW t.lk W) (by omega) (by omega) hne (by exact Q0) hk hR (by exact Q0) hrow) rfl rfl rfl rfl rfl rfl ?_
     refine A3 (A1 (A2 (A0 (D9 j5 (F6 (v := .ptr _ _ _) j6 (C1 (off := 2) (s := 1) (r := false) j3 kz j3 ?_))))))
     (apply C5 (v := .view _ _ _) j2; exact Q0; exact Q1; exact j5)
     refine B6 j5 ?_
     (refine r0 ((B9 (b := ⟨((rwW t.lk W).set k [.str l.nm, .int .i64 t.nx, .int .i64 r.cl, .int .i64 (t.tm + r.le), V.nsl]), 5, 29⟩) rfl rfl rfl rfl (by exact Q0) rfl (by omega) (by omega)).to (v' := .ptr (lb) k 0) (by rw [F7])) rfl rfl rfl ?_)
     (apply F9 (vs := [.str _, .int _ _, .int _ _, .int _ _, _]) j2; exact Q0; exact Q1; rfl; exact kb; rfl; exact j3)
     apply J5 [lb] (J9 ⟨l.nm, t.nx, r.cl, t.tm + r.le, l.ws⟩ false 1) rfl j2
     ·exact SnapL.cons _ _ _ _ (.one _ _ (.int _ _)) (SnapL.cons _ _ _ _ (SnapC.agg (.cons _ _ _ _ (.str _) (.cons _ _ _ _ (.int _ _) (.cons _ _ _ _ (.int _ _) (.cons _ _ _ _ (.int _ _) (.cons _ _ _ _ (D3 (hkw.mono (fun a ha => by have q := hfw a ha; have q1 := q.1; have q2 := q.2.1; have q3 := q.2.2; (simp (disch := (first | omega | assumption)) only [↓appC, ↓updN, ↓updS, ↓app0]))) (fun a ha => by cases ha)) .nil)))))) SnapL.nil)
     ·rfl
     ·rfl
     ·rfl
     (apply D4 (u := .agg [.int _ _, .int _ _, .int _ _, .int _ _]) j3; exact Q0; exact Q1; rfl; rfl; rfl; rfl; exact kb; rfl; exact j2)
     refine A3 (A1 (A9 (B4 (B2 (E0 (A5 (A7 rfl (by exact Q0) j2 kb rfl) A8) (by (repeat first | exact Ch.refl _ | refine Ch.upd ?_ | refine Ch.app ?_ | assumption)) ?_)))))
     have e : acqT t r = (⟨t.tm, t.nx + 1, t.lk.set k ⟨l.nm, t.nx, r.cl, t.tm + r.le, l.ws⟩, t.sn⟩, ⟨1, t.nx, r.cl, t.tm + r.le⟩) := by
      rw [F5 hh, hp]; unfold acqL; rw [hl, if_neg (fun e => e.elim h11_6 h11_14), if_pos (by omega)]
     rw [e]
     refine ⟨rfl, T.lockS hk rfl ⟨l.nm, t.nx, r.cl, t.tm + r.le, l.ws⟩ V.nsl (t.nx + 1) (by omega) ?_ ?_ ?_ ?_ ?_⟩
     ·exact Q0
     ·(simp (disch := (first | omega | assumption)) only [↓appC, ↓updN, ↓updS, ↓app0]); rfl
     ·exact (hkw.mono (fun a ha => by have q := hfw a ha; have q1 := q.1; have q2 := q.2.1; have q3 := q.2.2; (simp (disch := (first | omega | assumption)) only [↓appC, ↓updN, ↓updS, ↓app0])))
     ·intro a ha; have q := hfw a ha; exact ⟨by omega, .inl (by rw [hwk]; exact ha)⟩
     ·intro a ha h1 h2 h3; (simp (disch := (first | omega | assumption)) only [↓appC, ↓updN, ↓updS, ↓app0])
    ·refine C6 j5 (A3 (A1 (wF rfl (A2 (A0 (D9 j5 (F6 (v := .ptr _ _ _) j6 (C1 (off := 4) (s := 1) (r := false) j3 kz j3 ?_))))))))
     (apply C5 (v := .nsl) j2; exact Q0; exact Q1; exact j5)
     refine H0 rfl rfl rfl j3 ?_
     refine H5 j6 (fun h => absurd h ((by show ¬ ((0 : Int) = 4); decide))) ?_
     intro h16_5
     refine C6 j5 (A3 (A1 (wF rfl (B0 (B7 (A1 (A2 (C2 [0, 0, 2, 6, 14, 0, 32, 0, 128, 480, 992, 2046, 4095, 8191, 16383] rfl (by decide +kernel) ?_))))))))
     refine G6 j5 (G6 j5 (G7 (v := .ptr _ _ _) j6 (D6 (off := 4) (s := 1) (r := false) j3 kz j3 ?_)))
     (apply E1 (v := .nsl) j2; exact Q0; exact Q1; exact j5)
     refine D6 (off := 0) (s := 1) (r := false) j3 kz j3 ?_
     (apply E1 (v := .int _ _) j2; exact Q0; exact Q1; exact j5)
     refine D6 (off := 3) (s := 1) (r := false) j3 kz j3 ?_
     (apply E1 (v := .int _ _) j2; exact Q0; exact Q1; exact j5)
     refine dbd (cs := [.int _ _, .int _ _]) j5 (dbs (es := [[.int _ _, .int _ _]]) j4 kz kb rfl rfl j3 ?_)
     (apply dan (s' := 16) (es := [[.int _ _, .int _ _]]) rfl j3 kz; exact BM; exact AC; exact Q14; exact Q14; exact Q14; exact j3)
     refine G7 (v := .ptr _ _ _) j6 (D6 (off := 4) (s := 1) (r := false) j3 kz j3 ?_)
     (apply dst (u := .view _ _ _) rfl rfl rfl; exact Q0; exact Q1; rfl; rfl; rfl; rfl; exact kb; rfl; rfl; rfl)
     refine B1 15 [3, 0, 0, 3, 3, 0, 1, 0, 1, 0, 1, 0, 0, 0, 0] [(4, 10)] j2 (by decide +kernel) ?_ ?_
     ·(simp [ClearL, ids]; try omega)
     refine A1 (A2 (A0 (D9 j5 (F6 (v := .ptr _ _ _) j6 ?_))))
     (apply F9 (vs := [.str _, .int _ _, .int _ _, .int _ _, _]) j2; exact Q0; exact Q1; rfl; exact kb; rfl; exact j3)
     apply J5 [n + 1 + 1 + 1] (J9 ⟨l.nm, l.tk, l.hd, l.ex, l.ws ++ [(r.cl, r.le)]⟩ false 2) rfl j2
     ·exact SnapL.cons _ _ _ _ (.one _ _ (.int _ _)) (SnapL.cons _ _ _ _ (SnapC.agg (.cons _ _ _ _ (.str _) (.cons _ _ _ _ (.int _ _) (.cons _ _ _ _ (.int _ _) (.cons _ _ _ _ (.int _ _) (.cons _ _ _ _ (D3 (.inr ⟨n + 1 + 1 + 1, [], by simp [List.map_eq_nil_iff.1 hws], by (simp (disch := (first | omega | assumption)) only [↓appC, ↓updN, ↓updS, ↓app0]); exact congrArg (fun z => some (Blk.mk z 2 123)) (by simp [List.map_eq_nil_iff.1 hws, wtV])⟩) (fun a ha => by cases ha; exact List.mem_singleton.2 rfl)) .nil)))))) SnapL.nil)
     ·rfl
     ·rfl
     ·rfl
     (apply D4 (u := .agg [.int _ _, .int _ _, .int _ _, .int _ _]) j3; exact Q0; exact Q1; rfl; rfl; rfl; rfl; exact kb; rfl; exact j2)
     refine A3 (A1 (A9 (E0 (A5 (A7 rfl (by exact Q0) j2 kb rfl) A8) (by (repeat first | exact Ch.refl _ | refine Ch.upd ?_ | refine Ch.app ?_ | assumption)) ?_)))
     have e : acqT t r = (⟨t.tm, t.nx, t.lk.set k ⟨l.nm, l.tk, l.hd, l.ex, l.ws ++ [(r.cl, r.le)]⟩, t.sn⟩, tellL 2 l) := by
      rw [F5 hh, hp]; unfold acqL; rw [hl, if_neg (fun e => e.elim h11_6 h11_14), if_neg (by omega)]; exact if_neg (by omega)
     rw [e]
     refine ⟨rfl, T.lockS hk rfl ⟨l.nm, l.tk, l.hd, l.ex, l.ws ++ [(r.cl, r.le)]⟩ (V.view (n + 1 + 1 + 1) 0 1) t.nx (by omega) ?_ ?_ ?_ ?_ ?_⟩
     ·exact Q0
     ·(simp (disch := (first | omega | assumption)) only [↓appC, ↓updN, ↓updS, ↓app0]); rfl
     ·exact (.inr ⟨n + 1 + 1 + 1, [], by simp [List.map_eq_nil_iff.1 hws], by (simp (disch := (first | omega | assumption)) only [↓appC, ↓updN, ↓updS, ↓app0]); exact congrArg (fun z => some (Blk.mk z 2 123)) (by simp [List.map_eq_nil_iff.1 hws, wtV])⟩)
     ·intro a ha; cases ha; exact ⟨by omega, .inr (by omega)⟩
     ·intro a ha h1 h2 h3; (simp (disch := (first | omega | assumption)) only [↓appC, ↓updN, ↓updS, ↓app0])
 ·rw [List.length_map] at hw
  subst hw
  have hwb := hfw wb rfl
  have hkw : IsL h (.view wb pre.length l.ws.length) (l.ws.map wtV) 2 123 := .inr ⟨wb, pre, by rw [List.length_map], kwb⟩
  refine OpenM.of_wp Try.func129 rfl kb ?_
  refine A2 (A0 (L7 (u := .agg [.int _ _, .int _ _, .int _ _, .int _ _, .str _]) j3 rfl j3 (H3 j6 (A3 (A1 (A2 (C2 [0, 1, 3, 0, 8, 31, 63] rfl (by decide +kernel) ?_)))))))
  refine G6 j5 (G7 (v := .ptr _ _ _) j6 ?_)
  (apply L8 (vs := [.int _ _, .int _ _, _, _]) j2; exact Q0; exact Q1; rfl; exact kb; exact j4)
  refine D6 (off := 4) (s := 1) (r := false) j3 kz j3 ?_
  (apply E1 (v := .str _) j2; exact Q0; exact Q1; exact j5)
  apply O8 (id :: tabIds (.view lb 0 t.lk.length) Ss W t.lk.length) hf rfl j2
  ·exact SnapL.cons _ _ _ _ (H2 (T.ext (m := n + 1 + 1) (by omega) (fun a ha => by (simp (disch := (first | omega | assumption)) only [↓appC, ↓updN, ↓updS, ↓app0]))).kl (T.ext (m := n + 1 + 1) (by omega) (fun a ha => by (simp (disch := (first | omega | assumption)) only [↓appC, ↓updN, ↓updS, ↓app0]))).ks (T.ext (m := n + 1 + 1) (by omega) (fun a ha => by (simp (disch := (first | omega | assumption)) only [↓appC, ↓updN, ↓updS, ↓app0]))).kw (fun a ha => List.mem_cons_of_mem _ ha)) (SnapL.cons _ _ _ _ (.one _ _ (.str _)) SnapL.nil)
  ·rfl
  ·rfl
  ·rfl
  refine daI j5 (B1 7 [0, 1, 1, 0, 1, 0, 0] [] j2 (by decide +kernel) trivial ?_)
  refine A1 (A2 (A2 (A0 (B6 j5 ?_))))
  refine I6 j6 (fun h => absurd h (by omega)) ?_
  intro h2_1
  refine A3 (A1 (wF rfl (B0 (A1 (A2 (A0 (D9 j5 (F6 (v := .ptr _ _ _) j6 (C1 (off := 2) (s := 1) (r := false) j3 kz j3 ?_)))))))))
  (apply C5 (v := .view _ _ _) j2; exact Q0; exact Q1; exact j5)
  refine B6 j5 ?_
  (refine r0 ((B9 (b := ⟨rwW t.lk W, 5, 29⟩) rfl rfl rfl rfl (by exact Q0) rfl (by omega) (by omega)).to (v' := .ptr (lb) k 0) (by rw [F7])) rfl rfl rfl ?_)
  refine raP j5 (A3 (A1 (A2 (B3 (A2 (C2 [0, 1, 3, 7, 0, 16, 63, 127, 255, 511, 1023, 255, 2303, 8191, 16383, 32767, 65535] rfl (by decide +kernel) ?_))))))
  refine G6 j5 (G7 (v := .ptr _ _ _) j6 (D6 (off := 2) (s := 1) (r := false) j3 kz j3 ?_))
  (apply E1 (v := .int _ _) j2; exact Q0; exact Q1; exact j5)
  refine D6 (off := 0) (s := 1) (r := false) j3 kz j3 ?_
  (apply E1 (v := .int _ _) j2; exact Q0; exact Q1; exact j5)
  refine deq j6 ?_ ?_ <;> intro h11_6
  ·refine H8 j5 (A6 j3 (A6 j3 (A6 j3 (A6 j3 (A6 j3 (A6 j3 (A6 j3 (G5 (e := true) j6 (K3 j5 (B1 17 [0, 0, 0, 0, 0, 0, 0, 0, 0, 0, 0, 1, 0, 1, 0, 0, 0] [] j2 (by decide +kernel) trivial ?_))))))))))
   refine A1 (wT rfl (A2 (A0 (D9 j5 (F6 (v := .ptr _ _ _) j6 ?_)))))
   (apply F9 (vs := [.str _, .int _ _, .int _ _, .int _ _, _]) j2; exact Q0; exact Q1; rfl; exact kb; rfl; exact j3)
   apply J5 [wb] (J9 l false 8) rfl j2
   ·exact SnapL.cons _ _ _ _ (.one _ _ (.int _ _)) (SnapL.cons _ _ _ _ (SnapC.agg (.cons _ _ _ _ (.str _) (.cons _ _ _ _ (.int _ _) (.cons _ _ _ _ (.int _ _) (.cons _ _ _ _ (.int _ _) (.cons _ _ _ _ (D3 (hkw.mono (fun a ha => by have q := hfw a ha; have q1 := q.1; have q2 := q.2.1; have q3 := q.2.2; (simp (disch := (first | omega | assumption)) only [↓appC, ↓updN, ↓updS, ↓app0]))) (fun a ha => by cases ha; exact List.mem_singleton.2 rfl)) .nil)))))) SnapL.nil)
   ·rfl
   ·rfl
   ·rfl
   (apply D4 (u := .agg [.int _ _, .int _ _, .int _ _, .int _ _]) j3; exact Q0; exact Q1; rfl; rfl; rfl; rfl; exact kb; rfl; exact j2)
   refine A3 (A1 (A9 (B4 (B2 (E0 (A5 (A7 rfl (by exact Q0) j2 kb rfl) A8) (by (repeat first | exact Ch.refl _ | refine Ch.upd ?_ | refine Ch.app ?_ | assumption)) ?_)))))
   have e : acqT t r = (t, tellL 8 l) := by
    rw [F5 hh, hp]; exact P7 hl (by first | exact .inl h11_6 | exact .inr h11_14)
   rw [e]
   exact ⟨rfl, T.same (by omega) (fun a ha => by (simp (disch := (first | omega | assumption)) only [↓appC, ↓updN, ↓updS, ↓app0]))⟩
  ·refine H8 j5 (G6 j5 (G7 (v := .ptr _ _ _) j6 ?_))
   (apply L8 (vs := [.str _, .int _ _, .int _ _, .int _ _, _]) j2; exact Q0; exact Q1; rfl; exact kb; exact j4)
   refine D6 (off := 0) (s := 1) (r := false) j3 kz j3 ?_
   (apply E1 (v := .int _ _) j2; exact Q0; exact Q1; exact j5)
   apply O8 [wb] (s131 l false r.cl (by omega)) rfl j2
   ·exact SnapL.cons _ _ _ _ (SnapC.agg (.cons _ _ _ _ (.str _) (.cons _ _ _ _ (.int _ _) (.cons _ _ _ _ (.int _ _) (.cons _ _ _ _ (.int _ _) (.cons _ _ _ _ (D3 (hkw.mono (fun a ha => by have q := hfw a ha; have q1 := q.1; have q2 := q.2.1; have q3 := q.2.2; (simp (disch := (first | omega | assumption)) only [↓appC, ↓updN, ↓updS, ↓app0]))) (fun a ha => by cases ha; exact List.mem_singleton.2 rfl)) .nil)))))) (SnapL.cons _ _ _ _ (.one _ _ (.int _ _)) SnapL.nil)
   ·rfl
   ·rfl
   ·rfl
   refine dge j6 ?_ ?_ <;> intro h11_14
   ·refine G5 (e := true) j6 (K3 j5 (B1 17 [0, 0, 0, 1, 1, 0, 1, 0, 0, 0, 0, 1, 0, 1, 0, 0, 0] [] j2 (by decide +kernel) trivial ?_))
    refine A1 (wT rfl (A2 (A0 (D9 j5 (F6 (v := .ptr _ _ _) j6 ?_)))))
    (apply F9 (vs := [.str _, .int _ _, .int _ _, .int _ _, _]) j2; exact Q0; exact Q1; rfl; exact kb; rfl; exact j3)
    apply J5 [wb] (J9 l false 8) rfl j2
    ·exact SnapL.cons _ _ _ _ (.one _ _ (.int _ _)) (SnapL.cons _ _ _ _ (SnapC.agg (.cons _ _ _ _ (.str _) (.cons _ _ _ _ (.int _ _) (.cons _ _ _ _ (.int _ _) (.cons _ _ _ _ (.int _ _) (.cons _ _ _ _ (D3 (hkw.mono (fun a ha => by have q := hfw a ha; have q1 := q.1; have q2 := q.2.1; have q3 := q.2.2; (simp (disch := (first | omega | assumption)) only [↓appC, ↓updN, ↓updS, ↓app0]))) (fun a ha => by cases ha; exact List.mem_singleton.2 rfl)) .nil)))))) SnapL.nil)
    ·rfl
    ·rfl
    ·rfl
    (apply D4 (u := .agg [.int _ _, .int _ _, .int _ _, .int _ _]) j3; exact Q0; exact Q1; rfl; rfl; rfl; rfl; exact kb; rfl; exact j2)
    refine A3 (A1 (A9 (B4 (B2 (E0 (A5 (A7 rfl (by exact Q0) j2 kb rfl) A8) (by (repeat first | exact Ch.refl _ | refine Ch.upd ?_ | refine Ch.app ?_ | assumption)) ?_)))))
    have e : acqT t r = (t, tellL 8 l) := by
     rw [F5 hh, hp]; exact P7 hl (by first | exact .inl h11_6 | exact .inr h11_14)
    rw [e]
    exact ⟨rfl, T.same (by omega) (fun a ha => by (simp (disch := (first | omega | assumption)) only [↓appC, ↓updN, ↓updS, ↓app0]))⟩
   ·refine G5 (e := false) j6 (K3 j5 (B1 17 [0, 0, 0, 1, 1, 0, 1, 0, 0, 0, 0, 1, 0, 1, 0, 0, 0] [] j2 (by decide +kernel) trivial ?_))
    refine A1 (wF rfl (A2 (A0 (D9 j5 (F6 (v := .ptr _ _ _) j6 (C1 (off := 2) (s := 1) (r := false) j3 kz j3 ?_))))))
    (apply C5 (v := .int _ _) j2; exact Q0; exact Q1; exact j5)
    refine I6 j6 ?_ ?_ <;> intro h13_4
    ·refine C6 j5 (A3 (A1 (wT rfl (A2 (A0 (D9 j5 (B6 j5 (C1 (off := 0) (s := 1) (r := false) j3 kz j3 ?_))))))))
     (apply C5 (v := .int _ _) j2; exact Q0; exact Q1; exact j5)
     refine C1 (off := 3) (s := 1) (r := false) j3 kz j3 ?_
     (apply C5 (v := .int _ _) j2; exact Q0; exact Q1; exact j5)
     refine I9 (o124k l.nm l.tk l.hd l.ex t.tm t.nx r.cl r.le (V.view wb pre.length l.ws.length) Ss hwc htm (by omega) hle (id := id) (lb := lb) (j := k) (len := t.lk.length) (R := rwW t.lk W) (by omega) (by omega) hne (by exact Q0) hk hR (by exact Q0) hrow) rfl rfl rfl rfl rfl rfl ?_
     refine A3 (A1 (A2 (A0 (D9 j5 (F6 (v := .ptr _ _ _) j6 (C1 (off := 2) (s := 1) (r := false) j3 kz j3 ?_))))))
     (apply C5 (v := .view _ _ _) j2; exact Q0; exact Q1; exact j5)
     refine B6 j5 ?_
     (refine r0 ((B9 (b := ⟨((rwW t.lk W).set k [.str l.nm, .int .i64 t.nx, .int .i64 r.cl, .int .i64 (t.tm + r.le), (V.view wb pre.length l.ws.length)]), 5, 29⟩) rfl rfl rfl rfl (by exact Q0) rfl (by omega) (by omega)).to (v' := .ptr (lb) k 0) (by rw [F7])) rfl rfl rfl ?_)
     (apply F9 (vs := [.str _, .int _ _, .int _ _, .int _ _, _]) j2; exact Q0; exact Q1; rfl; exact kb; rfl; exact j3)
     apply J5 [wb] (J9 ⟨l.nm, t.nx, r.cl, t.tm + r.le, l.ws⟩ false 1) rfl j2
     ·exact SnapL.cons _ _ _ _ (.one _ _ (.int _ _)) (SnapL.cons _ _ _ _ (SnapC.agg (.cons _ _ _ _ (.str _) (.cons _ _ _ _ (.int _ _) (.cons _ _ _ _ (.int _ _) (.cons _ _ _ _ (.int _ _) (.cons _ _ _ _ (D3 (hkw.mono (fun a ha => by have q := hfw a ha; have q1 := q.1; have q2 := q.2.1; have q3 := q.2.2; (simp (disch := (first | omega | assumption)) only [↓appC, ↓updN, ↓updS, ↓app0]))) (fun a ha => by cases ha; exact List.mem_singleton.2 rfl)) .nil)))))) SnapL.nil)
     ·rfl
     ·rfl
     ·rfl
     (apply D4 (u := .agg [.int _ _, .int _ _, .int _ _, .int _ _]) j3; exact Q0; exact Q1; rfl; rfl; rfl; rfl; exact kb; rfl; exact j2)
     refine A3 (A1 (A9 (B4 (B2 (E0 (A5 (A7 rfl (by exact Q0) j2 kb rfl) A8) (by (repeat first | exact Ch.refl _ | refine Ch.upd ?_ | refine Ch.app ?_ | assumption)) ?_)))))
     have e : acqT t r = (⟨t.tm, t.nx + 1, t.lk.set k ⟨l.nm, t.nx, r.cl, t.tm + r.le, l.ws⟩, t.sn⟩, ⟨1, t.nx, r.cl, t.tm + r.le⟩) := by
      rw [F5 hh, hp]; unfold acqL; rw [hl, if_neg (fun e => e.elim h11_6 h11_14), if_pos (by omega)]
     rw [e]
     refine ⟨rfl, T.lockS hk rfl ⟨l.nm, t.nx, r.cl, t.tm + r.le, l.ws⟩ (V.view wb pre.length l.ws.length) (t.nx + 1) (by omega) ?_ ?_ ?_ ?_ ?_⟩
     ·exact Q0
     ·(simp (disch := (first | omega | assumption)) only [↓appC, ↓updN, ↓updS, ↓app0]); rfl
     ·exact (hkw.mono (fun a ha => by have q := hfw a ha; have q1 := q.1; have q2 := q.2.1; have q3 := q.2.2; (simp (disch := (first | omega | assumption)) only [↓appC, ↓updN, ↓updS, ↓app0])))
     ·intro a ha; have q := hfw a ha; exact ⟨by omega, .inl (by rw [hwk]; exact ha)⟩
     ·intro a ha h1 h2 h3; (simp (disch := (first | omega | assumption)) only [↓appC, ↓updN, ↓updS, ↓app0])
    ·refine C6 j5 (A3 (A1 (wF rfl (A2 (A0 (D9 j5 (F6 (v := .ptr _ _ _) j6 (C1 (off := 4) (s := 1) (r := false) j3 kz j3 ?_))))))))
     (apply C5 (v := .view _ _ _) j2; exact Q0; exact Q1; exact j5)
     refine H0 rfl rfl rfl j3 ?_
     refine H5 j6 ?_ ?_ <;> intro h16_5
     ·refine C6 j5 (A3 (A1 (wT rfl (A2 (A0 (D9 j5 (F6 (v := .ptr _ _ _) j6 ?_)))))))
      (apply F9 (vs := [.str _, .int _ _, .int _ _, .int _ _, _]) j2; exact Q0; exact Q1; rfl; exact kb; rfl; exact j3)
      apply J5 [wb] (J9 l false 6) rfl j2
      ·exact SnapL.cons _ _ _ _ (.one _ _ (.int _ _)) (SnapL.cons _ _ _ _ (SnapC.agg (.cons _ _ _ _ (.str _) (.cons _ _ _ _ (.int _ _) (.cons _ _ _ _ (.int _ _) (.cons _ _ _ _ (.int _ _) (.cons _ _ _ _ (D3 (hkw.mono (fun a ha => by have q := hfw a ha; have q1 := q.1; have q2 := q.2.1; have q3 := q.2.2; (simp (disch := (first | omega | assumption)) only [↓appC, ↓updN, ↓updS, ↓app0]))) (fun a ha => by cases ha; exact List.mem_singleton.2 rfl)) .nil)))))) SnapL.nil)
      ·rfl
      ·rfl
      ·rfl
      (apply D4 (u := .agg [.int _ _, .int _ _, .int _ _, .int _ _]) j3; exact Q0; exact Q1; rfl; rfl; rfl; rfl; exact kb; rfl; exact j2)
      refine A3 (A1 (A9 (B4 (B2 (E0 (A5 (A7 rfl (by exact Q0) j2 kb rfl) A8) (by (repeat first | exact Ch.refl _ | refine Ch.upd ?_ | refine Ch.app ?_ | assumption)) ?_)))))
      have e : acqT t r = (t, tellL 6 l) := by
       rw [F5 hh, hp]; unfold acqL; rw [hl, if_neg (fun e => e.elim h11_6 h11_14), if_neg (by omega)]; exact if_pos (by omega)
      rw [e]
      exact ⟨rfl, T.same (by omega) (fun a ha => by (simp (disch := (first | omega | assumption)) only [↓appC, ↓updN, ↓updS, ↓app0]))⟩
     ·refine C6 j5 (A3 (A1 (wF rfl (B0 (B7 (A1 (A2 (C2 [0, 0, 2, 6, 14, 0, 32, 0, 128, 480, 992, 2046, 4095, 8191, 16383] rfl (by decide +kernel) ?_))))))))
      refine G6 j5 (G6 j5 (G7 (v := .ptr _ _ _) j6 (D6 (off := 4) (s := 1) (r := false) j3 kz j3 ?_)))
      (apply E1 (v := .view _ _ _) j2; exact Q0; exact Q1; exact j5)
      refine D6 (off := 0) (s := 1) (r := false) j3 kz j3 ?_
      (apply E1 (v := .int _ _) j2; exact Q0; exact Q1; exact j5)
      refine D6 (off := 3) (s := 1) (r := false) j3 kz j3 ?_
      (apply E1 (v := .int _ _) j2; exact Q0; exact Q1; exact j5)
      refine dbd (cs := [.int _ _, .int _ _]) j5 (dbs (es := [[.int _ _, .int _ _]]) j4 kz kb rfl rfl j3 ?_)
      (apply dap (s' := 16) (es := [[.int _ _, .int _ _]]) rfl rfl; exact Q0; exact j2; (first | rfl | omega | (show _ = (pre ++ l.ws.map wtV).length; rw [List.length_append, List.length_map]) | (show _ = (pre ++ l.ws.map wtV).length; rw [List.length_append])); exact j2; exact kz; exact BM; exact AC; exact Q14; exact Q14; exact j3)
      refine G7 (v := .ptr _ _ _) j6 (D6 (off := 4) (s := 1) (r := false) j3 kz j3 ?_)
      (apply dst (u := .view _ _ _) rfl rfl rfl; exact Q0; exact Q1; rfl; rfl; rfl; rfl; exact kb; rfl; rfl; rfl)
      refine B1 15 [3, 0, 0, 3, 3, 0, 1, 0, 1, 0, 1, 0, 0, 0, 0] [(4, 10)] j2 (by decide +kernel) ?_ ?_
      ·(simp [ClearL, ids]; try omega)
      refine A1 (A2 (A0 (D9 j5 (F6 (v := .ptr _ _ _) j6 ?_))))
      (apply F9 (vs := [.str _, .int _ _, .int _ _, .int _ _, _]) j2; exact Q0; exact Q1; rfl; exact kb; rfl; exact j3)
      apply J5 [n + 1 + 1 + 1] (J9 ⟨l.nm, l.tk, l.hd, l.ex, l.ws ++ [(r.cl, r.le)]⟩ false 2) rfl j2
      ·exact SnapL.cons _ _ _ _ (.one _ _ (.int _ _)) (SnapL.cons _ _ _ _ (SnapC.agg (.cons _ _ _ _ (.str _) (.cons _ _ _ _ (.int _ _) (.cons _ _ _ _ (.int _ _) (.cons _ _ _ _ (.int _ _) (.cons _ _ _ _ (D3 (.inr ⟨n + 1 + 1 + 1, [], by simp, by (simp (disch := (first | omega | assumption)) only [↓appC, ↓updN, ↓updS, ↓app0]); exact congrArg (fun z => some (Blk.mk z 2 123)) (by simp [wtV])⟩) (fun a ha => by cases ha; exact List.mem_singleton.2 rfl)) .nil)))))) SnapL.nil)
      ·rfl
      ·rfl
      ·rfl
      (apply D4 (u := .agg [.int _ _, .int _ _, .int _ _, .int _ _]) j3; exact Q0; exact Q1; rfl; rfl; rfl; rfl; exact kb; rfl; exact j2)
      refine A3 (A1 (A9 (E0 (A5 (A7 rfl (by exact Q0) j2 kb rfl) A8) (by (repeat first | exact Ch.refl _ | refine Ch.upd ?_ | refine Ch.app ?_ | assumption)) ?_)))
      have e : acqT t r = (⟨t.tm, t.nx, t.lk.set k ⟨l.nm, l.tk, l.hd, l.ex, l.ws ++ [(r.cl, r.le)]⟩, t.sn⟩, tellL 2 l) := by
       rw [F5 hh, hp]; unfold acqL; rw [hl, if_neg (fun e => e.elim h11_6 h11_14), if_neg (by omega)]; exact if_neg (by omega)
      rw [e]
      refine ⟨rfl, T.lockS hk rfl ⟨l.nm, l.tk, l.hd, l.ex, l.ws ++ [(r.cl, r.le)]⟩ (V.view (n + 1 + 1 + 1) 0 (l.ws.length + 1)) t.nx (by omega) ?_ ?_ ?_ ?_ ?_⟩
      ·exact Q0
      ·(simp (disch := (first | omega | assumption)) only [↓appC, ↓updN, ↓updS, ↓app0]); rfl
      ·exact (.inr ⟨n + 1 + 1 + 1, [], by simp, by (simp (disch := (first | omega | assumption)) only [↓appC, ↓updN, ↓updS, ↓app0]); exact congrArg (fun z => some (Blk.mk z 2 123)) (by simp [wtV])⟩)
      ·intro a ha; cases ha; exact ⟨by omega, .inr (by omega)⟩
      ·intro a ha h1 h2 h3; have h4 : a ≠ wb := fun e => h3 (by rw [hwk, e]; rfl); (simp (disch := (first | omega | assumption)) only [↓appC, ↓updN, ↓updS, ↓app0])
open Go.V
set_option linter.unusedVariables false
set_option linter.unusedSimpArgs false
set_option maxRecDepth 20000
set_option maxHeartbeats 4000000
theorem insRows {R : List (List V)} {k len : Nat} {x y : List V} (hl : R.length = len) (hk : k ≤ len) (e : y = x) : List.drop 0 (List.drop 0 (List.drop 0 [] ++ List.take ((k : Int).toNat - Int.toNat 0) (List.drop (0 + Int.toNat 0) R)) ++ [y]) ++ List.take ((len : Int).toNat - (k : Int).toNat) (List.drop (0 + (k : Int).toNat) R) = R.take k ++ x :: R.drop k := by
 subst e
 have z0 : Int.toNat 0 = 0 := rfl
 simp only [List.drop_zero, List.nil_append, Int.toNat_natCast, z0, Nat.sub_zero, Nat.zero_add]
 rw [List.take_of_length_le (l := R.drop k) (by simp; omega)]
 simp
theorem insLen {R : List (List V)} {k len : Nat} {y : List V} (hl : R.length = len) (hk : k ≤ len) : 0 + (List.take ((k : Int).toNat - Int.toNat 0) (List.drop (0 + Int.toNat 0) R)).length + [y].length + (List.take ((len : Int).toNat - (k : Int).toNat) (List.drop (0 + (k : Int).toNat) R)).length = len + 1 := by
 have z0 : Int.toNat 0 = 0 := rfl
 simp only [List.length_take, List.length_drop, List.length_cons, List.length_nil, z0, Int.toNat_natCast]
 omega
theorem rwW_mem (L : List Lk) (W : Nat → V) : ∀ c ∈ rwW L W, c.length = 5 := BP L W
theorem o129x (t : Tb) (r : Rq) (bd : Bd t r) (hh : ¬ hit r.nm t.lk) {k : Nat} (hp : pos r.nm t.lk = k) {id lb : Nat} {Ss : V} {W : Nat → V} {h : Heap} {n : Nat} (T : TabM t id (.view lb 0 t.lk.length) Ss W h n) : OpenM En 129 [.ptr id 0 0, .agg [.int .i64 r.cl, .int .i64 r.st, .int .i64 r.kd, .int .i64 r.le, .str r.nm]] h n (fun v g m => v = .agg (acqT t r).2.V ∧ TabS (acqT t r).1 id (OwnT id (.view lb 0 t.lk.length) Ss W t.lk.length) n h g m) := by
 have hid := T.idn
 have kid := T.kid
 have hl4 := bd.l4; have htm := bd.tm; have hnx := bd.nx; have hcl := bd.cl; have hle := bd.le
 have hf := s43 t false false false r.nm bd.srt (by omega)
 rw [fix_no hh] at hf
 have hk : k ≤ t.lk.length := by rw [← hp]; exact W6 _ _
 have hsl := T.fl
 have hkl := T.kl
 have hA : ((rwW t.lk W).take k).length = k := by rw [List.length_take, B5]; omega
 have hRI : k < ((rwW t.lk W).take k ++ [.str r.nm, .int .i64 0, .int .i64 (-1), .int .i64 0, (.view (n + 1 + 1) 0 0)] :: (rwW t.lk W).drop k).length := by rw [List.length_append, hA, List.length_cons]; omega
 have hrow : ((rwW t.lk W).take k ++ [.str r.nm, .int .i64 0, .int .i64 (-1), .int .i64 0, (.view (n + 1 + 1) 0 0)] :: (rwW t.lk W).drop k)[k]? = some [.str r.nm, .int .i64 0, .int .i64 (-1), .int .i64 0, (.view (n + 1 + 1) 0 0)] := AM hA
 have klb : h lb = some ⟨rwW t.lk W, 5, 29⟩ := by
  rcases T.kl with ⟨e, _⟩ | ⟨b, e, q⟩
  ·cases e
  ·injection e with e1 e2 e3; rw [e1]; exact q
 have hlb := T.fl lb rfl
 have hne := hlb.2
 refine OpenM.of_wp Try.func129 rfl kb ?_
 refine A2 (A0 (L7 (u := .agg [.int _ _, .int _ _, .int _ _, .int _ _, .str _]) j3 rfl j3 (H3 j6 (A3 (A1 (A2 (C2 [0, 1, 3, 0, 8, 31, 63] rfl (by decide +kernel) ?_)))))))
 refine G6 j5 (G7 (v := .ptr _ _ _) j6 ?_)
 (apply L8 (vs := [.int _ _, .int _ _, _, _]) j2; exact Q0; exact Q5; rfl; exact kb; exact j4)
 refine D6 (off := 4) (s := 1) (r := false) j3 kz j3 ?_
 (apply E1 (v := .str _) j2; exact Q0; exact Q5; exact j5)
 apply O8 (id :: tabIds (.view lb 0 t.lk.length) Ss W t.lk.length) hf rfl j2
 ·exact SnapL.cons _ _ _ _ (H2 (T.ext (m := n + 1 + 1) (by omega) (fun a ha => by (simp (disch := (first | omega | assumption)) only [↓appC, ↓updN, ↓updS, ↓app0]))).kl (T.ext (m := n + 1 + 1) (by omega) (fun a ha => by (simp (disch := (first | omega | assumption)) only [↓appC, ↓updN, ↓updS, ↓app0]))).ks (T.ext (m := n + 1 + 1) (by omega) (fun a ha => by (simp (disch := (first | omega | assumption)) only [↓appC, ↓updN, ↓updS, ↓app0]))).kw (fun a ha => List.mem_cons_of_mem _ ha)) (SnapL.cons _ _ _ _ (.one _ _ (.str _)) SnapL.nil)
 ·rfl
 ·rfl
 ·rfl
 refine daI j5 (B1 7 [0, 1, 1, 0, 1, 0, 0] [] j2 (by decide +kernel) trivial ?_)
 refine A1 (A2 (A2 (A0 (B6 j5 ?_))))
 refine I6 j6 ?_ (fun h => absurd ((by show (-1 : Int) < 0; decide)) h)
 intro h2_1
 refine A3 (A1 (wT rfl (A2 (A2 (A0 (D9 j5 (F6 (v := .ptr _ _ _) j6 (C1 (off := 2) (s := 1) (r := false) j3 kz j3 ?_))))))))
 (apply C5 (v := .view _ _ _) j2; exact Q0; exact Q5; exact j5)
 refine H0 rfl rfl rfl j3 ?_
 refine H5 j6 ?_ ?_ <;> intro h3_5
 ·refine A3 (A1 (wT rfl (A2 (A0 (L6 (cs := [.int _ _, .int _ _, .int _ _, .int _ _]) j5 ?_)))))
  (apply D4 (u := .agg [.int _ _, .int _ _, .int _ _, .int _ _]) j3; exact Q0; exact Q5; rfl; rfl; rfl; rfl; exact kb; rfl; exact j2)
  refine A3 (A1 (A9 (B2 (B2 (E0 (A5 (A7 rfl (by exact Q0) j2 kb rfl) A8) (by (repeat first | exact Ch.refl _ | refine Ch.upd ?_ | refine Ch.app ?_ | assumption)) ?_)))))
  rw [acqT_no hh (by omega)]
  exact ⟨rfl, T.same (by omega) (fun a ha => by (simp (disch := (first | omega | assumption)) only [↓appC, ↓updN, ↓updS, ↓app0]))⟩
 ·refine A3 (A1 (wF rfl (B0 (A1 (A2 (A0 (D0 j5 (A3 (A1 (A2 (B3 (F0 ?_))))))))))))
  refine wlG fun g0 hg0 => ?_
  have k0 : g0 n = some ⟨[[.int .i64 r.cl, .int .i64 r.st, .int .i64 r.kd, .int .i64 r.le, .str r.nm]], 5, 64⟩ := by rw [hg0]; (simp (disch := (first | omega | assumption)) only [↓appC, ↓updN, ↓updS, ↓app0]); rfl
  have k1 : g0 (n + 1) = some ⟨[[.int .i64 0, .int .i64 0, .int .i64 0, .int .i64 0]], 4, 60⟩ := by rw [hg0]; (simp (disch := (first | omega | assumption)) only [↓appC, ↓updN, ↓updS, ↓app0]); rfl
  have k2 : g0 id = some ⟨[[.int .i64 t.tm, .int .i64 t.nx, .view lb 0 t.lk.length, Ss]], 4, 35⟩ := by rw [hg0]; exact Q0
  have kk : ∀ a, a < n → g0 a = h a := fun a ha => by rw [hg0]; (simp (disch := (first | omega | assumption)) only [↓appC, ↓updN, ↓updS, ↓app0])
  have kc : Ch h g0 := by rw [hg0]; (repeat first | exact Ch.refl _ | refine Ch.upd ?_ | refine Ch.app ?_)
  have k3 : g0 lb = some ⟨rwW t.lk W, 5, 29⟩ := (kk lb (by omega)).trans klb
  refine E9 (fun (i : Nat) => [.ptr id 0 0, .unk, .unk, .ptr n 0 0, .ptr (n + 1) 0 0, .int .i64 i]) (fun (i : Nat) => g0) (fun (i : Nat) => n + 1 + 1) (fun (i : Nat) => i ≤ t.lk.length ∧ ∀ j, j < i → ltS (lnm t.lk j) r.nm) (fun (i : Nat) => t.lk.length - i) 0 ?_ ?_ ?_ ?_ ?_
  ·exact ⟨Nat.zero_le _, W5⟩
  ·(repeat first | exact LE.nil _ | refine LE.unk _ _ ?_ | refine LE.eq _ _ _ rfl ?_)
  ·exact LessH.refl _
  ·exact Nat.le_refl _
  intro i hI ih
  have hrw := fun h : i < t.lk.length => F4 (W := W) h
  refine E8 (A2 (A2 (C2 [0, 0, 2, 6, 14, 30, 63, 127, 255, 511, 1023, 2047, 255, 8191, 16383, 32767, 255, 65791, 262143, 524287] rfl (by decide +kernel) ?_)))
  refine I0 j5 (G6 j5 (G7 (v := .ptr _ _ _) j6 (D6 (off := 2) (s := 1) (r := false) j3 kz j3 ?_)))
  (apply E1 (v := .view _ _ _) j2; exact Q0; exact Q5; exact j5)
  refine dll rfl rfl rfl j3 ?_
  refine dlt j6 ?_ ?_ <;> intro h6_6
  ·refine H8 j5 (G6 j5 (G7 (v := .ptr _ _ _) j6 (D6 (off := 2) (s := 1) (r := false) j3 kz j3 ?_)))
   (apply E1 (v := .view _ _ _) j2; exact Q0; exact Q5; exact j5)
   refine I0 j5 ?_
   (refine d0 ((B9 (b := ⟨rwW t.lk W, 5, 29⟩) rfl rfl rfl rfl (by exact Q0) rfl (by omega) (by omega)).to (v' := .ptr lb i 0) (by rw [F7])) rfl rfl rfl ?_)
   refine D6 (off := 0) (s := 1) (r := false) j3 kz j3 ?_
   (apply E1 (v := .str (t.lk.getD i Lk0).nm) j2; exact Q0; exact hrw (by omega); exact j5)
   refine D6 (off := 4) (s := 1) (r := false) j3 kz j3 ?_
   (apply E1 (v := .str _) j2; exact Q0; exact Q5; exact j5)
   refine dslt j6 ?_ ?_ <;> intro h6_18
   ·refine G5 (e := true) j6 (B1 20 [0, 0, 1, 0, 1, 0, 1, 0, 1, 0, 0, 0, 0, 0, 0, 1, 0, 0, 0, 0] [] j2 (by decide +kernel) trivial ?_)
    refine A1 (wT rfl (B0 (A1 (B3 (A0 (B6 j5 (C3 j3 ?_ ?_ j3 ?_)))))))
    ·exact Q4
    ·exact Q4
    refine D0 j5 (A3 (B7 (D1 ?_)))
    exact H4 (ih (i + 1) ⟨by omega, U7 hI.2 h6_18⟩ (by omega)) (by (repeat first | exact LE.nil _ | refine LE.unk _ _ ?_ | refine LE.eq _ _ _ rfl ?_)) (LessH.refl _) (Nat.le_refl _)
   ·refine G5 (e := false) j6 (B1 20 [0, 0, 1, 0, 1, 0, 1, 0, 1, 0, 0, 0, 0, 0, 0, 1, 0, 0, 0, 0] [] j2 (by decide +kernel) trivial ?_)
    refine A1 (wF rfl (E5 (E6 (D7 (C8 (A1 (A2 ?_)))))))
    obtain rfl : k = i := by
     rw [← hp]
     first
     | exact T5 hI.1 hI.2 (fun _ e => Bool.false_ne_true (h6_18.symm.trans e))
     | exact T5 hI.1 hI.2 (fun h => absurd h (by omega))
    refine A0 (C1 (off := 4) (s := 1) (r := false) j3 kz j3 ?_)
    (apply C5 (v := .str _) j2; exact Q0; exact Q5; exact j5)
    refine S8 (es := []) j4 kz kb rfl rfl j3 (L6 (cs := [.str _, .int _ _, .int _ _, .int _ _, _]) j5 (H3 j6 ?_))
    (apply D4 (u := .agg [.str _, .int _ _, .int _ _, .int _ _, _]) j3; exact Q0; exact Q5; rfl; rfl; rfl; rfl; exact kb; rfl; exact j2)
    refine A3 (A1 (C2 [0, 0, 0, 4, 12, 28, 0, 124, 254, 0, 512, 2046, 0, 4096, 12288, 28672, 0, 126976, 262142, 524287, 1048575, 2097151] rfl (by decide +kernel) ?_))
    refine G6 j5 (dbs (es := []) j4 kz kb rfl rfl j3 (G6 j5 (G7 (v := .ptr _ _ _) j6 (D6 (off := 2) (s := 1) (r := false) j3 kz j3 ?_))))
    (apply E1 (v := .view _ _ _) j2; exact Q0; exact Q5; exact j5)
    refine I0 j5 ?_
    (apply dslv j3; exact Q0; exact j3; exact Q4; exact Q4; exact Q4; exact j3)
    (apply dap (s' := 64)  rfl rfl; exact Q0; exact j2; exact Q31; exact j2; exact kz; exact Q27; exact Q22; exact Q11; exact Q11; exact j3)
    (apply L8 (vs := [.str _, .int _ _, .int _ _, .int _ _, _]) j2; exact Q0; exact Q5; rfl; exact kb; exact j4)
    refine dbs (es := [[.str _, .int _ _, .int _ _, .int _ _, _]]) j4 kz kb rfl rfl j3 ?_
    (apply dap (s' := 64) (es := [[.str _, .int _ _, .int _ _, .int _ _, _]]) rfl rfl; exact Q0; exact j2; exact Q31; exact j2; exact kz; exact Q27; exact Q22; exact Q11; exact Q11; exact j3)
    refine G6 j5 (G7 (v := .ptr _ _ _) j6 (D6 (off := 2) (s := 1) (r := false) j3 kz j3 ?_))
    (apply E1 (v := .view _ _ _) j2; exact Q0; exact Q5; exact j5)
    refine I0 j5 ?_
    (apply dslv j3; exact Q0; exact j3; exact Q4; exact Q4; exact Q4; exact j3)
    (apply dap (s' := 64)  rfl rfl; exact Q0; exact j2; exact Q31; exact j2; exact kz; exact Q27; exact Q22; exact Q11; exact Q11; exact j3)
    refine G7 (v := .ptr _ _ _) j6 (D6 (off := 2) (s := 1) (r := false) j3 kz j3 ?_)
    (apply dst (u := .view _ _ _) rfl rfl rfl; exact Q0; exact Q5; rfl; rfl; rfl; rfl; exact kb; rfl; rfl; rfl)
    refine B1 22 [3, 0, 0, 3, 1, 0, 1, 0, 0, 0, 3, 3, 1, 3, 1, 0, 1, 0, 0, 0, 3, 0] [(1, 5), (1, 7), (1, 9), (8, 9), (1, 10), (5, 10), (7, 10), (8, 10), (1, 15), (8, 15), (10, 15), (11, 15), (1, 17), (8, 17), (10, 17), (11, 17)] j2 (by decide +kernel) ?_ ?_
    ·(simp [ClearL, ids, srcIds, Env.eval, upd]; try omega)
    refine A1 (A2 ?_)
    refine Y1 fun g1 hg1 => ?_
    have kI : g1 (n + 1 + 1 + 1 + 1 + 1 + 1 + 1 + 1) = some ⟨((rwW t.lk W).take k ++ [.str r.nm, .int .i64 0, .int .i64 (-1), .int .i64 0, (.view (n + 1 + 1) 0 0)] :: (rwW t.lk W).drop k), 5, 29⟩ := by
     rw [hg1]; (simp (disch := (first | omega | assumption)) only [↓appC, ↓updN, ↓updS, ↓app0])
     refine congrArg (fun z => some (Blk.mk z 5 29)) ?_
     exact insRows (B5 _ _) hk rfl
    have q0 : g1 n = some ⟨[[.int .i64 r.cl, .int .i64 r.st, .int .i64 r.kd, .int .i64 r.le, .str r.nm]], 5, 64⟩ := by rw [hg1]; (simp (disch := (first | omega | assumption)) only [↓appC, ↓updN, ↓updS, ↓app0]); exact k0
    have q1 : g1 (n + 1) = some ⟨[[.int .i64 0, .int .i64 0, .int .i64 0, .int .i64 0]], 4, 60⟩ := by rw [hg1]; (simp (disch := (first | omega | assumption)) only [↓appC, ↓updN, ↓updS, ↓app0]); exact k1
    have q2 : g1 id = some ⟨[[.int .i64 t.tm, .int .i64 t.nx, .view (n + 1 + 1 + 1 + 1 + 1 + 1 + 1 + 1) 0 (t.lk.length + 1), Ss]], 4, 35⟩ := by
     rw [hg1]; (simp (disch := (first | omega | assumption)) only [↓appC, ↓updN, ↓updS, ↓app0])
     exact congrArg (fun z => some (Blk.mk [[.int .i64 t.tm, .int .i64 t.nx, .view (n + 1 + 1 + 1 + 1 + 1 + 1 + 1 + 1) 0 z, Ss]] 4 35)) (insLen (B5 _ _) hk)
    have qW : g1 (n + 1 + 1) = some ⟨[], 2, 123⟩ := by rw [hg1]; (simp (disch := (first | omega | assumption)) only [↓appC, ↓updN, ↓updS, ↓app0]); rfl
    have qk : ∀ a, a < n → a ≠ id → g1 a = h a := fun a ha hne => by rw [hg1]; (simp (disch := (first | omega | assumption)) only [↓appC, ↓updN, ↓updS, ↓app0]); exact kk a ha
    have qc : Ch h g1 := by rw [hg1]; (repeat first | exact Ch.refl _ | exact kc | refine Ch.upd ?_ | refine Ch.app ?_)
    refine A0 (D9 j5 (F6 (v := .ptr _ _ _) j6 (C1 (off := 2) (s := 1) (r := false) j3 kz j3 ?_)))
    (apply C5 (v := .view _ _ _) j2; exact Q0; exact Q5; exact j5)
    refine B6 j5 ?_
    (refine r0 ((B9 (b := ⟨((rwW t.lk W).take k ++ [.str r.nm, .int .i64 0, .int .i64 (-1), .int .i64 0, (.view (n + 1 + 1) 0 0)] :: (rwW t.lk W).drop k), 5, 29⟩) rfl rfl rfl rfl (by exact Q0) rfl (by omega) (by omega)).to (v' := .ptr (n + 1 + 1 + 1 + 1 + 1 + 1 + 1 + 1) k 0) (by first | rw [F7] | rfl)) rfl rfl rfl ?_)
    refine raP j5 (A3 (A1 (A2 (B3 (A2 (C2 [0, 1, 3, 7, 0, 16, 63, 127, 255, 511, 1023, 255, 2303, 8191, 16383, 32767, 65535] rfl (by decide +kernel) ?_))))))
    refine G6 j5 (G7 (v := .ptr _ _ _) j6 (D6 (off := 2) (s := 1) (r := false) j3 kz j3 ?_))
    (apply E1 (v := .int _ _) j2; exact Q0; exact Q5; exact j5)
    refine D6 (off := 0) (s := 1) (r := false) j3 kz j3 ?_
    (apply E1 (v := .int _ _) j2; exact Q0; exact Q5; exact j5)
    refine deq j6 (fun h => absurd h (by omega)) ?_
    intro h11_6
    refine H8 j5 (G6 j5 (G7 (v := .ptr _ _ _) j6 ?_))
    (apply L8 (vs := [.str _, .int _ _, .int _ _, .int _ _, _]) j2; exact Q0; exact Q5; rfl; exact kb; exact j4)
    refine D6 (off := 0) (s := 1) (r := false) j3 kz j3 ?_
    (apply E1 (v := .int _ _) j2; exact Q0; exact Q5; exact j5)
    apply O8 [n + 1 + 1] (s131 ⟨r.nm, 0, -1, 0, []⟩ false r.cl (Nat.zero_le _)) rfl j2
    ·exact SnapL.cons _ _ _ _ (SnapC.agg (.cons _ _ _ _ (.str _) (.cons _ _ _ _ (.int _ _) (.cons _ _ _ _ (.int _ _) (.cons _ _ _ _ (.int _ _) (.cons _ _ _ _ (D3 (L := []) (.inr ⟨n + 1 + 1, [], rfl, by exact Q0⟩) (fun a ha => by cases ha; exact List.mem_singleton.2 rfl)) .nil)))))) (SnapL.cons _ _ _ _ (.one _ _ (.int _ _)) SnapL.nil)
    ·rfl
    ·rfl
    ·rfl
    refine dge j6 (fun h => absurd h ((by show ¬ ((-1 : Int) ≥ 0); decide))) ?_
    intro h11_14
    refine G5 (e := false) j6 (K3 j5 (B1 17 [0, 0, 0, 1, 1, 0, 1, 0, 0, 0, 0, 1, 0, 1, 0, 0, 0] [] j2 (by decide +kernel) trivial ?_))
    refine A1 (wF rfl (A2 (A0 (D9 j5 (F6 (v := .ptr _ _ _) j6 (C1 (off := 2) (s := 1) (r := false) j3 kz j3 ?_))))))
    (apply C5 (v := .int _ _) j2; exact Q0; exact Q5; exact j5)
    refine I6 j6 ?_ (fun h => absurd ((by show (-1 : Int) < 0; decide)) h)
    intro h13_4
    refine C6 j5 (A3 (A1 (wT rfl (A2 (A0 (D9 j5 (B6 j5 (C1 (off := 0) (s := 1) (r := false) j3 kz j3 ?_))))))))
    (apply C5 (v := .int _ _) j2; exact Q0; exact Q5; exact j5)
    refine C1 (off := 3) (s := 1) (r := false) j3 kz j3 ?_
    (apply C5 (v := .int _ _) j2; exact Q0; exact Q5; exact j5)
    refine I9 (o124k r.nm 0 (-1) 0 t.tm t.nx r.cl r.le (.view (n + 1 + 1) 0 0) Ss rfl htm (by omega) hle (id := id) (lb := n + 1 + 1 + 1 + 1 + 1 + 1 + 1 + 1) (j := k) (len := t.lk.length + 1) (R := ((rwW t.lk W).take k ++ [.str r.nm, .int .i64 0, .int .i64 (-1), .int .i64 0, (.view (n + 1 + 1) 0 0)] :: (rwW t.lk W).drop k)) (by omega) (by omega) (by omega) q2 (by omega) hRI kI hrow) rfl rfl rfl rfl rfl rfl ?_
    refine A3 (A1 (A2 (A0 (D9 j5 (F6 (v := .ptr _ _ _) j6 (C1 (off := 2) (s := 1) (r := false) j3 kz j3 ?_))))))
    (apply C5 (v := .view _ _ _) j2; exact Q0; exact Q5; exact j5)
    refine B6 j5 ?_
    (refine r0 ((B9 (b := ⟨(((rwW t.lk W).take k ++ [.str r.nm, .int .i64 0, .int .i64 (-1), .int .i64 0, (.view (n + 1 + 1) 0 0)] :: (rwW t.lk W).drop k).set k [.str r.nm, .int .i64 t.nx, .int .i64 r.cl, .int .i64 (t.tm + r.le), (.view (n + 1 + 1) 0 0)]), 5, 29⟩) rfl rfl rfl rfl (by exact Q0) rfl (by omega) (by omega)).to (v' := .ptr (n + 1 + 1 + 1 + 1 + 1 + 1 + 1 + 1) k 0) (by first | rw [F7] | rfl)) rfl rfl rfl ?_)
    (apply F9 (vs := [.str _, .int _ _, .int _ _, .int _ _, _]) j2; exact Q0; exact Q5; rfl; exact kb; rfl; exact j3)
    apply J5 [n + 1 + 1] (J9 ⟨r.nm, t.nx, r.cl, t.tm + r.le, []⟩ false 1) rfl j2
    ·exact SnapL.cons _ _ _ _ (.one _ _ (.int _ _)) (SnapL.cons _ _ _ _ (SnapC.agg (.cons _ _ _ _ (.str _) (.cons _ _ _ _ (.int _ _) (.cons _ _ _ _ (.int _ _) (.cons _ _ _ _ (.int _ _) (.cons _ _ _ _ (D3 (L := []) (.inr ⟨n + 1 + 1, [], rfl, by exact Q0⟩) (fun a ha => by cases ha; exact List.mem_singleton.2 rfl)) .nil)))))) SnapL.nil)
    ·rfl
    ·rfl
    ·rfl
    (apply D4 (u := .agg [.int _ _, .int _ _, .int _ _, .int _ _]) j3; exact Q0; exact Q5; rfl; rfl; rfl; rfl; exact kb; rfl; exact j2)
    refine A3 (A1 (A9 (B4 (B2 (E0 (A5 (A7 rfl (by exact Q0) j2 kb rfl) A8) (by (repeat first | exact Ch.refl _ | exact qc | refine Ch.upd ?_ | refine Ch.app ?_)) ?_)))))
    rw [T9 hh (by omega), hp]
    refine ⟨rfl, T.insS hk ⟨r.nm, t.nx, r.cl, t.tm + r.le, []⟩ (.view (n + 1 + 1) 0 0) (t.nx + 1) (n + 1 + 1 + 1 + 1 + 1 + 1 + 1 + 1) (by omega) ⟨by omega, by omega⟩ ?_ ?_ (.inr ⟨n + 1 + 1, [], rfl, ?_⟩) (fun a ha => by cases ha; exact ⟨by omega, by omega, by omega⟩) ?_⟩
    ·exact Q0
    ·(simp (disch := (first | omega | assumption)) only [↓appC, ↓updN, ↓updS, ↓app0])
     exact congrArg (fun z => some (Blk.mk z 5 29)) (Y2 hA)
    ·exact Q0
    ·intro a ha h1 h2
     (simp (disch := (first | omega | assumption)) only [↓appC, ↓updN, ↓updS, ↓app0]); exact qk a ha h1
  ·refine H8 j5 (A6 j3 (A6 j3 (A6 j3 (A6 j3 (A6 j3 (A6 j3 (A6 j3 (A6 j3 (A6 j3 (A6 j3 (A6 j3 (G5 (e := false) j6 ?_))))))))))))
   refine B1 20 [0, 0, 0, 0, 0, 0, 0, 0, 0, 0, 0, 0, 0, 0, 0, 1, 0, 0, 0, 0] [] j2 (by decide +kernel) trivial ?_
   refine A1 (wF rfl (E5 (E6 (D7 (C8 (A1 (A2 ?_)))))))
   obtain rfl : k = i := by
    rw [← hp]
    first
    | exact T5 hI.1 hI.2 (fun _ e => Bool.false_ne_true (h6_18.symm.trans e))
    | exact T5 hI.1 hI.2 (fun h => absurd h (by omega))
   refine A0 (C1 (off := 4) (s := 1) (r := false) j3 kz j3 ?_)
   (apply C5 (v := .str _) j2; exact Q0; exact Q5; exact j5)
   refine S8 (es := []) j4 kz kb rfl rfl j3 (L6 (cs := [.str _, .int _ _, .int _ _, .int _ _, _]) j5 (H3 j6 ?_))
   (apply D4 (u := .agg [.str _, .int _ _, .int _ _, .int _ _, _]) j3; exact Q0; exact Q5; rfl; rfl; rfl; rfl; exact kb; rfl; exact j2)
   refine A3 (A1 (C2 [0, 0, 0, 4, 12, 28, 0, 124, 254, 0, 512, 2046, 0, 4096, 12288, 28672, 0, 126976, 262142, 524287, 1048575, 2097151] rfl (by decide +kernel) ?_))
   refine G6 j5 (dbs (es := []) j4 kz kb rfl rfl j3 (G6 j5 (G7 (v := .ptr _ _ _) j6 (D6 (off := 2) (s := 1) (r := false) j3 kz j3 ?_))))
   (apply E1 (v := .view _ _ _) j2; exact Q0; exact Q5; exact j5)
   refine I0 j5 ?_
   (apply dslv j3; exact Q0; exact j3; exact Q4; exact Q4; exact Q4; exact j3)
   (apply dap (s' := 64)  rfl rfl; exact Q0; exact j2; exact Q31; exact j2; exact kz; exact Q27; exact Q22; exact Q11; exact Q11; exact j3)
   (apply L8 (vs := [.str _, .int _ _, .int _ _, .int _ _, _]) j2; exact Q0; exact Q5; rfl; exact kb; exact j4)
   refine dbs (es := [[.str _, .int _ _, .int _ _, .int _ _, _]]) j4 kz kb rfl rfl j3 ?_
   (apply dap (s' := 64) (es := [[.str _, .int _ _, .int _ _, .int _ _, _]]) rfl rfl; exact Q0; exact j2; exact Q31; exact j2; exact kz; exact Q27; exact Q22; exact Q11; exact Q11; exact j3)
   refine G6 j5 (G7 (v := .ptr _ _ _) j6 (D6 (off := 2) (s := 1) (r := false) j3 kz j3 ?_))
   (apply E1 (v := .view _ _ _) j2; exact Q0; exact Q5; exact j5)
   refine I0 j5 ?_
   (apply dslv j3; exact Q0; exact j3; exact Q4; exact Q4; exact Q4; exact j3)
   (apply dap (s' := 64)  rfl rfl; exact Q0; exact j2; exact Q31; exact j2; exact kz; exact Q27; exact Q22; exact Q11; exact Q11; exact j3)
   refine G7 (v := .ptr _ _ _) j6 (D6 (off := 2) (s := 1) (r := false) j3 kz j3 ?_)
   (apply dst (u := .view _ _ _) rfl rfl rfl; exact Q0; exact Q5; rfl; rfl; rfl; rfl; exact kb; rfl; rfl; rfl)
   refine B1 22 [3, 0, 0, 3, 1, 0, 1, 0, 0, 0, 3, 3, 1, 3, 1, 0, 1, 0, 0, 0, 3, 0] [(1, 5), (1, 7), (1, 9), (8, 9), (1, 10), (5, 10), (7, 10), (8, 10), (1, 15), (8, 15), (10, 15), (11, 15), (1, 17), (8, 17), (10, 17), (11, 17)] j2 (by decide +kernel) ?_ ?_
   ·(simp [ClearL, ids, srcIds, Env.eval, upd]; try omega)
   refine A1 (A2 ?_)
   refine Y1 fun g1 hg1 => ?_
   have kI : g1 (n + 1 + 1 + 1 + 1 + 1 + 1 + 1 + 1) = some ⟨((rwW t.lk W).take k ++ [.str r.nm, .int .i64 0, .int .i64 (-1), .int .i64 0, (.view (n + 1 + 1) 0 0)] :: (rwW t.lk W).drop k), 5, 29⟩ := by
    rw [hg1]; (simp (disch := (first | omega | assumption)) only [↓appC, ↓updN, ↓updS, ↓app0])
    refine congrArg (fun z => some (Blk.mk z 5 29)) ?_
    exact insRows (B5 _ _) hk rfl
   have q0 : g1 n = some ⟨[[.int .i64 r.cl, .int .i64 r.st, .int .i64 r.kd, .int .i64 r.le, .str r.nm]], 5, 64⟩ := by rw [hg1]; (simp (disch := (first | omega | assumption)) only [↓appC, ↓updN, ↓updS, ↓app0]); exact k0
   have q1 : g1 (n + 1) = some ⟨[[.int .i64 0, .int .i64 0, .int .i64 0, .int .i64 0]], 4, 60⟩ := by rw [hg1]; (simp (disch := (first | omega | assumption)) only [↓appC, ↓updN, ↓updS, ↓app0]); exact k1
   have q2 : g1 id = some ⟨[[.int .i64 t.tm, .int .i64 t.nx, .view (n + 1 + 1 + 1 + 1 + 1 + 1 + 1 + 1) 0 (t.lk.length + 1), Ss]], 4, 35⟩ := by
    rw [hg1]; (simp (disch := (first | omega | assumption)) only [↓appC, ↓updN, ↓updS, ↓app0])
    exact congrArg (fun z => some (Blk.mk [[.int .i64 t.tm, .int .i64 t.nx, .view (n + 1 + 1 + 1 + 1 + 1 + 1 + 1 + 1) 0 z, Ss]] 4 35)) (insLen (B5 _ _) hk)
   have qW : g1 (n + 1 + 1) = some ⟨[], 2, 123⟩ := by rw [hg1]; (simp (disch := (first | omega | assumption)) only [↓appC, ↓updN, ↓updS, ↓app0]); rfl
   have qk : ∀ a, a < n → a ≠ id → g1 a = h a := fun a ha hne => by rw [hg1]; (simp (disch := (first | omega | assumption)) only [↓appC, ↓updN, ↓updS, ↓app0]); exact kk a ha
   have qc : Ch h g1 := by rw [hg1]; (repeat first | exact Ch.refl _ | exact kc | refine Ch.upd ?_ | refine Ch.app ?_)
   refine A0 (D9 j5 (F6 (v := .ptr _ _ _) j6 (C1 (off := 2) (s := 1) (r := false) j3 kz j3 ?_)))
   (apply C5 (v := .view _ _ _) j2; exact Q0; exact Q5; exact j5)
   refine B6 j5 ?_
   (refine r0 ((B9 (b := ⟨((rwW t.lk W).take k ++ [.str r.nm, .int .i64 0, .int .i64 (-1), .int .i64 0, (.view (n + 1 + 1) 0 0)] :: (rwW t.lk W).drop k), 5, 29⟩) rfl rfl rfl rfl (by exact Q0) rfl (by omega) (by omega)).to (v' := .ptr (n + 1 + 1 + 1 + 1 + 1 + 1 + 1 + 1) k 0) (by first | rw [F7] | rfl)) rfl rfl rfl ?_)
   refine raP j5 (A3 (A1 (A2 (B3 (A2 (C2 [0, 1, 3, 7, 0, 16, 63, 127, 255, 511, 1023, 255, 2303, 8191, 16383, 32767, 65535] rfl (by decide +kernel) ?_))))))
   refine G6 j5 (G7 (v := .ptr _ _ _) j6 (D6 (off := 2) (s := 1) (r := false) j3 kz j3 ?_))
   (apply E1 (v := .int _ _) j2; exact Q0; exact Q5; exact j5)
   refine D6 (off := 0) (s := 1) (r := false) j3 kz j3 ?_
   (apply E1 (v := .int _ _) j2; exact Q0; exact Q5; exact j5)
   refine deq j6 (fun h => absurd h (by omega)) ?_
   intro h11_6
   refine H8 j5 (G6 j5 (G7 (v := .ptr _ _ _) j6 ?_))
   (apply L8 (vs := [.str _, .int _ _, .int _ _, .int _ _, _]) j2; exact Q0; exact Q5; rfl; exact kb; exact j4)
   refine D6 (off := 0) (s := 1) (r := false) j3 kz j3 ?_
   (apply E1 (v := .int _ _) j2; exact Q0; exact Q5; exact j5)
   apply O8 [n + 1 + 1] (s131 ⟨r.nm, 0, -1, 0, []⟩ false r.cl (Nat.zero_le _)) rfl j2
   ·exact SnapL.cons _ _ _ _ (SnapC.agg (.cons _ _ _ _ (.str _) (.cons _ _ _ _ (.int _ _) (.cons _ _ _ _ (.int _ _) (.cons _ _ _ _ (.int _ _) (.cons _ _ _ _ (D3 (L := []) (.inr ⟨n + 1 + 1, [], rfl, by exact Q0⟩) (fun a ha => by cases ha; exact List.mem_singleton.2 rfl)) .nil)))))) (SnapL.cons _ _ _ _ (.one _ _ (.int _ _)) SnapL.nil)
   ·rfl
   ·rfl
   ·rfl
   refine dge j6 (fun h => absurd h ((by show ¬ ((-1 : Int) ≥ 0); decide))) ?_
   intro h11_14
   refine G5 (e := false) j6 (K3 j5 (B1 17 [0, 0, 0, 1, 1, 0, 1, 0, 0, 0, 0, 1, 0, 1, 0, 0, 0] [] j2 (by decide +kernel) trivial ?_))
   refine A1 (wF rfl (A2 (A0 (D9 j5 (F6 (v := .ptr _ _ _) j6 (C1 (off := 2) (s := 1) (r := false) j3 kz j3 ?_))))))
   (apply C5 (v := .int _ _) j2; exact Q0; exact Q5; exact j5)
   refine I6 j6 ?_ (fun h => absurd ((by show (-1 : Int) < 0; decide)) h)
   intro h13_4
   refine C6 j5 (A3 (A1 (wT rfl (A2 (A0 (D9 j5 (B6 j5 (C1 (off := 0) (s := 1) (r := false) j3 kz j3 ?_))))))))
   (apply C5 (v := .int _ _) j2; exact Q0; exact Q5; exact j5)
   refine C1 (off := 3) (s := 1) (r := false) j3 kz j3 ?_
   (apply C5 (v := .int _ _) j2; exact Q0; exact Q5; exact j5)
   refine I9 (o124k r.nm 0 (-1) 0 t.tm t.nx r.cl r.le (.view (n + 1 + 1) 0 0) Ss rfl htm (by omega) hle (id := id) (lb := n + 1 + 1 + 1 + 1 + 1 + 1 + 1 + 1) (j := k) (len := t.lk.length + 1) (R := ((rwW t.lk W).take k ++ [.str r.nm, .int .i64 0, .int .i64 (-1), .int .i64 0, (.view (n + 1 + 1) 0 0)] :: (rwW t.lk W).drop k)) (by omega) (by omega) (by omega) q2 (by omega) hRI kI hrow) rfl rfl rfl rfl rfl rfl ?_
   refine A3 (A1 (A2 (A0 (D9 j5 (F6 (v := .ptr _ _ _) j6 (C1 (off := 2) (s := 1) (r := false) j3 kz j3 ?_))))))
   (apply C5 (v := .view _ _ _) j2; exact Q0; exact Q5; exact j5)
   refine B6 j5 ?_
   (refine r0 ((B9 (b := ⟨(((rwW t.lk W).take k ++ [.str r.nm, .int .i64 0, .int .i64 (-1), .int .i64 0, (.view (n + 1 + 1) 0 0)] :: (rwW t.lk W).drop k).set k [.str r.nm, .int .i64 t.nx, .int .i64 r.cl, .int .i64 (t.tm + r.le), (.view (n + 1 + 1) 0 0)]), 5, 29⟩) rfl rfl rfl rfl (by exact Q0) rfl (by omega) (by omega)).to (v' := .ptr (n + 1 + 1 + 1 + 1 + 1 + 1 + 1 + 1) k 0) (by first | rw [F7] | rfl)) rfl rfl rfl ?_)
   (apply F9 (vs := [.str _, .int _ _, .int _ _, .int _ _, _]) j2; exact Q0; exact Q5; rfl; exact kb; rfl; exact j3)
   apply J5 [n + 1 + 1] (J9 ⟨r.nm, t.nx, r.cl, t.tm + r.le, []⟩ false 1) rfl j2
   ·exact SnapL.cons _ _ _ _ (.one _ _ (.int _ _)) (SnapL.cons _ _ _ _ (SnapC.agg (.cons _ _ _ _ (.str _) (.cons _ _ _ _ (.int _ _) (.cons _ _ _ _ (.int _ _) (.cons _ _ _ _ (.int _ _) (.cons _ _ _ _ (D3 (L := []) (.inr ⟨n + 1 + 1, [], rfl, by exact Q0⟩) (fun a ha => by cases ha; exact List.mem_singleton.2 rfl)) .nil)))))) SnapL.nil)
   ·rfl
   ·rfl
   ·rfl
   (apply D4 (u := .agg [.int _ _, .int _ _, .int _ _, .int _ _]) j3; exact Q0; exact Q5; rfl; rfl; rfl; rfl; exact kb; rfl; exact j2)
   refine A3 (A1 (A9 (B4 (B2 (E0 (A5 (A7 rfl (by exact Q0) j2 kb rfl) A8) (by (repeat first | exact Ch.refl _ | exact qc | refine Ch.upd ?_ | refine Ch.app ?_)) ?_)))))
   rw [T9 hh (by omega), hp]
   refine ⟨rfl, T.insS hk ⟨r.nm, t.nx, r.cl, t.tm + r.le, []⟩ (.view (n + 1 + 1) 0 0) (t.nx + 1) (n + 1 + 1 + 1 + 1 + 1 + 1 + 1 + 1) (by omega) ⟨by omega, by omega⟩ ?_ ?_ (.inr ⟨n + 1 + 1, [], rfl, ?_⟩) (fun a ha => by cases ha; exact ⟨by omega, by omega, by omega⟩) ?_⟩
   ·exact Q0
   ·(simp (disch := (first | omega | assumption)) only [↓appC, ↓updN, ↓updS, ↓app0])
    exact congrArg (fun z => some (Blk.mk z 5 29)) (Y2 hA)
   ·exact Q0
   ·intro a ha h1 h2
    (simp (disch := (first | omega | assumption)) only [↓appC, ↓updN, ↓updS, ↓app0]); exact qk a ha h1
theorem o129z (t : Tb) (r : Rq) (bd : Bd t r) (hh : ¬ hit r.nm t.lk) (hp : pos r.nm t.lk = 0) {id : Nat} {Ss : V} {W : Nat → V} {h : Heap} {n : Nat} (hz : t.lk.length = 0) (T : TabM t id .nsl Ss W h n) : OpenM En 129 [.ptr id 0 0, .agg [.int .i64 r.cl, .int .i64 r.st, .int .i64 r.kd, .int .i64 r.le, .str r.nm]] h n (fun v g m => v = .agg (acqT t r).2.V ∧ TabS (acqT t r).1 id (OwnT id .nsl Ss W t.lk.length) n h g m) := by
 have hid := T.idn
 have kid := T.kid
 have hl4 := bd.l4; have htm := bd.tm; have hnx := bd.nx; have hcl := bd.cl; have hle := bd.le
 have hf := s43 t false false false r.nm bd.srt (by omega)
 rw [fix_no hh] at hf
 have hk : 0 ≤ t.lk.length := by rw [← hp]; exact W6 _ _
 have hsl := T.fl
 have hkl := T.kl
 have hA : ((rwW t.lk W).take 0).length = 0 := by rw [List.length_take, B5]; omega
 have hRI : 0 < ((rwW t.lk W).take 0 ++ [.str r.nm, .int .i64 0, .int .i64 (-1), .int .i64 0, (.view (n + 1 + 1) 0 0)] :: (rwW t.lk W).drop 0).length := by rw [List.length_append, hA, List.length_cons]; omega
 have hrow : ((rwW t.lk W).take 0 ++ [.str r.nm, .int .i64 0, .int .i64 (-1), .int .i64 0, (.view (n + 1 + 1) 0 0)] :: (rwW t.lk W).drop 0)[0]? = some [.str r.nm, .int .i64 0, .int .i64 (-1), .int .i64 0, (.view (n + 1 + 1) 0 0)] := AM hA
 have hR0 : rwW t.lk W = [] := List.eq_nil_of_length_eq_zero (by rw [B5, hz])
 refine OpenM.of_wp Try.func129 rfl kb ?_
 refine A2 (A0 (L7 (u := .agg [.int _ _, .int _ _, .int _ _, .int _ _, .str _]) j3 rfl j3 (H3 j6 (A3 (A1 (A2 (C2 [0, 1, 3, 0, 8, 31, 63] rfl (by decide +kernel) ?_)))))))
 refine G6 j5 (G7 (v := .ptr _ _ _) j6 ?_)
 (apply L8 (vs := [.int _ _, .int _ _, _, _]) j2; exact Q0; exact Q5; rfl; exact kb; exact j4)
 refine D6 (off := 4) (s := 1) (r := false) j3 kz j3 ?_
 (apply E1 (v := .str _) j2; exact Q0; exact Q5; exact j5)
 apply O8 (id :: tabIds (.nsl) Ss W t.lk.length) hf rfl j2
 ·exact SnapL.cons _ _ _ _ (H2 (T.ext (m := n + 1 + 1) (by omega) (fun a ha => by (simp (disch := (first | omega | assumption)) only [↓appC, ↓updN, ↓updS, ↓app0]))).kl (T.ext (m := n + 1 + 1) (by omega) (fun a ha => by (simp (disch := (first | omega | assumption)) only [↓appC, ↓updN, ↓updS, ↓app0]))).ks (T.ext (m := n + 1 + 1) (by omega) (fun a ha => by (simp (disch := (first | omega | assumption)) only [↓appC, ↓updN, ↓updS, ↓app0]))).kw (fun a ha => List.mem_cons_of_mem _ ha)) (SnapL.cons _ _ _ _ (.one _ _ (.str _)) SnapL.nil)
 ·rfl
 ·rfl
 ·rfl
 refine daI j5 (B1 7 [0, 1, 1, 0, 1, 0, 0] [] j2 (by decide +kernel) trivial ?_)
 refine A1 (A2 (A2 (A0 (B6 j5 ?_))))
 refine I6 j6 ?_ (fun h => absurd ((by show (-1 : Int) < 0; decide)) h)
 intro h2_1
 refine A3 (A1 (wT rfl (A2 (A2 (A0 (D9 j5 (F6 (v := .ptr _ _ _) j6 (C1 (off := 2) (s := 1) (r := false) j3 kz j3 ?_))))))))
 (apply C5 (v := .nsl) j2; exact Q0; exact Q5; exact j5)
 refine H0 rfl rfl rfl j3 ?_
 refine H5 j6 (fun h => absurd h ((by show ¬ ((0 : Int) = 4); decide))) ?_
 intro h3_5
 refine A3 (A1 (wF rfl (B0 (A1 (A2 ?_)))))
 refine Y1 fun g0 hg0 => ?_
 have k0 : g0 n = some ⟨[[.int .i64 r.cl, .int .i64 r.st, .int .i64 r.kd, .int .i64 r.le, .str r.nm]], 5, 64⟩ := by rw [hg0]; (simp (disch := (first | omega | assumption)) only [↓appC, ↓updN, ↓updS, ↓app0]); rfl
 have k1 : g0 (n + 1) = some ⟨[[.int .i64 0, .int .i64 0, .int .i64 0, .int .i64 0]], 4, 60⟩ := by rw [hg0]; (simp (disch := (first | omega | assumption)) only [↓appC, ↓updN, ↓updS, ↓app0]); rfl
 have k2 : g0 id = some ⟨[[.int .i64 t.tm, .int .i64 t.nx, .nsl, Ss]], 4, 35⟩ := by rw [hg0]; exact Q0
 have kk : ∀ a, a < n → g0 a = h a := fun a ha => by rw [hg0]; (simp (disch := (first | omega | assumption)) only [↓appC, ↓updN, ↓updS, ↓app0])
 have kc : Ch h g0 := by rw [hg0]; (repeat first | exact Ch.refl _ | refine Ch.upd ?_ | refine Ch.app ?_)
 refine A0 (D0 j5 (A3 (A1 (A2 (B3 (F0 (E8 (A2 (A2 (C2 [0, 0, 2, 6, 14, 30, 63, 127, 255, 511, 1023, 2047, 255, 8191, 16383, 32767, 255, 65791, 262143, 524287] rfl (by decide +kernel) ?_))))))))))
 refine I0 j5 (G6 j5 (G7 (v := .ptr _ _ _) j6 (D6 (off := 2) (s := 1) (r := false) j3 kz j3 ?_)))
 (apply E1 (v := .nsl) j2; exact Q0; exact Q5; exact j5)
 refine dll rfl rfl rfl j3 ?_
 refine dlt j6 (fun h => absurd h ((by show ¬ ((0 : Int) < 0); decide))) ?_
 intro h6_6
 refine H8 j5 (A6 j3 (A6 j3 (A6 j3 (A6 j3 (A6 j3 (A6 j3 (A6 j3 (A6 j3 (A6 j3 (A6 j3 (A6 j3 (G5 (e := false) j6 ?_))))))))))))
 refine B1 20 [0, 0, 0, 0, 0, 0, 0, 0, 0, 0, 0, 0, 0, 0, 0, 1, 0, 0, 0, 0] [] j2 (by decide +kernel) trivial ?_
 refine A1 (wF rfl (E5 (E6 (D7 (C8 (A1 (A2 ?_)))))))
 skip
 refine A0 (C1 (off := 4) (s := 1) (r := false) j3 kz j3 ?_)
 (apply C5 (v := .str _) j2; exact Q0; exact Q5; exact j5)
 refine S8 (es := []) j4 kz kb rfl rfl j3 (L6 (cs := [.str _, .int _ _, .int _ _, .int _ _, _]) j5 (H3 j6 ?_))
 (apply D4 (u := .agg [.str _, .int _ _, .int _ _, .int _ _, _]) j3; exact Q0; exact Q5; rfl; rfl; rfl; rfl; exact kb; rfl; exact j2)
 refine A3 (A1 (C2 [0, 0, 0, 4, 12, 28, 0, 124, 254, 0, 512, 2046, 0, 4096, 12288, 28672, 0, 126976, 262142, 524287, 1048575, 2097151] rfl (by decide +kernel) ?_))
 refine G6 j5 (dbs (es := []) j4 kz kb rfl rfl j3 (G6 j5 (G7 (v := .ptr _ _ _) j6 (D6 (off := 2) (s := 1) (r := false) j3 kz j3 ?_))))
 (apply E1 (v := .nsl) j2; exact Q0; exact Q5; exact j5)
 refine I0 j5 (dsnn j8 ?_)
 (apply dap (s' := 64)  rfl rfl; exact Q0; exact j2; exact Q31; exact j2; exact kz; exact Q27; exact Q22; exact Q11; exact Q11; exact j3)
 (apply L8 (vs := [.str _, .int _ _, .int _ _, .int _ _, _]) j2; exact Q0; exact Q5; rfl; exact kb; exact j4)
 refine dbs (es := [[.str _, .int _ _, .int _ _, .int _ _, _]]) j4 kz kb rfl rfl j3 ?_
 (apply dap (s' := 64) (es := [[.str _, .int _ _, .int _ _, .int _ _, _]]) rfl rfl; exact Q0; exact j2; exact Q31; exact j2; exact kz; exact Q27; exact Q22; exact Q11; exact Q11; exact j3)
 refine G6 j5 (G7 (v := .ptr _ _ _) j6 (D6 (off := 2) (s := 1) (r := false) j3 kz j3 ?_))
 (apply E1 (v := .nsl) j2; exact Q0; exact Q5; exact j5)
 refine I0 j5 (dsnn j8 ?_)
 (apply dap (s' := 64)  rfl rfl; exact Q0; exact j2; exact Q31; exact j2; exact kz; exact Q27; exact Q22; exact Q11; exact Q11; exact j3)
 refine G7 (v := .ptr _ _ _) j6 (D6 (off := 2) (s := 1) (r := false) j3 kz j3 ?_)
 (apply dst (u := .view _ _ _) rfl rfl rfl; exact Q0; exact Q5; rfl; rfl; rfl; rfl; exact kb; rfl; rfl; rfl)
 refine B1 22 [3, 0, 0, 3, 0, 0, 1, 0, 0, 0, 3, 3, 1, 3, 0, 0, 1, 0, 0, 0, 3, 0] [(1, 5), (1, 9), (8, 9), (1, 10), (5, 10), (8, 10), (1, 15), (8, 15), (10, 15), (11, 15)] j2 (by decide +kernel) ?_ ?_
 ·(simp [ClearL, ids, srcIds, Env.eval, upd]; try omega)
 refine A1 (A2 ?_)
 refine Y1 fun g1 hg1 => ?_
 have kI : g1 (n + 1 + 1 + 1 + 1 + 1 + 1 + 1 + 1) = some ⟨((rwW t.lk W).take 0 ++ [.str r.nm, .int .i64 0, .int .i64 (-1), .int .i64 0, (.view (n + 1 + 1) 0 0)] :: (rwW t.lk W).drop 0), 5, 29⟩ := by
  rw [hg1]; (simp (disch := (first | omega | assumption)) only [↓appC, ↓updN, ↓updS, ↓app0])
  refine congrArg (fun z => some (Blk.mk z 5 29)) ?_
  rw [hR0]; rfl
 have q0 : g1 n = some ⟨[[.int .i64 r.cl, .int .i64 r.st, .int .i64 r.kd, .int .i64 r.le, .str r.nm]], 5, 64⟩ := by rw [hg1]; (simp (disch := (first | omega | assumption)) only [↓appC, ↓updN, ↓updS, ↓app0]); exact k0
 have q1 : g1 (n + 1) = some ⟨[[.int .i64 0, .int .i64 0, .int .i64 0, .int .i64 0]], 4, 60⟩ := by rw [hg1]; (simp (disch := (first | omega | assumption)) only [↓appC, ↓updN, ↓updS, ↓app0]); exact k1
 have q2 : g1 id = some ⟨[[.int .i64 t.tm, .int .i64 t.nx, .view (n + 1 + 1 + 1 + 1 + 1 + 1 + 1 + 1) 0 (t.lk.length + 1), Ss]], 4, 35⟩ := by
  rw [hg1]; (simp (disch := (first | omega | assumption)) only [↓appC, ↓updN, ↓updS, ↓app0])
  exact congrArg (fun z => some (Blk.mk [[.int .i64 t.tm, .int .i64 t.nx, .view (n + 1 + 1 + 1 + 1 + 1 + 1 + 1 + 1) 0 z, Ss]] 4 35)) ((by rw [hz]; rfl))
 have qW : g1 (n + 1 + 1) = some ⟨[], 2, 123⟩ := by rw [hg1]; (simp (disch := (first | omega | assumption)) only [↓appC, ↓updN, ↓updS, ↓app0]); rfl
 have qk : ∀ a, a < n → a ≠ id → g1 a = h a := fun a ha hne => by rw [hg1]; (simp (disch := (first | omega | assumption)) only [↓appC, ↓updN, ↓updS, ↓app0]); exact kk a ha
 have qc : Ch h g1 := by rw [hg1]; (repeat first | exact Ch.refl _ | exact kc | refine Ch.upd ?_ | refine Ch.app ?_)
 refine A0 (D9 j5 (F6 (v := .ptr _ _ _) j6 (C1 (off := 2) (s := 1) (r := false) j3 kz j3 ?_)))
 (apply C5 (v := .view _ _ _) j2; exact Q0; exact Q5; exact j5)
 refine B6 j5 ?_
 (refine r0 ((B9 (b := ⟨((rwW t.lk W).take 0 ++ [.str r.nm, .int .i64 0, .int .i64 (-1), .int .i64 0, (.view (n + 1 + 1) 0 0)] :: (rwW t.lk W).drop 0), 5, 29⟩) rfl rfl rfl rfl (by exact Q0) rfl (by omega) (by omega)).to (v' := .ptr (n + 1 + 1 + 1 + 1 + 1 + 1 + 1 + 1) 0 0) (by first | rw [F7] | rfl)) rfl rfl rfl ?_)
 refine raP j5 (A3 (A1 (A2 (B3 (A2 (C2 [0, 1, 3, 7, 0, 16, 63, 127, 255, 511, 1023, 255, 2303, 8191, 16383, 32767, 65535] rfl (by decide +kernel) ?_))))))
 refine G6 j5 (G7 (v := .ptr _ _ _) j6 (D6 (off := 2) (s := 1) (r := false) j3 kz j3 ?_))
 (apply E1 (v := .int _ _) j2; exact Q0; exact Q5; exact j5)
 refine D6 (off := 0) (s := 1) (r := false) j3 kz j3 ?_
 (apply E1 (v := .int _ _) j2; exact Q0; exact Q5; exact j5)
 refine deq j6 (fun h => absurd h (by omega)) ?_
 intro h11_6
 refine H8 j5 (G6 j5 (G7 (v := .ptr _ _ _) j6 ?_))
 (apply L8 (vs := [.str _, .int _ _, .int _ _, .int _ _, _]) j2; exact Q0; exact Q5; rfl; exact kb; exact j4)
 refine D6 (off := 0) (s := 1) (r := false) j3 kz j3 ?_
 (apply E1 (v := .int _ _) j2; exact Q0; exact Q5; exact j5)
 apply O8 [n + 1 + 1] (s131 ⟨r.nm, 0, -1, 0, []⟩ false r.cl (Nat.zero_le _)) rfl j2
 ·exact SnapL.cons _ _ _ _ (SnapC.agg (.cons _ _ _ _ (.str _) (.cons _ _ _ _ (.int _ _) (.cons _ _ _ _ (.int _ _) (.cons _ _ _ _ (.int _ _) (.cons _ _ _ _ (D3 (L := []) (.inr ⟨n + 1 + 1, [], rfl, by exact Q0⟩) (fun a ha => by cases ha; exact List.mem_singleton.2 rfl)) .nil)))))) (SnapL.cons _ _ _ _ (.one _ _ (.int _ _)) SnapL.nil)
 ·rfl
 ·rfl
 ·rfl
 refine dge j6 (fun h => absurd h ((by show ¬ ((-1 : Int) ≥ 0); decide))) ?_
 intro h11_14
 refine G5 (e := false) j6 (K3 j5 (B1 17 [0, 0, 0, 1, 1, 0, 1, 0, 0, 0, 0, 1, 0, 1, 0, 0, 0] [] j2 (by decide +kernel) trivial ?_))
 refine A1 (wF rfl (A2 (A0 (D9 j5 (F6 (v := .ptr _ _ _) j6 (C1 (off := 2) (s := 1) (r := false) j3 kz j3 ?_))))))
 (apply C5 (v := .int _ _) j2; exact Q0; exact Q5; exact j5)
 refine I6 j6 ?_ (fun h => absurd ((by show (-1 : Int) < 0; decide)) h)
 intro h13_4
 refine C6 j5 (A3 (A1 (wT rfl (A2 (A0 (D9 j5 (B6 j5 (C1 (off := 0) (s := 1) (r := false) j3 kz j3 ?_))))))))
 (apply C5 (v := .int _ _) j2; exact Q0; exact Q5; exact j5)
 refine C1 (off := 3) (s := 1) (r := false) j3 kz j3 ?_
 (apply C5 (v := .int _ _) j2; exact Q0; exact Q5; exact j5)
 refine I9 (o124k r.nm 0 (-1) 0 t.tm t.nx r.cl r.le (.view (n + 1 + 1) 0 0) Ss rfl htm (by omega) hle (id := id) (lb := n + 1 + 1 + 1 + 1 + 1 + 1 + 1 + 1) (j := 0) (len := t.lk.length + 1) (R := ((rwW t.lk W).take 0 ++ [.str r.nm, .int .i64 0, .int .i64 (-1), .int .i64 0, (.view (n + 1 + 1) 0 0)] :: (rwW t.lk W).drop 0)) (by omega) (by omega) (by omega) q2 (by omega) hRI kI hrow) rfl rfl rfl rfl rfl rfl ?_
 refine A3 (A1 (A2 (A0 (D9 j5 (F6 (v := .ptr _ _ _) j6 (C1 (off := 2) (s := 1) (r := false) j3 kz j3 ?_))))))
 (apply C5 (v := .view _ _ _) j2; exact Q0; exact Q5; exact j5)
 refine B6 j5 ?_
 (refine r0 ((B9 (b := ⟨(((rwW t.lk W).take 0 ++ [.str r.nm, .int .i64 0, .int .i64 (-1), .int .i64 0, (.view (n + 1 + 1) 0 0)] :: (rwW t.lk W).drop 0).set 0 [.str r.nm, .int .i64 t.nx, .int .i64 r.cl, .int .i64 (t.tm + r.le), (.view (n + 1 + 1) 0 0)]), 5, 29⟩) rfl rfl rfl rfl (by exact Q0) rfl (by omega) (by omega)).to (v' := .ptr (n + 1 + 1 + 1 + 1 + 1 + 1 + 1 + 1) 0 0) (by first | rw [F7] | rfl)) rfl rfl rfl ?_)
 (apply F9 (vs := [.str _, .int _ _, .int _ _, .int _ _, _]) j2; exact Q0; exact Q5; rfl; exact kb; rfl; exact j3)
 apply J5 [n + 1 + 1] (J9 ⟨r.nm, t.nx, r.cl, t.tm + r.le, []⟩ false 1) rfl j2
 ·exact SnapL.cons _ _ _ _ (.one _ _ (.int _ _)) (SnapL.cons _ _ _ _ (SnapC.agg (.cons _ _ _ _ (.str _) (.cons _ _ _ _ (.int _ _) (.cons _ _ _ _ (.int _ _) (.cons _ _ _ _ (.int _ _) (.cons _ _ _ _ (D3 (L := []) (.inr ⟨n + 1 + 1, [], rfl, by exact Q0⟩) (fun a ha => by cases ha; exact List.mem_singleton.2 rfl)) .nil)))))) SnapL.nil)
 ·rfl
 ·rfl
 ·rfl
 (apply D4 (u := .agg [.int _ _, .int _ _, .int _ _, .int _ _]) j3; exact Q0; exact Q5; rfl; rfl; rfl; rfl; exact kb; rfl; exact j2)
 refine A3 (A1 (A9 (B4 (B2 (E0 (A5 (A7 rfl (by exact Q0) j2 kb rfl) A8) (by (repeat first | exact Ch.refl _ | exact qc | refine Ch.upd ?_ | refine Ch.app ?_)) ?_)))))
 rw [T9 hh (by omega), hp]
 refine ⟨rfl, T.insS hk ⟨r.nm, t.nx, r.cl, t.tm + r.le, []⟩ (.view (n + 1 + 1) 0 0) (t.nx + 1) (n + 1 + 1 + 1 + 1 + 1 + 1 + 1 + 1) (by omega) ⟨by omega, by omega⟩ ?_ ?_ (.inr ⟨n + 1 + 1, [], rfl, ?_⟩) (fun a ha => by cases ha; exact ⟨by omega, by omega, by omega⟩) ?_⟩
 ·exact Q0
 ·(simp (disch := (first | omega | assumption)) only [↓appC, ↓updN, ↓updS, ↓app0])
  exact congrArg (fun z => some (Blk.mk z 5 29)) (Y2 hA)
 ·exact Q0
 ·intro a ha h1 h2
  (simp (disch := (first | omega | assumption)) only [↓appC, ↓updN, ↓updS, ↓app0]); exact qk a ha h1
theorem o129 (t : Tb) (r : Rq) (bd : Bd t r) (hhd0 : ∀ i, i < t.lk.length → -1 ≤ (t.lk.getD i Lk0).hd) {id : Nat} {Sl Ss : V} {W : Nat → V} {h : Heap} {n : Nat} (T : TabM t id Sl Ss W h n) : OpenM En 129 [.ptr id 0 0, .agg [.int .i64 r.cl, .int .i64 r.st, .int .i64 r.kd, .int .i64 r.le, .str r.nm]] h n (fun v g m => v = .agg (acqT t r).2.V ∧ TabS (acqT t r).1 id (OwnT id Sl Ss W t.lk.length) n h g m) := by
 rcases T.kl with ⟨rfl, k⟩ | ⟨lb, rfl, k⟩
 ·have hl : t.lk.length = 0 := by have := congrArg List.length k; rw [B5] at this; exact this
  have e : t.lk = [] := List.eq_nil_of_length_eq_zero hl
  exact o129z t r bd (fun e => by have := e.1; omega) (by rw [e]; rfl) hl T
 ·rw [B5] at T ⊢
  by_cases hh : hit r.nm t.lk
  ·exact o129h t r bd hhd0 hh rfl T
  ·exact o129x t r bd hh rfl T
end Go.Proofs.Ytknnniaoboaghaa
