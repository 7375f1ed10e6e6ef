import Derived.Test.YtknnniaoboaghaaL9
namespace Go.Proofs.Ytknnniaoboaghaa
open Go.V
set_option linter.unusedVariables false
set_option linter.unusedSimpArgs false
set_option maxRecDepth 20000
set_option maxHeartbeats 4000000
theorem takeRP (pre : List (List V)) (a : Wt) (r : List Wt) : ((pre ++ (a :: r).map wtV).drop (pre.length + 1)).take r.length = r.map wtV := by
 have e : pre ++ (a :: r).map wtV = (pre ++ [wtV a]) ++ r.map wtV := by simp
 have e2 : pre.length + 1 = (pre ++ [wtV a]).length := by simp
 rw [e, e2, List.drop_left, List.take_of_length_le (by simp)]
theorem o95c (nm : ByteArray) (tk hd ex tm nx c le : Int) (wb : Nat) (pre : List (List V)) (r : List Wt) (Ss : V) (hr : r.length ≤ 1000) (ht : 0 ≤ tm ∧ tm ≤ 1000000000) (hn : 0 ≤ nx ∧ nx ≤ 999999) (hle : 0 ≤ le ∧ le ≤ 1000) {id lb j len : Nat} {R : List (List V)} {h : Heap} {n : Nat} (hid : id < n) (hlb : lb < n) (hne : lb ≠ id) (hh : h id = some ⟨[[.int .i64 tm, .int .i64 nx, .view lb 0 len, Ss]], 4, 35⟩) (hjl : j < len) (hj : 0 + j < R.length) (k1 : h lb = some ⟨R, 5, 29⟩) (hwb : wb < n) (hwl : wb ≠ lb) (hwi : wb ≠ id) (k2 : R[0 + j]? = some [.str nm, .int .i64 tk, .int .i64 hd, .int .i64 ex, .view wb pre.length (r.length + 1)]) (k3 : h wb = some ⟨pre ++ ((c, le) :: r).map wtV, 2, 123⟩) : V.Open En 95 [.ptr id 0 0, .int .i64 j] h n (.tup []) [(lb, some ⟨R.set (0 + j) [.str nm, .int .i64 nx, .int .i64 c, .int .i64 (tm + le), .view (n + 2) 0 r.length], 5, 29⟩), (id, some ⟨[[.int .i64 tm, .int .i64 (nx + 1), .view lb 0 len, Ss]], 4, 35⟩), (n + 2, some ⟨r.map wtV, 2, 123⟩)] (n + 3) := by
 refine V.Open.of_wp Try.func95 rfl kb ?_
 refine A2 (A0 (D9 j5 (F8 (v := .ptr _ _ _) j6 (C2 (off := 2) (s := 1) (r := false) j3 kz j3 ?_))))
 (apply C6 (v := .view _ _ _) j2; exact Q0; exact Q9; exact j5)
 refine B5 j5 ?_
 (apply U0 j4; exact Q0; rfl; exact Q4; exact Q4; exact j3)
 refine raP j5 (A3 (A1 (A2 (A2 (A0 (D9 j5 (F8 (v := .ptr _ _ _) j6 (C2 (off := 4) (s := 1) (r := false) j3 kz j3 ?_))))))))
 (apply C6 (v := .view _ _ _) j2; exact Q0; exact Q9; exact j5)
 refine G7 rfl rfl rfl j3 ?_
 refine H5 j6 (fun h => absurd h ((by show ¬ (((r.length + 1 : Nat) : Int) = 0); omega))) ?_
 intro h1_5
 refine A3 (A1 (wF rfl (B2 (A1 (A2 (A0 (D9 j5 (F8 (v := .ptr _ _ _) j6 (C2 (off := 4) (s := 1) (r := false) j3 kz j3 ?_)))))))))
 (apply C6 (v := .view _ _ _) j2; exact Q0; exact Q9; exact j5)
 (apply U0 j4; exact Q0; rfl; exact Q4; exact Q4; exact j3)
 (apply F7 (vs := [.int _ _, .int _ _]) j2; exact Q0; exact getMP wtV (0, 0) (X := (c, le) :: r) (i := 0) (Nat.succ_pos _); rfl; exact kb; rfl; exact j3)
 refine H3 j6 ?_
 (apply D6 (u := .agg [.int _ _, .int _ _]) j3; exact Q0; exact Q9; rfl; rfl; rfl; rfl; exact kb; rfl; exact j2)
 refine A3 (A1 (A2 (A0 (D9 j5 (T9 (es := []) j4 kz kb rfl rfl j3 (D9 j5 (F8 (v := .ptr _ _ _) j6 (C2 (off := 4) (s := 1) (r := false) j3 kz j3 ?_))))))))
 (apply C6 (v := .view _ _ _) j2; exact Q0; exact Q9; exact j5)
 (apply rslv j3; exact Q0; exact j3; exact Q4; exact Q4; exact Q4; exact j3)
 (apply rap (s' := 16) rfl rfl; exact Q0; exact j2; rfl; exact j2; exact kz; (apply K0 rfl; exact Q0; (show pre.length + 1 + _ ≤ (pre ++ List.map wtV _).length; simp; omega); exact takeRP pre ⟨c, le⟩ r); exact lenWtR r; (first | (show (0 + (r.map wtV).length) * _ ≤ _; rw [lenR]; omega) | (show 0 + (r.map wtV).length ≤ _; rw [lenR]; omega)); (first | (show (0 + (r.map wtV).length) * _ ≤ _; rw [lenR]; omega) | (show 0 + (r.map wtV).length ≤ _; rw [lenR]; omega)); exact j3)
 refine F8 (v := .ptr _ _ _) j6 (C2 (off := 4) (s := 1) (r := false) j3 kz j3 ?_)
 (apply D6 (u := .view _ _ _) j3; exact Q0; exact Q9; rfl; rfl; rfl; rfl; exact kb; rfl; exact j2)
 refine A3 (A1 (A0 (D9 j5 (B5 j5 (C2 (off := 0) (s := 1) (r := false) j3 kz j3 ?_)))))
 (apply C6 (v := .int _ _) j2; exact Q0; exact Q9; exact j5)
 refine C2 (off := 1) (s := 1) (r := false) j3 kz j3 ?_
 (apply C6 (v := .int _ _) j2; exact Q0; exact Q9; exact j5)
 refine I7 (o124 nm tk hd ex tm nx c le (.view (n + 2) 0 (0 + (r.map wtV).length)) Ss rfl ht hn hle (id := id) (lb := lb) (j := j) (len := len) (R := R.set (0 + j) [.str nm, .int .i64 tk, .int .i64 hd, .int .i64 ex, .view (n + 2) 0 (0 + (r.map wtV).length)]) (by omega) (by omega) hne (by exact Q0) hjl (by rw [List.length_set]; exact hj) (by exact Q0) (List.getElem?_set_self hj)) rfl rfl rfl rfl rfl rfl ?_
 refine A3 ?_
 rw [← lenR r]; exact F2 rfl rfl (K9 (by
  intro jx hjx
  simp only [List.map_cons, List.map_nil, List.mem_cons, List.not_mem_nil, or_false] at hjx
  rcases hjx with rfl | rfl | rfl <;> (simp (disch := omega) only [↓appC, ↓updN, ↓updS, ↓app0]) <;> first | rfl | (focus (simp only [List.set_set]; done)) | (simp only [List.set_set]; rfl)) (fun jx hjx hn => by
  simp only [List.map_cons, List.map_nil, List.mem_cons, List.not_mem_nil, or_false, not_or] at hn
  (simp (disch := omega) only [↓appC, ↓updN, ↓updS, ↓app0]))) (by omega)
theorem o95n (nm : ByteArray) (tk hd ex tm nx : Int) (Ss : V) {id lb j len : Nat} {R : List (List V)} {h : Heap} {n : Nat} (hid : id < n) (hlb : lb < n) (hne : lb ≠ id) (hh : h id = some ⟨[[.int .i64 tm, .int .i64 nx, .view lb 0 len, Ss]], 4, 35⟩) (hjl : j < len) (hj : 0 + j < R.length) (k1 : h lb = some ⟨R, 5, 29⟩) (k2 : R[0 + j]? = some [.str nm, .int .i64 tk, .int .i64 hd, .int .i64 ex, .nsl]) : V.Open En 95 [.ptr id 0 0, .int .i64 j] h n (.tup []) [(lb, some ⟨R.set (0 + j) [.str nm, .int .i64 tk, .int .i64 (-1), .int .i64 0, .nsl], 5, 29⟩), (id, some ⟨[[.int .i64 tm, .int .i64 nx, .view lb 0 len, Ss]], 4, 35⟩), (n + 2, none)] (n + 3) := by
 refine V.Open.fresh rfl (by omega) fun hz => ?_
 refine V.Open.of_wp Try.func95 rfl kb ?_
 refine A2 (A0 (D9 j5 (F8 (v := .ptr _ _ _) j6 (C2 (off := 2) (s := 1) (r := false) j3 kz j3 ?_))))
 (apply C6 (v := .view _ _ _) j2; exact Q0; exact Q9; exact j5)
 refine B5 j5 ?_
 (apply U0 j4; exact Q0; rfl; exact Q4; exact Q4; exact j3)
 refine raP j5 (A3 (A1 (A2 (A2 (A0 (D9 j5 (F8 (v := .ptr _ _ _) j6 (C2 (off := 4) (s := 1) (r := false) j3 kz j3 ?_))))))))
 (apply C6 (v := .nsl) j2; exact Q0; exact Q9; exact j5)
 refine G7 rfl rfl rfl j3 ?_
 refine H5 j6 ?_ (fun h => absurd (rfl) h)
 intro h1_5
 refine A3 (A1 (wT rfl (A2 (A0 (D9 j5 (F8 (v := .ptr _ _ _) j6 (C2 (off := 2) (s := 1) (r := false) j3 kz j3 ?_)))))))
 (apply D6 (u := .int _ _) j3; exact Q0; exact Q9; rfl; rfl; rfl; rfl; exact kb; rfl; exact j2)
 refine A3 (A1 (A2 (A0 (D9 j5 (F8 (v := .ptr _ _ _) j6 (C2 (off := 3) (s := 1) (r := false) j3 kz j3 ?_))))))
 (apply D6 (u := .int _ _) j3; exact Q0; exact Q9; rfl; rfl; rfl; rfl; exact kb; rfl; exact j2)
 refine A3 (A1 (B1 (B0 ?_)))
 exact F2 rfl rfl (K9 (by
  intro jx hjx
  simp only [List.map_cons, List.map_nil, List.mem_cons, List.not_mem_nil, or_false] at hjx
  rcases hjx with rfl | rfl | rfl <;> (simp (disch := omega) only [↓appC, ↓updN, ↓updS, ↓app0]) <;> first | rfl | exact hh | exact hz _ (by omega) | (focus (simp only [List.set_set]; done)) | (simp only [List.set_set]; rfl)) (fun jx hjx hn => by
  simp only [List.map_cons, List.map_nil, List.mem_cons, List.not_mem_nil, or_false, not_or] at hn
  (simp (disch := omega) only [↓appC, ↓updN, ↓updS, ↓app0]))) (by omega)
theorem o95w (l : Lk) (w : V) (tm nx : Int) (Ss : V) (hL : l.ws.length ≤ 1000) (hw : ∀ i, i < l.ws.length → 1 ≤ (l.ws.getD i (0, 0)).2 ∧ (l.ws.getD i (0, 0)).2 ≤ 1000) (ht : 0 ≤ tm ∧ tm ≤ 1000000000) (hn : 0 ≤ nx ∧ nx ≤ 999999) {id lb j len : Nat} {R : List (List V)} {h : Heap} {n : Nat} (hid : id < n) (hlb : lb < n) (hne : lb ≠ id) (hh : h id = some ⟨[[.int .i64 tm, .int .i64 nx, .view lb 0 len, Ss]], 4, 35⟩) (hjl : j < len) (hj : 0 + j < R.length) (k1 : h lb = some ⟨R, 5, 29⟩) (k2 : R[0 + j]? = some (l.V w)) (k3 : IsL h w (l.ws.map wtV) 2 123) (k4 : ∀ a, fpV w = some a → a < n ∧ a ≠ lb ∧ a ≠ id) :
  ∃ p : V × Option Blk, ((∀ a, fpV p.1 = some a → a = n + 2 ∨ fpV w = some a) ∧ (∀ g : Heap, g (n + 2) = p.2 → (∀ a, fpV w = some a → g a = h a) → IsL g p.1 ((frL tm nx l).ws.map wtV) 2 123)) ∧
   V.Open En 95 [.ptr id 0 0, .int .i64 j] h n (.tup []) [(lb, some ⟨R.set (0 + j) ((frL tm nx l).V p.1), 5, 29⟩), (id, some ⟨[[.int .i64 tm, .int .i64 (frN nx l), .view lb 0 len, Ss]], 4, 35⟩), (n + 2, p.2)] (n + 3) := by
 obtain ⟨nm, tk, hd, ex, ws⟩ := l
 cases ws with
 | nil =>
  rcases k3 with ⟨rfl, _⟩ | ⟨wb, pre, rfl, k⟩
  ·exact ⟨(.nsl, none), ⟨fun a ha => (by cases ha), fun g _ _ => .inl ⟨rfl, rfl⟩⟩, o95n nm tk hd ex tm nx Ss hid hlb hne hh hjl hj k1 k2⟩
  ·exact ⟨(.view wb pre.length 0, none), ⟨fun a ha => .inr ha, fun g _ e => .inr ⟨wb, pre, rfl, (e wb rfl).trans k⟩⟩, o95z nm tk hd ex tm nx wb pre.length Ss hid hlb hne hh hjl hj k1 k2⟩
 | cons a r =>
  rcases k3 with ⟨_, k⟩ | ⟨wb, pre, rfl, k⟩
  ·cases k
  ·have hw0 := hw 0 (by simp)
   simp only [List.getD_eq_getElem?_getD, List.getElem?_cons_zero, Option.getD_some] at hw0
   have q := k4 wb rfl
   have k2' : R[0 + j]? = some [.str nm, .int .i64 tk, .int .i64 hd, .int .i64 ex, .view wb pre.length (r.length + 1)] := by rw [k2]; simp [Lk.V]
   simp only [List.length_cons] at hL
   exact ⟨(.view (n + 2) 0 r.length, some ⟨r.map wtV, 2, 123⟩), ⟨fun a ha => (by cases ha; exact .inl rfl), fun g e _ => .inr ⟨n + 2, [], by simp [frL], by rw [e]; rfl⟩⟩,
    o95c nm tk hd ex tm nx a.1 a.2 wb pre r Ss (by omega) ht hn ⟨by omega, hw0.2⟩ hid hlb hne hh hjl hj k1 q.1 q.2.1 q.2.2 k2' k⟩
structure TabV (t : Tb) (Sl Ss : V) (W : Nat → V) (h : Heap) (n0 n : Nat) : Prop where
 kl : IsZ h Sl (rwW t.lk W) 5 29
 ks : IsZ h Ss (t.sn.map Sn.V) 6 115
 kw : ∀ i, i < t.lk.length → IsL h (W i) ((t.lk.getD i Lk0).ws.map wtV) 2 123
 fl : ∀ a, fpV Sl = some a → n0 ≤ a ∧ a < n
 fs : ∀ a, fpV Ss = some a → (n0 ≤ a ∧ a < n) ∧ fpV Sl ≠ some a
 fw : ∀ i a, i < t.lk.length → fpV (W i) = some a → (n0 ≤ a ∧ a < n) ∧ fpV Sl ≠ some a ∧ fpV Ss ≠ some a ∧ ∀ j, j < t.lk.length → j ≠ i → fpV (W j) ≠ some a
theorem TabM.toV {t : Tb} {id : Nat} {Sl Ss : V} {W : Nat → V} {h : Heap} {n n0 : Nat} (T : TabM t id Sl Ss W h n) (hn : ∀ a, OwnT id Sl Ss W t.lk.length a → n0 ≤ a) : TabV t Sl Ss W h n0 n :=
 ⟨T.kl, T.ks, T.kw, fun a h => ⟨hn a (.inr (.inl h)), (T.fl a h).1⟩, fun a h => ⟨⟨hn a (.inr (.inr (.inl h))), (T.fs a h).1⟩, (T.fs a h).2.2⟩, fun i a hi h => ⟨⟨hn a (.inr (.inr (.inr ⟨i, hi, h⟩))), (T.fw i a hi h).1⟩, (T.fw i a hi h).2.2⟩⟩
theorem TabV.keep {t : Tb} {Sl Ss : V} {W : Nat → V} {h g : Heap} {n n0 m : Nat} (T : TabV t Sl Ss W h n0 n) (hm : n ≤ m) (e : ∀ a, n0 ≤ a → a < n → g a = h a) : TabV t Sl Ss W g n0 m :=
 ⟨T.kl.mono fun a h => e a (T.fl a h).1 (T.fl a h).2, T.ks.mono fun a h => e a (T.fs a h).1.1 (T.fs a h).1.2, fun i hi => (T.kw i hi).mono fun a h => e a (T.fw i a hi h).1.1 (T.fw i a hi h).1.2,
  fun a h => ⟨(T.fl a h).1, by have := (T.fl a h).2; omega⟩, fun a h => ⟨⟨(T.fs a h).1.1, by have := (T.fs a h).1.2; omega⟩, (T.fs a h).2⟩, fun i a hi h => ⟨⟨(T.fw i a hi h).1.1, by have := (T.fw i a hi h).1.2; omega⟩, (T.fw i a hi h).2⟩⟩
theorem TabV.toM {t : Tb} {Sl Ss : V} {W : Nat → V} {h g : Heap} {n n0 m id : Nat} (T : TabV t Sl Ss W h n0 n) (hid : id < m ∧ (n ≤ id ∨ id < n0)) (hm : n ≤ m) (g1 : g id = some ⟨[[.int .i64 t.tm, .int .i64 t.nx, Sl, Ss]], 4, 35⟩) (e : ∀ a, n0 ≤ a → a < n → g a = h a) : TabM t id Sl Ss W g m := by
 have T := T.keep hm e
 have nid : ∀ a, n0 ≤ a → a < n → a ≠ id := fun a h1 h2 => by omega
 have T0 := ‹TabV t Sl Ss W h n0 n›
 exact ⟨hid.1, g1, T.kl, T.ks, T.kw, fun a h => ⟨(T.fl a h).2, nid a (T0.fl a h).1 (T0.fl a h).2⟩, fun a h => ⟨(T.fs a h).1.2, nid a (T0.fs a h).1.1 (T0.fs a h).1.2, (T.fs a h).2⟩, fun i a hi h => ⟨(T.fw i a hi h).1.2, nid a (T0.fw i a hi h).1.1 (T0.fw i a hi h).1.2, (T.fw i a hi h).2⟩⟩
theorem TabV.ownM {t : Tb} {Sl Ss : V} {W : Nat → V} {h : Heap} {n n0 id : Nat} (T : TabV t Sl Ss W h n0 n) : ∀ a, OwnT id Sl Ss W t.lk.length a → a = id ∨ (n0 ≤ a ∧ a < n) := fun a o => by
 rcases o with h | h | h | ⟨i, hi, h⟩
 ·exact .inl h
 ·exact .inr (T.fl a h)
 ·exact .inr (T.fs a h).1
 ·exact .inr (T.fw i a hi h).1
open Go.V
set_option linter.unusedVariables false
set_option linter.unusedSimpArgs false
set_option maxRecDepth 20000
set_option maxHeartbeats 4000000
theorem TabV.low {t : Tb} {Sl Ss : V} {W : Nat → V} {h : Heap} {n n0 n1 : Nat} (T : TabV t Sl Ss W h n0 n) (hn : n1 ≤ n0) : TabV t Sl Ss W h n1 n :=
 ⟨T.kl, T.ks, T.kw, fun a h => ⟨by have := (T.fl a h).1; omega, (T.fl a h).2⟩, fun a h => ⟨⟨by have := (T.fs a h).1.1; omega, (T.fs a h).1.2⟩, (T.fs a h).2⟩, fun i a hi h => ⟨⟨by have := (T.fw i a hi h).1.1; omega, (T.fw i a hi h).1.2⟩, (T.fw i a hi h).2⟩⟩
theorem o44g (t : Tb) (b n1 n2 : Bool) (fr : Bool) (hL : t.lk.length ≤ 1000) (hW : ∀ i, i < t.lk.length → (t.lk.getD i Lk0).ws.length ≤ 1048576) (hS : t.sn.length ≤ 1048576) {h : Heap} {n : Nat} (lid0 : Nat) (hlid : lid0 = n + 2 ∧ t.lk.length = 0 ∨ lid0 = n + 5 * t.lk.length + 5 ∧ 0 < t.lk.length) : V.Open En 44 [.agg [.int .i64 t.tm, .int .i64 t.nx, .sl fr n1 (t.lk.map (Lk.T b)), .sl fr n2 (t.sn.map Sn.T)]] h n (.agg [.int .i64 t.tm, .int .i64 t.nx, .view lid0 0 t.lk.length, .view (n + 4) 0 t.sn.length]) ([(n + 4, some ⟨t.sn.map Sn.V, 6, 115⟩), (lid0, some ⟨lkR (fun i => n + 6 + 5 * i + 2) t.lk, 5, 29⟩)] ++ famL (fun i => n + 6 + 5 * i + 2) (wsF t.lk) t.lk.length) (n + 6 + 5 * t.lk.length) := by
 have hl : (t.lk.map (Lk.T b)).length = t.lk.length := List.length_map ..
 refine V.Open.fresh rfl (by omega) fun hz => ?_
 refine V.Open.of_wp Try.func44 rfl kb ?_
 refine A2 (A0 ?_)
 (refine K7 (u := .agg [.int .i64 t.tm, .int .i64 t.nx, .sl fr n1 (t.lk.map (Lk.T b)), .sl fr n2 (t.sn.map Sn.T)]) j3 rfl j3 ?_)
 refine H3 j6 (A3 (A1 (A2 (B9 [0, 1, 0, 4, 0, 0, 0, 64, 224, 511, 0, 2047] rfl (by decide +kernel) ?_))))
 refine C9 (off := 0) (s := 1) (r := false) j3 kz j3 ?_
 (apply D5 (v := .int _ _) j2; exact Q3; rfl; exact j5)
 refine C9 (off := 1) (s := 1) (r := false) j3 kz j3 ?_
 (apply D5 (v := .int _ _) j2; exact Q3; rfl; exact j5)
 refine X6 (es := []) j4 kz kb rfl rfl j3 (X6 (es := []) j4 kz kb rfl rfl j3 (C9 (off := 3) (s := 1) (r := false) j3 kz j3 ?_))
 (apply D5 (v := .sl _ _ _) j2; exact Q3; rfl; exact j5)
 (apply T6 (s' := 48) rfl rfl; exact Q3; exact j2; rfl; exact j2; exact kz; rfl; exact (lenSnF fr t.sn); (simp only [List.length_map]; omega); (simp only [List.length_map]; omega); exact j3)
 refine dbd (cs := [.int _ _, .int _ _, _, _]) j5 (dal j6 ?_)
 (apply dst (u := .agg [.int _ _, .int _ _, _, _]) rfl rfl rfl; exact Q3; rfl; rfl; rfl; rfl; rfl; exact kb; rfl; rfl; rfl)
 refine B3 12 [3, 3, 0, 3, 1, 0, 3, 3, 1, 0, 1, 0] [(1, 4), (3, 4), (1, 5), (3, 5), (4, 5), (4, 7), (5, 7), (1, 8), (3, 8), (4, 8), (1, 10), (3, 10), (4, 10), (5, 10), (7, 10), (8, 10)] j2 (by decide +kernel) ?_ ?_
 ·(simp [ClearL, ids, srcIds, Env.eval, upd, retV, A.toV, T.toV]; try omega)
 refine A1 (A2 (A2 (A0 (D1 j5 (A3 (A1 (B4 (F0 ?_))))))))
 refine E4 (fun (a : Nat × Nat) => [.unk, .ptr n 0 0, .ptr (n + 1) 0 0, .ptr (n + 5) 0 0, .int .i64 a.1]) (fun (a : Nat × Nat) => app ([(n, some ⟨[[.int .i64 t.tm, .int .i64 t.nx, .sl fr n1 (t.lk.map (Lk.T b)), .sl fr n2 (t.sn.map Sn.T)]], 4, 35⟩), (n + 1, some ⟨[[.int .i64 0, .int .i64 0, .nsl, .nsl]], 4, 35⟩), (n + 4, some ⟨t.sn.map Sn.V, 6, 115⟩), (n + 5, some ⟨[[.int .i64 t.tm, .int .i64 t.nx, .view a.2 0 a.1, .view (n + 4) 0 t.sn.length]], 4, 35⟩), (a.2, some ⟨(List.range a.1).map (rwV (fun i => n + 6 + 5 * i + 2) t.lk), 5, 29⟩)] ++ famL (fun i => n + 6 + 5 * i + 2) (wsF t.lk) a.1) h) (fun (a : Nat × Nat) => n + 6 + 5 * a.1) (fun (a : Nat × Nat) => a.1 ≤ t.lk.length ∧ (a.2 = n + 2 ∧ a.1 = 0 ∨ a.2 = n + 5 * a.1 + 5 ∧ 0 < a.1)) (fun (a : Nat × Nat) => t.lk.length - a.1) (0, n + 2) ?_ ?_ ?_ ?_ ?_
 ·exact ⟨Nat.zero_le _, .inl ⟨rfl, rfl⟩⟩
 ·(repeat first | exact LE.nil _ | refine LE.unk _ _ ?_ | refine LE.eq _ _ _ rfl ?_)
 ·dsimp only
  refine AY (m := n) hz (fun j hj => ?_) (fun j hj => ?_) (fun j hl hf hn => ?_)
  ·exact absurd hj (Nat.not_lt_zero _)
  ·simp only [List.map_cons, List.map_nil, List.mem_cons, List.not_mem_nil, or_false] at hj
   refine Eq.trans ?_ (famAO (fun k _ => by rcases hj with e | e | e | e | e <;> rw [e] <;> (try dsimp only) <;> omega)).symm
   rcases hj with e | e | e | e | e <;> rw [e] <;> (simp (disch := (first | omega | (intro _ _; dsimp only; omega))) only [↓appC, ↓updN, ↓updS, ↓app0, ↓famAO]) <;> first | rfl | (first | exact congrArg (fun z => some (Blk.mk z 6 115)) (rowsSnV fr t.sn) | exact congrArg (fun z => some (Blk.mk [[.int .i64 t.tm, .int .i64 t.nx, .view (n + 2) 0 0, .view (n + 4) 0 z]] 4 35)) (by simp))
  ·simp only [List.map_cons, List.map_nil, List.mem_cons, List.not_mem_nil, or_false, not_or] at hn
   (try simp (disch := (first | omega | (intro k hk; exact hf k (by omega)))) only [↓appC, ↓updN, ↓updS, ↓app0, ↓famAO])
 ·exact Nat.le_refl _
 intro ⟨i, lid⟩ hI ih
 dsimp only at hI ⊢
 have hI2 := hI.2
 refine E8 (A2 (A2 (A0 (B5 j5 (C2 (off := 2) (s := 1) (r := false) j3 kz j3 ?_)))))
 (apply C6 (v := .sl _ _ _) j2; exact Q3; rfl; exact j5)
 refine G7 rfl rfl rfl j3 ?_
 refine H9 j6 ?_ ?_ <;> intro h3_4
 ·refine A3 (A1 (wT rfl (B2 (A1 (A2 (B4 (A2 (A0 (C2 (off := 2) (s := 1) (r := false) j3 kz j3 ?_)))))))))
  (apply C6 (v := .sl _ _ _) j2; exact Q3; rfl; exact j5)
  refine B5 j5 ?_
  (apply K8 j4; exact Q4; (first | rfl | assumption | (exact D8 (Lk.T b) Lk0 (k := i) (by omega))); exact j4)
  refine N4 (vs := [.str _, .int _ _, .int _ _, .int _ _, _]) j3 kb j4 (H3 j6 ?_)
  (apply D6 (u := .agg [.str _, .int _ _, .int _ _, .int _ _, _]) j3; exact Q3; rfl; rfl; rfl; rfl; rfl; exact kb; rfl; exact j2)
  refine A3 (A1 (A2 (A0 (T9 (es := []) j4 kz kb rfl rfl j3 (C2 (off := 4) (s := 1) (r := false) j3 kz j3 ?_)))))
  (apply C6 (v := .sl _ _ _) j2; exact Q3; rfl; exact j5)
  (apply rap (s' := 16) rfl rfl; exact Q3; exact j2; rfl; exact j2; exact kz; rfl; exact (lenWtF fr (t.lk.getD i Lk0).ws); (simp only [List.length_map]; have := hW i (by omega); omega); (simp only [List.length_map]; have := hW i (by omega); omega); exact j3)
  refine C2 (off := 4) (s := 1) (r := false) j3 kz j3 ?_
  (apply D6 (u := .view _ _ _) j3; exact Q3; rfl; rfl; rfl; rfl; rfl; exact kb; rfl; exact j2)
  refine A3 (A1 (A0 (C2 (off := 2) (s := 1) (r := false) j3 kz j3 ?_)))
  (apply C6 (v := .view _ _ _) j2; exact Q3; rfl; exact j5)
  (apply F7 (vs := [.str _, .int _ _, .int _ _, .int _ _, _]) j2; exact Q3; rfl; rfl; exact kb; rfl; exact j3)
  refine T9 (es := [[.str _, .int _ _, .int _ _, .int _ _, _]]) j4 kz kb rfl rfl j3 ?_
  (apply rap (s' := 64) (es := [[.str _, .int _ _, .int _ _, .int _ _, _]]) rfl rfl; exact Q3; exact j2; (first | rfl | (focus (simp; done)) | (focus (simp; omega))); exact j2; exact kz; (first | rfl | (apply K0 rfl; exact Q3; (first | exact Nat.le_refl _ | omega); rfl)); exact AT; exact Q30; exact Q30; exact j3)
  refine C2 (off := 2) (s := 1) (r := false) j3 kz j3 ?_
  (apply D6 (u := .view _ _ _) j3; exact Q3; rfl; rfl; rfl; rfl; rfl; exact kb; rfl; exact j2)
  refine A3 (C0 (A1 (A0 (B5 j5 (D0 j3 ?_ ?_ j3 ?_)))))
  ·exact Q4
  ·exact Q4
  refine D1 j5 (A3 (E3 ?_))
  refine I4 (ih (i + 1, n + 6 + 5 * i + 1 + 1 + 1 + 1) ⟨by dsimp only; omega, .inr ⟨by dsimp only; omega, by dsimp only; omega⟩⟩ (by dsimp only; omega)) (by (repeat first | exact LE.nil _ | refine LE.unk _ _ ?_ | refine LE.eq _ _ _ rfl ?_)) (by
   dsimp only
   refine AY (m := n) hz (fun j hj => ?_) (fun j hj => ?_) (fun j hl hf hn => ?_)
   ·refine Eq.trans ?_ (famA (w := (fun i => n + 6 + 5 * i + 2)) (fun a b _ _ e => by (try dsimp only at e); omega) hj).symm
    (try dsimp only)
    by_cases e : j = i
    ·rw [e]
     (simp (disch := omega) only [↓appC, ↓updN, ↓updS, ↓app0]) <;> exact congrArg (fun z => some (Blk.mk z 2 123)) (rowsWtV fr _)
    ·simp (disch := omega) only [↓appC, ↓updN, ↓updS, ↓app0]
     exact famA (w := (fun i => n + 6 + 5 * i + 2)) (fun a b _ _ e => by (try dsimp only at e); omega) (show j < i by omega)
   ·simp only [List.map_cons, List.map_nil, List.mem_cons, List.not_mem_nil, or_false] at hj
    refine Eq.trans ?_ (famAO (fun k _ => by rcases hj with e | e | e | e | e <;> rw [e] <;> (try dsimp only) <;> omega)).symm
    rcases hj with e | e | e | e | e <;> rw [e] <;> (simp (disch := (first | omega | (intro _ _; dsimp only; omega))) only [↓appC, ↓updN, ↓updS, ↓app0, ↓famAO]) <;> first | rfl | (first | (refine congrArg (fun z => some (Blk.mk z 5 29)) ?_; simp only [List.length_map, Nat.zero_add]; exact rgSnoc2 (fun i => n + 6 + 5 * i + 2) t.lk i) | exact congrArg (fun z => some (Blk.mk [[.int .i64 t.tm, .int .i64 t.nx, .view z 0 (i + 1), .view (n + 4) 0 t.sn.length]] 4 35)) (by omega))
   ·simp only [List.map_cons, List.map_nil, List.mem_cons, List.not_mem_nil, or_false, not_or] at hn
    (try simp (disch := (first | omega | (intro k hk; exact hf k (by omega)))) only [↓appC, ↓updN, ↓updS, ↓app0, ↓famAO])) (by dsimp only; omega)
 ·refine A3 (A1 (wF rfl (E5 (E6 (D2 (C5 (A1 (A2 (A0 ?_)))))))))
  (apply F7 (vs := [.int _ _, .int _ _, _, _]) j2; exact Q3; rfl; rfl; exact kb; rfl; exact j3)
  (apply D6 (u := .agg [.int _ _, .int _ _, _, _]) j3; exact Q3; rfl; rfl; rfl; rfl; rfl; exact kb; rfl; exact j2)
  refine A3 (A1 (B1 ?_))
  obtain rfl : i = t.lk.length := by omega
  obtain rfl : lid = lid0 := by omega
  refine F2 (A6 (A7 rfl (by exact Q3) j2 kb rfl) A9) rfl ?_ (by omega)
  refine leFam (fun i hi => ?_) (fun j hj => ?_) (fun j hl hf hn => ?_)
  ·refine Eq.trans ?_ (famA (w := (fun i => n + 6 + 5 * i + 2)) (fun a b _ _ e => by (try dsimp only at e); omega) hi).symm
   simp (disch := omega) only [↓appC, ↓updN, ↓app0]
   exact famA (w := (fun i => n + 6 + 5 * i + 2)) (fun a b _ _ e => by (try dsimp only at e); omega) hi
  ·simp only [List.map_cons, List.map_nil, List.mem_cons, List.not_mem_nil, or_false] at hj
   refine Eq.trans ?_ (famAO (fun k _ => by rcases hj with e | e <;> rw [e] <;> (try dsimp only) <;> omega)).symm
   rcases hj with e | e <;> rw [e] <;> (simp (disch := (first | omega | (intro _ _; dsimp only; omega))) only [↓appC, ↓updN, ↓updS, ↓app0, ↓famAO]) <;> rfl
  ·simp only [List.map_cons, List.map_nil, List.mem_cons, List.not_mem_nil, or_false, not_or] at hn
   simp (disch := (first | omega | (intro k hk; exact hf k (by omega)))) only [↓appC, ↓updN, ↓updS, ↓app0, ↓famAO]
theorem o58 (t : Tb) (b n1 n2 fr : Bool) (now : Int) {M : Int} (hMx : max t.tm now = M) (hM : 0 ≤ M ∧ M ≤ 1000000000) (hn : 0 ≤ t.nx ∧ t.nx ≤ 999900) (hL : t.lk.length ≤ 100) (hS : t.sn.length ≤ 100) (hw4 : ∀ i, i < t.lk.length → (t.lk.getD i Lk0).ws.length ≤ 100) (hhd0 : ∀ i, i < t.lk.length → -1 ≤ (t.lk.getD i Lk0).hd) (hwl : ∀ j, j < t.lk.length → ∀ i, i < (t.lk.getD j Lk0).ws.length → 1 ≤ ((t.lk.getD j Lk0).ws.getD i (0, 0)).2 ∧ ((t.lk.getD j Lk0).ws.getD i (0, 0)).2 ≤ 1000) {h : Heap} {n : Nat} : OpenM En 58 [.agg [.int .i64 t.tm, .int .i64 t.nx, .sl fr n1 (t.lk.map (Lk.T b)), .sl fr n2 (t.sn.map Sn.T)], .int .i64 now] h n (fun v g m => ∃ Sl Ss W, v = .agg [.int .i64 (exT t now).tm, .int .i64 (exT t now).nx, Sl, Ss] ∧ TabV (exT t now) Sl Ss W g n m ∧ (∀ a, a < n → g a = h a) ∧ n ≤ m) := by
 have hz2 : t.lk.length = 0 ∨ 0 < t.lk.length := by omega
 obtain ⟨lid0, hlid⟩ : ∃ lid0, (lid0 = n + 1 + 1 + 2 ∧ t.lk.length = 0 ∨ lid0 = n + 1 + 1 + 5 * t.lk.length + 5 ∧ 0 < t.lk.length) := by
  rcases hz2 with h | h
  ·exact ⟨_, .inl ⟨rfl, h⟩⟩
  ·exact ⟨_, .inr ⟨rfl, h⟩⟩
 refine OpenM.of_wp Try.func58 rfl kb ?_
 refine A2 (A0 ?_)
 (refine K7 (u := .agg [.int .i64 t.tm, .int .i64 t.nx, .sl fr n1 (t.lk.map (Lk.T b)), .sl fr n2 (t.sn.map Sn.T)]) j3 rfl j3 ?_)
 refine H3 j6 (A3 (A1 (A2 (A0 ?_))))
 (apply F7 (vs := [.int _ _, .int _ _, _, _]) j2; exact Q3; exact Q43; rfl; exact kb; rfl; exact j3)
 refine I7 (o44g t b n1 n2 fr (by omega) (fun i hi => by have := hw4 i hi; omega) (by omega) lid0 hlid) rfl rfl rfl rfl rfl rfl ?_
 refine H3 j6 ?_
 (apply D6 (u := .agg [.int _ _, .int _ _, _, _]) j3; exact Q3; exact Q43; rfl; rfl; rfl; rfl; exact kb; rfl; exact j2)
 refine A3 (A1 (A2 (A0 (C2 (off := 0) (s := 1) (r := false) j3 kz j3 ?_))))
 (apply C6 (v := .int _ _) j2; exact Q3; exact Q43; exact j5)
 refine B5 j5 (rmax rfl j5 (C2 (off := 0) (s := 1) (r := false) j3 kz j3 ?_))
 (apply D6 (u := .int _ _) j3; exact Q3; exact Q43; rfl; rfl; rfl; rfl; exact kb; rfl; exact j2)
 refine A3 (A1 (A2 (A2 (A0 (D1 j5 (A3 (A1 (B4 (F0 ?_)))))))))
 refine wlG fun g0 hg0 => ?_
 have k0 : g0 (n + 1) = some ⟨[[.int .i64 0, .int .i64 0, .nsl, .nsl]], 4, 35⟩ := by rw [hg0]; exact Q3
 have kc : Ch h g0 := by rw [hg0]; (repeat first | exact Ch.refl _ | refine Ch.upd ?_ | refine Ch.app ?_)
 have kh : ∀ a, a < n → g0 a = h a := fun a ha => by
  rw [hg0]; (simp (disch := (first | omega | (intro _ _; dsimp only; omega))) only [↓appC, ↓updN, ↓updS, ↓app0, ↓famAO])
 have hno : ∀ a, a < n + 1 + 1 → ¬ OwnT (n + 1 + 1 + 6 + 5 * t.lk.length) (.view lid0 0 t.lk.length) (.view (n + 1 + 1 + 4) 0 t.sn.length) (fun i => .view ((fun i => n + 1 + 1 + 6 + 5 * i + 2) i) 0 (t.lk.getD i Lk0).ws.length) t.lk.length a := fun a ha o => by
  rcases o with e | e | e | ⟨i, hi, e⟩
  ·omega
  ·cases e; omega
  ·cases e; omega
  ·have e := Option.some.inj e; (try dsimp only at e); omega
 have T0 : TabM (exI t M 0) (n + 1 + 1 + 6 + 5 * t.lk.length) (.view lid0 0 t.lk.length) (.view (n + 1 + 1 + 4) 0 t.sn.length) (fun i => .view ((fun i => n + 1 + 1 + 6 + 5 * i + 2) i) 0 (t.lk.getD i Lk0).ws.length) g0 ((n + 1 + 1 + 6 + 5 * t.lk.length) + 1) := by
  rw [exI_zero]
  refine ⟨by omega, by rw [hg0, ← hMx]; exact Q3, .inr ⟨lid0, by rw [B6], ?_⟩, .inr ⟨n + 1 + 1 + 4, by rw [List.length_map], ?_⟩, fun i hi => .inr ⟨(fun i => n + 1 + 1 + 6 + 5 * i + 2) i, [], by rw [List.length_map]; rfl, ?_⟩, fun a ha => ?_, fun a ha => ?_, fun i a hi ha => ?_⟩
  ·rw [hg0]; refine Eq.trans (b := some ⟨lkR (fun i => n + 1 + 1 + 6 + 5 * i + 2) t.lk, 5, 29⟩) ?_ rfl; exact Q3
  ·rw [hg0]; exact Q3
  ·rw [hg0]; (simp (disch := omega) only [↓appC, ↓updN, ↓app0]); exact famA (w := (fun i => n + 1 + 1 + 6 + 5 * i + 2)) (fun a b _ _ e => by (try dsimp only at e); omega) hi
  ·cases ha; omega
  ·cases ha; refine ⟨by omega, by omega, fun e => by cases e; omega⟩
  ·have hi : i < t.lk.length := hi
   have ha := Option.some.inj ha
   (try dsimp only at ha)
   refine ⟨by omega, by omega, fun e => by cases e; omega, fun e => by cases e; omega, fun j hj hne e => by have hj : j < t.lk.length := hj; have e := Option.some.inj e; (try dsimp only at e); omega⟩
 refine E4 (fun (a : Nat × Nat × (Nat → V) × Heap) => [.unk, .unk, .unk, .unk, .ptr (n + 1) 0 0, .ptr (n + 1 + 1 + 6 + 5 * t.lk.length) 0 0, .int .i64 a.1]) (fun (a : Nat × Nat × (Nat → V) × Heap) => a.2.2.2) (fun (a : Nat × Nat × (Nat → V) × Heap) => a.2.1) (fun (a : Nat × Nat × (Nat → V) × Heap) => GoI t M (n + 1 + 1 + 6 + 5 * t.lk.length) (n + 1 + 1) (.view lid0 0 t.lk.length) (.view (n + 1 + 1 + 4) 0 t.sn.length) (fun i => .view ((fun i => n + 1 + 1 + 6 + 5 * i + 2) i) 0 (t.lk.getD i Lk0).ws.length) g0 a.1 a.2.1 a.2.2.1 a.2.2.2) (fun (a : Nat × Nat × (Nat → V) × Heap) => t.lk.length - a.1) (0, (n + 1 + 1 + 6 + 5 * t.lk.length) + 1, (fun i => .view ((fun i => n + 1 + 1 + 6 + 5 * i + 2) i) 0 (t.lk.getD i Lk0).ws.length), g0) ?_ ?_ ?_ ?_ ?_
 ·exact ⟨Nat.zero_le _, T0, fun j a _ ha => .inl ha, fun _ _ _ => rfl, by dsimp only; omega, Ch.refl _, by rw [List.take_zero]; show t.nx ≤ t.nx ∧ t.nx ≤ t.nx + _; omega⟩
 ·(repeat first | exact LE.nil _ | refine LE.unk _ _ ?_ | refine LE.eq _ _ _ rfl ?_)
 ·exact LessH.refl _
 ·exact Nat.le_refl _
 intro ⟨i, m, W, g⟩ hI ih
 dsimp only at hI ⊢
 have hle := hI.le
 have q1 := hI.T.kid
 have q2 : g lid0 = some ⟨rwW (exM M t.nx t.lk i) W, 5, 29⟩ := by
  rcases hI.T.kl with ⟨e, _⟩ | ⟨b, e, k⟩
  ·cases e
  ·injection e with e1 e2 e3; rw [e1]; exact k
 dsimp only [exI] at q1
 have q3 : g (n + 1) = some ⟨[[.int .i64 0, .int .i64 0, .nsl, .nsl]], 4, 35⟩ := (hI.fr (n + 1) (by omega) (hno _ (by omega))).trans k0
 have hrow : i < t.lk.length → (rwW (exM M t.nx t.lk i) W)[0 + i]? = some ((t.lk.getD i Lk0).V (W i)) := fun h => by
  rw [Nat.zero_add, G5 (by rw [F5]; exact h), AV h, if_neg (Nat.lt_irrefl _)]
 have hkw : i < t.lk.length → IsL g (W i) ((t.lk.getD i Lk0).ws.map wtV) 2 123 := fun h => by
  have := hI.T.kw i (by show i < (exM M t.nx t.lk i).length; rw [F5]; exact h)
  rwa [show (exI t M i).lk.getD i Lk0 = t.lk.getD i Lk0 from by show (exM M t.nx t.lk i).getD i Lk0 = _; rw [AV h, if_neg (Nat.lt_irrefl _)]] at this
 have hhd : i < t.lk.length → -1 ≤ (t.lk.getD i Lk0).hd := fun h => hhd0 i h
 refine E8 (A2 (A2 (A0 (B5 j5 (C2 (off := 2) (s := 1) (r := false) j3 kz j3 ?_)))))
 (apply C6 (v := .view _ _ _) j2; exact Q3; exact Q43; exact j5)
 refine G7 rfl rfl rfl j3 ?_
 refine H9 j6 ?_ ?_ <;> intro h4_4
 ·refine A3 (A1 (wT rfl (B2 (A1 (A2 (B4 (A2 (B9 [0, 1, 0, 7, 15, 31, 63, 127, 255, 511, 255, 2047, 4095, 8191, 255, 16639, 65535, 131071] rfl (by decide +kernel) ?_))))))))
  refine C9 (off := 2) (s := 1) (r := false) j3 kz j3 ?_
  (apply D5 (v := .view _ _ _) j2; exact Q3; exact Q43; exact j5)
  refine I2 j5 ?_
  (apply dixv j4; exact Q3; rfl; exact Q4; exact Q4; exact j3)
  refine C9 (off := 2) (s := 1) (r := false) j3 kz j3 ?_
  (apply D5 (v := .int _ _) j2; exact Q3; exact Q43; exact j5)
  refine dge j6 ?_ ?_ <;> intro h6_6
  ·refine F9 j5 (C9 (off := 2) (s := 1) (r := false) j3 kz j3 ?_)
   (apply D5 (v := .view _ _ _) j2; exact Q3; exact Q43; exact j5)
   refine I2 j5 ?_
   (apply dixv j4; exact Q3; rfl; exact Q4; exact Q4; exact j3)
   refine C9 (off := 3) (s := 1) (r := false) j3 kz j3 ?_
   (apply D5 (v := .int _ _) j2; exact Q3; exact Q43; exact j5)
   refine C9 (off := 0) (s := 1) (r := false) j3 kz j3 ?_
   (apply D5 (v := .int _ _) j2; exact Q3; exact Q43; exact j5)
   refine dle j6 ?_ ?_ <;> intro h6_16
   ·refine F4 (e := true) j6 (B3 18 [0, 0, 1, 0, 1, 0, 1, 0, 1, 0, 0, 0, 1, 0, 1, 0, 1, 0] [] j2 (by decide +kernel) trivial ?_)
    refine A1 (wT rfl (A0 (B5 j5 ?_)))
    refine J9 (o95w (t.lk.getD i Lk0) (W i) M (nxL M t.nx (t.lk.take i)) (.view (n + 1 + 1 + 4) 0 t.sn.length) (by have := hw4 i (by omega); omega) (fun k hk => hwl i (by omega) k hk) hM (by have := hI.nxb; omega) (id := (n + 1 + 1 + 6 + 5 * t.lk.length)) (lb := lid0) (j := i) (len := t.lk.length) (R := rwW (exM M t.nx t.lk i) W) (by have := hI.T.idn; omega) (by have := (hI.T.fl lid0 rfl).1; omega) (hI.T.fl lid0 rfl).2 q1 (by omega) (by rw [B6, F5]; omega) q2 (hrow (by omega)) (hkw (by omega)) (fun a ha => by have := hI.T.fw i a (by show i < (exM M t.nx t.lk i).length; rw [F5]; omega) ha; exact ⟨this.1, fun e => this.2.2.1 (by rw [e]; rfl), this.2.1⟩)) rfl j5 ?_
    rintro p1 h7_1
    try dsimp only at h7_1
    refine A3 (C0 (A1 (A0 (B5 j5 (D0 j3 ?_ ?_ j3 ?_)))))
    ·exact Q4
    ·exact Q4
    refine D1 j5 (A3 (E3 ?_))
    first
    |(have hg : gone M (t.lk.getD i Lk0) := ⟨by omega, by omega⟩
      have hlb := hI.T.fl lid0 rfl
      refine I4 (ih (i + 1, m + 3, _, _) (hI.free (m2 := m + 3) (g2 := app [(lid0, some ⟨(rwW (exM M t.nx t.lk i) W).set (0 + i) ((frL M (nxL M t.nx (t.lk.take i)) (t.lk.getD i Lk0)).V p1.1), 5, 29⟩), ((n + 1 + 1 + 6 + 5 * t.lk.length), some ⟨[[.int .i64 M, .int .i64 (frN (nxL M t.nx (t.lk.take i)) (t.lk.getD i Lk0)), .view lid0 0 t.lk.length, (.view (n + 1 + 1 + 4) 0 t.sn.length)]], 4, 35⟩), (m + 2, p1.2)] g) (by omega) hg (by omega) rfl p1.1 ?_ ?_ ?_ ?_ ?_ (Ch.refl _).app) (by dsimp only; omega)) (by (repeat first | exact LE.nil _ | refine LE.unk _ _ ?_ | refine LE.eq _ _ _ rfl ?_)) (LessH.refl _) (Nat.le_refl _)
      ·have := hI.T.idn; (simp (disch := (first | omega | assumption)) only [↓appC, ↓updN, ↓updS, ↓app0])
      ·rw [Nat.zero_add]; have := hI.T.idn; (simp (disch := (first | omega | assumption)) only [↓appC, ↓updN, ↓updS, ↓app0])
      ·refine h7_1.2 _ (by (simp (disch := (first | omega | assumption)) only [↓appC, ↓updN, ↓updS, ↓app0])) (fun a ha => ?_)
       have q := hI.T.fw i a (by show i < (exM M t.nx t.lk i).length; rw [F5]; omega) ha
       have q3 : a ≠ lid0 := fun e => q.2.2.1 (by rw [e]; rfl)
       have q4 := q.2.1
       have q5 := q.1
       (simp (disch := (first | omega | assumption)) only [↓appC, ↓updN, ↓updS, ↓app0])
      ·intro a ha
       rcases h7_1.1 a ha with e | e
       ·exact ⟨by omega, .inr (by omega)⟩
       ·have q := hI.T.fw i a (by show i < (exM M t.nx t.lk i).length; rw [F5]; omega) e
        exact ⟨by omega, .inl e⟩
      ·intro a ha h1 h2
       (simp (disch := (first | omega | assumption)) only [↓appC, ↓updN, ↓updS, ↓app0]))
    |(have hg : ¬ gone M (t.lk.getD i Lk0) := (fun e => by have e1 := e.1; have e2 := e.2; have := hhd (by omega); omega)
      exact I4 (ih (i + 1, m, _, _) (hI.stay (by omega) hg (Nat.le_refl _) (fun _ _ => rfl) (Ch.refl _)) (by dsimp only; omega)) (by (repeat first | exact LE.nil _ | refine LE.unk _ _ ?_ | refine LE.eq _ _ _ rfl ?_)) (LessH.refl _) (Nat.le_refl _))
   ·refine F4 (e := false) j6 (B3 18 [0, 0, 1, 0, 1, 0, 1, 0, 1, 0, 0, 0, 1, 0, 1, 0, 1, 0] [] j2 (by decide +kernel) trivial ?_)
    refine A1 (wF rfl (B2 (C0 (A1 (A0 (B5 j5 (D0 j3 ?_ ?_ j3 ?_)))))))
    ·exact Q4
    ·exact Q4
    refine D1 j5 (A3 (E3 ?_))
    first
    |(have hg : gone M (t.lk.getD i Lk0) := ⟨by omega, by omega⟩
      have hlb := hI.T.fl lid0 rfl
      refine I4 (ih (i + 1, m + 3, _, _) (hI.free (m2 := m + 3) (g2 := app [(lid0, some ⟨(rwW (exM M t.nx t.lk i) W).set (0 + i) ((frL M (nxL M t.nx (t.lk.take i)) (t.lk.getD i Lk0)).V p1.1), 5, 29⟩), ((n + 1 + 1 + 6 + 5 * t.lk.length), some ⟨[[.int .i64 M, .int .i64 (frN (nxL M t.nx (t.lk.take i)) (t.lk.getD i Lk0)), .view lid0 0 t.lk.length, (.view (n + 1 + 1 + 4) 0 t.sn.length)]], 4, 35⟩), (m + 2, p1.2)] g) (by omega) hg (by omega) rfl p1.1 ?_ ?_ ?_ ?_ ?_ (Ch.refl _).app) (by dsimp only; omega)) (by (repeat first | exact LE.nil _ | refine LE.unk _ _ ?_ | refine LE.eq _ _ _ rfl ?_)) (LessH.refl _) (Nat.le_refl _)
      ·have := hI.T.idn; (simp (disch := (first | omega | assumption)) only [↓appC, ↓updN, ↓updS, ↓app0])
      ·rw [Nat.zero_add]; have := hI.T.idn; (simp (disch := (first | omega | assumption)) only [↓appC, ↓updN, ↓updS, ↓app0])
      ·refine h7_1.2 _ (by (simp (disch := (first | omega | assumption)) only [↓appC, ↓updN, ↓updS, ↓app0])) (fun a ha => ?_)
       have q := hI.T.fw i a (by show i < (exM M t.nx t.lk i).length; rw [F5]; omega) ha
       have q3 : a ≠ lid0 := fun e => q.2.2.1 (by rw [e]; rfl)
       have q4 := q.2.1
       have q5 := q.1
       (simp (disch := (first | omega | assumption)) only [↓appC, ↓updN, ↓updS, ↓app0])
      ·intro a ha
       rcases h7_1.1 a ha with e | e
       ·exact ⟨by omega, .inr (by omega)⟩
       ·have q := hI.T.fw i a (by show i < (exM M t.nx t.lk i).length; rw [F5]; omega) e
        exact ⟨by omega, .inl e⟩
      ·intro a ha h1 h2
       (simp (disch := (first | omega | assumption)) only [↓appC, ↓updN, ↓updS, ↓app0]))
    |(have hg : ¬ gone M (t.lk.getD i Lk0) := (fun e => by have e1 := e.1; have e2 := e.2; have := hhd (by omega); omega)
      exact I4 (ih (i + 1, m, _, _) (hI.stay (by omega) hg (Nat.le_refl _) (fun _ _ => rfl) (Ch.refl _)) (by dsimp only; omega)) (by (repeat first | exact LE.nil _ | refine LE.unk _ _ ?_ | refine LE.eq _ _ _ rfl ?_)) (LessH.refl _) (Nat.le_refl _))
  ·refine F9 j5 (A5 j3 (A5 j3 (A5 j3 (A5 j3 (A5 j3 (A5 j3 (A5 j3 (A5 j3 (A5 j3 (F4 (e := false) j6 (B3 18 [0, 0, 0, 0, 0, 0, 0, 0, 0, 0, 0, 0, 1, 0, 1, 0, 1, 0] [] j2 (by decide +kernel) trivial ?_)))))))))))
   refine A1 (wF rfl (B2 (C0 (A1 (A0 (B5 j5 (D0 j3 ?_ ?_ j3 ?_)))))))
   ·exact Q4
   ·exact Q4
   refine D1 j5 (A3 (E3 ?_))
   first
   |(have hg : gone M (t.lk.getD i Lk0) := ⟨by omega, by omega⟩
     have hlb := hI.T.fl lid0 rfl
     refine I4 (ih (i + 1, m + 3, _, _) (hI.free (m2 := m + 3) (g2 := app [(lid0, some ⟨(rwW (exM M t.nx t.lk i) W).set (0 + i) ((frL M (nxL M t.nx (t.lk.take i)) (t.lk.getD i Lk0)).V p1.1), 5, 29⟩), ((n + 1 + 1 + 6 + 5 * t.lk.length), some ⟨[[.int .i64 M, .int .i64 (frN (nxL M t.nx (t.lk.take i)) (t.lk.getD i Lk0)), .view lid0 0 t.lk.length, (.view (n + 1 + 1 + 4) 0 t.sn.length)]], 4, 35⟩), (m + 2, p1.2)] g) (by omega) hg (by omega) rfl p1.1 ?_ ?_ ?_ ?_ ?_ (Ch.refl _).app) (by dsimp only; omega)) (by (repeat first | exact LE.nil _ | refine LE.unk _ _ ?_ | refine LE.eq _ _ _ rfl ?_)) (LessH.refl _) (Nat.le_refl _)
     ·have := hI.T.idn; (simp (disch := (first | omega | assumption)) only [↓appC, ↓updN, ↓updS, ↓app0])
     ·rw [Nat.zero_add]; have := hI.T.idn; (simp (disch := (first | omega | assumption)) only [↓appC, ↓updN, ↓updS, ↓app0])
     ·refine h7_1.2 _ (by (simp (disch := (first | omega | assumption)) only [↓appC, ↓updN, ↓updS, ↓app0])) (fun a ha => ?_)
      have q := hI.T.fw i a (by show i < (exM M t.nx t.lk i).length; rw [F5]; omega) ha
      have q3 : a ≠ lid0 := fun e => q.2.2.1 (by rw [e]; rfl)
      have q4 := q.2.1
      have q5 := q.1
      (simp (disch := (first | omega | assumption)) only [↓appC, ↓updN, ↓updS, ↓app0])
     ·intro a ha
      rcases h7_1.1 a ha with e | e
      ·exact ⟨by omega, .inr (by omega)⟩
      ·have q := hI.T.fw i a (by show i < (exM M t.nx t.lk i).length; rw [F5]; omega) e
       exact ⟨by omega, .inl e⟩
     ·intro a ha h1 h2
      (simp (disch := (first | omega | assumption)) only [↓appC, ↓updN, ↓updS, ↓app0]))
   |(have hg : ¬ gone M (t.lk.getD i Lk0) := (fun e => by have e1 := e.1; have e2 := e.2; have := hhd (by omega); omega)
     exact I4 (ih (i + 1, m, _, _) (hI.stay (by omega) hg (Nat.le_refl _) (fun _ _ => rfl) (Ch.refl _)) (by dsimp only; omega)) (by (repeat first | exact LE.nil _ | refine LE.unk _ _ ?_ | refine LE.eq _ _ _ rfl ?_)) (LessH.refl _) (Nat.le_refl _))
 ·refine A3 (A1 (wF rfl (E5 (E6 (D2 (C5 (A1 (A2 (A0 ?_)))))))))
  (apply F7 (vs := [.int _ _, .int _ _, _, _]) j2; exact Q3; exact Q43; rfl; exact kb; rfl; exact j3)
  (apply D6 (u := .agg [.int _ _, .int _ _, _, _]) j3; exact Q3; exact Q43; rfl; rfl; rfl; rfl; exact kb; rfl; exact j2)
  refine A3 (A1 (B1 ?_))
  obtain rfl : i = t.lk.length := by omega
  have hfull : exI t M t.lk.length = exT t now := by rw [← hMx, exI_full]
  refine E0 (A6 (A7 rfl (by exact Q3) j2 kb rfl) A9) (Ch.app (kc.trans hI.ch)) ?_
  have T := hI.T
  rw [hfull] at T
  have hlx : (exT t now).lk.length = t.lk.length := V3 _ _ _
  have nn := hI.nn
  refine ⟨.view lid0 0 t.lk.length, (.view (n + 1 + 1 + 4) 0 t.sn.length), W, ?_, ((T.toV (n0 := n + 1 + 1) (fun a o => ?_)).keep (Nat.le_refl _) (fun a h1 h2 => ?_)).low (by omega), fun a ha => ?_, by omega⟩
  ·rw [← hfull]; rfl
  ·rcases o with e | e | e | ⟨j, hj, e⟩
   ·omega
   ·cases e; omega
   ·cases e; omega
   ·rw [hlx] at hj
    rcases hI.fp j a hj e with e2 | e2
    ·have e2 := Option.some.inj e2; (try dsimp only at e2); omega
    ·exact e2
  ·(simp (disch := (first | omega | assumption)) only [↓appC, ↓updN, ↓updS, ↓app0])
  ·rw [show app _ g a = g a from by (simp (disch := (first | omega | assumption)) only [↓appC, ↓updN, ↓updS, ↓app0]), hI.fr a (by omega) (hno a (by omega))]; exact kh a ha
open Go.V
set_option linter.unusedVariables false
set_option linter.unusedSimpArgs false
set_option maxRecDepth 20000
set_option maxHeartbeats 4000000
def tabIds (Sl Ss : V) (W : Nat → V) (k : Nat) : List Nat := (fpV Sl).toList ++ (fpV Ss).toList ++ (List.range k).filterMap fun i => fpV (W i)
theorem tabIds_own {id : Nat} {Sl Ss : V} {W : Nat → V} {k a : Nat} (h : a ∈ tabIds Sl Ss W k) : OwnT id Sl Ss W k a := by
 unfold tabIds at h
 rcases List.mem_append.1 h with h | h
 ·rcases List.mem_append.1 h with h | h
  ·exact .inr (.inl (Option.mem_toList.1 h))
  ·exact .inr (.inr (.inl (Option.mem_toList.1 h)))
 ·obtain ⟨i, h1, h2⟩ := List.mem_filterMap.1 h
  exact .inr (.inr (.inr ⟨i, List.mem_range.1 h1, h2⟩))
theorem snapIsZ {h : Heap} {ids : List Nat} {r : Bool} {v : V} {L : List Sn} (k : IsZ h v (L.map Sn.V) 6 115) (hid : ∀ a, fpV v = some a → a ∈ ids) : Snap h ids r v (.sl false (L.map Sn.T)) := by
 rcases k with ⟨rfl, k⟩ | ⟨id, rfl, k⟩
 ·have : L = [] := List.map_eq_nil_iff.1 k
  subst this; exact .nslW
 ·exact .weak _ _ (snapSn (hid id rfl) k (by simp))
theorem snapRw {h : Heap} {ids : List Nat} {r : Bool} {v : V} {L : List Lk} {W : Nat → V} (k : IsZ h v (rwW L W) 5 29) (hid : ∀ a, fpV v = some a → a ∈ ids) (hw : ∀ i, i < L.length → Snap h ids r (W i) (.sl false ((L.getD i Lk0).ws.map wtT))) : Snap h ids r v (.sl false (L.map (Lk.T false))) := by
 rcases k with ⟨rfl, k⟩ | ⟨id, rfl, k⟩
 ·have hl : L.length = 0 := by have := congrArg List.length k; rw [B6] at this; exact this
  have : L = [] := List.eq_nil_of_length_eq_zero hl
  subst this; exact .nslW
 ·refine .weak _ _ ?_
  have e : ((rwW L W).drop 0).take (rwW L W).length = rwW L W := by rw [List.drop_zero, List.take_of_length_le (Nat.le_refl _)]
  have e2 : ∀ i, i < L.length → (L.map (Lk.T false))[i]? = some ((L.getD i Lk0).T false) := fun i h => D8 (Lk.T false) Lk0 h
  refine .view id 0 _ _ _ (hid id rfl) k (by dsimp only; omega) (by rw [B6]; simp) (fun i x y h1 h2 => ?_) (fun i j x y h1 h2 => ?_)
  ·dsimp only at h1
   rw [e] at h1
   have hi : i < L.length := by have := (List.getElem?_eq_some_iff.1 h1).1; rw [B6] at this; exact this
   rw [G5 hi] at h1; rw [e2 i hi] at h2
   cases h1; cases h2; rfl
  ·dsimp only at h1
   rw [e] at h1
   unfold get2 at h1 h2
   by_cases hi : i < L.length
   ·rw [G5 hi] at h1; rw [e2 i hi] at h2
    match j with
    | 0 => cases h1; cases h2; exact .str _
    | 1 => cases h1; cases h2; exact .int _ _
    | 2 => cases h1; cases h2; exact .int _ _
    | 3 => cases h1; cases h2; exact .int _ _
    | 4 => cases h1; cases h2; exact hw i hi
    | j + 5 => exact absurd h1 nofun
   ·rw [show (rwW L W)[i]? = none from List.getElem?_eq_none (by rw [B6]; omega)] at h1; exact absurd h1 nofun
theorem H4 {t : Tb} {Sl Ss : V} {W : Nat → V} {h : Heap} {ids : List Nat} {r : Bool} (kl : IsZ h Sl (rwW t.lk W) 5 29) (ks : IsZ h Ss (t.sn.map Sn.V) 6 115) (kw : ∀ i, i < t.lk.length → IsL h (W i) ((t.lk.getD i Lk0).ws.map wtV) 2 123) (hid : ∀ a, a ∈ tabIds Sl Ss W t.lk.length → a ∈ ids) :
  SnapA h ids r (.agg [.int .i64 t.tm, .int .i64 t.nx, Sl, Ss]) (.agg (t.T false false false)) :=
 SnapC.agg (.cons _ _ _ _ (.int _ _) (.cons _ _ _ _ (.int _ _) (.cons _ _ _ _ (snapRw kl (fun a ha => hid a (List.mem_append_left _ (List.mem_append_left _ (Option.mem_toList.2 ha)))) (fun i hi => D7 (kw i hi) (fun a ha => hid a (List.mem_append_right _ (List.mem_filterMap.2 ⟨i, List.mem_range.2 hi, ha⟩)))))
  (.cons _ _ _ _ (snapIsZ ks (fun a ha => hid a (List.mem_append_left _ (List.mem_append_right _ (Option.mem_toList.2 ha))))) .nil))))
theorem K3 (l : Lk) (b : Bool) (kd : Int) : Pure En 130 [.one (.int .i64 kd), .agg (l.T b)] [.agg [.int .i64 kd, .int .i64 l.tk, .int .i64 l.hd, .int .i64 l.ex]] := by
 refine Pure.of_wp Try.func130 rfl kb ?_
 refine A2 (A0 ?_)
 (refine K7 (u := .agg [.str l.nm, .int .i64 l.tk, .int .i64 l.hd, .int .i64 l.ex, .sl false b (l.ws.map wtT)]) j3 rfl j3 ?_)
 refine H3 j6 (A3 (A1 (A2 (A0 (B5 j5 (C2 (off := 1) (s := 1) (r := false) j3 kz j3 ?_))))))
 (apply C6 (v := .int _ _) j2; exact Q0; rfl; exact j5)
 refine C2 (off := 2) (s := 1) (r := false) j3 kz j3 ?_
 (apply C6 (v := .int _ _) j2; exact Q0; rfl; exact j5)
 refine C2 (off := 3) (s := 1) (r := false) j3 kz j3 ?_
 (apply C6 (v := .int _ _) j2; exact Q0; rfl; exact j5)
 refine N0 (cs := [.int _ _, .int _ _, .int _ _, .int _ _]) j5 ?_
 (apply D6 (u := .agg [.int _ _, .int _ _, .int _ _, .int _ _]) j3; exact Q0; rfl; rfl; rfl; rfl; rfl; exact kb; rfl; exact j2)
 refine A3 (A1 (B1 ?_))
 exact fin (A6 (A7 rfl (by exact Q0) j2 kb rfl) A9) rfl
theorem s131 (l : Lk) (b : Bool) (c : Int) (hL : l.ws.length ≤ 1048576) : Pure En 131 [.agg (l.T b), .one (.int .i64 c)] [.one (.int .i64 (wix c l.ws))] := by
 have hl : (l.ws.map wtT).length = l.ws.length := List.length_map ..
 refine Pure.of_wp Try.func131 rfl kb ?_
 refine A2 (A0 ?_)
 (refine K7 (u := .agg [.str l.nm, .int .i64 l.tk, .int .i64 l.hd, .int .i64 l.ex, .sl false b (l.ws.map wtT)]) j3 rfl j3 ?_)
 refine D1 j5 (A3 (A1 (A2 (A2 (A0 (D1 j5 (A3 (A1 (B4 (F0 ?_))))))))))
 refine E4 (fun (i : Nat) => [.unk, .int .i64 c, .ptr 0 0 0, .unk, .unk, .int .i64 i]) (fun (i : Nat) => hp [(0, ⟨[[.str l.nm, .int .i64 l.tk, .int .i64 l.hd, .int .i64 l.ex, .sl false b (l.ws.map wtT)]], 5, 29⟩)]) (fun (i : Nat) => 1) (fun (i : Nat) => i ≤ l.ws.length ∧ ∀ j, j < i → ¬ (l.ws.getD j (0, 0)).1 = c) (fun (i : Nat) => l.ws.length - i) 0 ?_ ?_ ?_ ?_ ?_
 ·exact ⟨Nat.zero_le _, N1⟩
 ·(repeat first | exact LE.nil _ | refine LE.unk _ _ ?_ | refine LE.eq _ _ _ rfl ?_)
 ·(repeat first | exact E9 | (refine F1 ?_ ?_; exact U1))
 ·exact Nat.le_refl _
 intro i hI ih
 refine E8 (A2 (A2 (A0 (B5 j5 (C2 (off := 4) (s := 1) (r := false) j3 kz j3 ?_)))))
 (apply C6 (v := .sl _ _ _) j2; exact Q0; rfl; exact j5)
 refine G7 rfl rfl rfl j3 ?_
 refine H9 j6 ?_ ?_ <;> intro h2_4
 ·refine A3 (A1 (wT rfl (B2 (A1 (A2 (B4 (A2 (A0 (C2 (off := 4) (s := 1) (r := false) j3 kz j3 ?_)))))))))
  (apply C6 (v := .sl _ _ _) j2; exact Q0; rfl; exact j5)
  refine B5 j5 ?_
  (apply K8 j4; exact Q4; (first | rfl | assumption | (exact D8 wtT (0, 0) (by omega))); exact j4)
  refine rfai (off := 0) (s := 1) (r := false) j3 kz j4 (rlic (v := .int _ _) j8 (B5 j5 ?_))
  refine H5 j6 ?_ ?_ <;> intro h4_7
  ·refine A3 (A1 (wT rfl (A2 (A0 (B5 j5 (D1 j5 (A3 (A1 (B1 (A8 (B0 (D4 ?_))))))))))))
   refine A8 (B0 ?_)
   rw [BZ (i := i) (by omega) h4_7 hI.2]; exact fin rfl rfl
  ·refine A3 (A1 (wF rfl (B2 (C0 (A1 (A0 (B5 j5 (D0 j3 ?_ ?_ j3 ?_))))))))
   ·exact Q4
   ·exact Q4
   refine D1 j5 (A3 (E3 ?_))
   exact I4 (ih (i + 1) ⟨by omega, L5 hI.2 h4_7⟩ (by omega)) (by (repeat first | exact LE.nil _ | refine LE.unk _ _ ?_ | refine LE.eq _ _ _ rfl ?_)) (by (repeat first | exact E9 | (refine F1 ?_ ?_; exact U1))) (Nat.le_refl _)
 ·refine A3 (A1 (wF rfl (E5 (E6 (D2 (C5 (A1 (A2 (A0 (D1 j5 (A3 (A1 ?_))))))))))))
  refine B1 ?_
  rw [CA (fun j hj => hI.2 j (by omega))]; exact fin rfl rfl
open Go.V
set_option linter.unusedVariables false
set_option linter.unusedSimpArgs false
set_option maxRecDepth 20000
set_option maxHeartbeats 4000000
theorem S9 {t : Tb} {k : Nat} {r : Rq} {l : Lk} (hl : t.lk.getD k Lk0 = l) (h : l.hd = r.cl ∨ 0 ≤ wix r.cl l.ws) : acqL t k r = (t, tellL 8 l) := by subst hl; exact if_pos h
theorem o124k (nm : ByteArray) (tk hd ex tm nx c le : Int) (W Ss : V) (hW : W.cell = true) (ht : 0 ≤ tm ∧ tm ≤ 1000000000) (hn : 0 ≤ nx ∧ nx ≤ 999999) (hle : 0 ≤ le ∧ le ≤ 1000) {id lb j len : Nat} {R : List (List V)} {h : Heap} {n : Nat} (hid : id < n) (hlb : lb < n) (hne : lb ≠ id) (hh : h id = some ⟨[[.int .i64 tm, .int .i64 nx, .view lb 0 len, Ss]], 4, 35⟩) (hjl : j < len) (hj : j < R.length) (k1 : h lb = some ⟨R, 5, 29⟩) (k2 : R[j]? = some [.str nm, .int .i64 tk, .int .i64 hd, .int .i64 ex, W]) :
  V.Open En 124 [.ptr id 0 0, .int .i64 j, .int .i64 c, .int .i64 le] h n (.tup []) [(lb, some ⟨R.set j [.str nm, .int .i64 nx, .int .i64 c, .int .i64 (tm + le), W], 5, 29⟩), (id, some ⟨[[.int .i64 tm, .int .i64 (nx + 1), .view lb 0 len, Ss]], 4, 35⟩)] n := by
 have := o124 nm tk hd ex tm nx c le W Ss hW ht hn hle hid hlb hne hh hjl (j := j) (R := R) (by omega) k1 (by rw [Nat.zero_add]; exact k2)
 rwa [Nat.zero_add] at this
theorem o129h (t : Tb) (r : Rq) (bd : Bd t r) (hhd0 : ∀ i, i < t.lk.length → -1 ≤ (t.lk.getD i Lk0).hd) (hh : hit r.nm t.lk) {k : Nat} (hp : pos r.nm t.lk = k) {id lb : Nat} {Ss : V} {W : Nat → V} {h : Heap} {n : Nat} (T : TabM t id (.view lb 0 t.lk.length) Ss W h n) : OpenM En 129 [.ptr id 0 0, .agg [.int .i64 r.cl, .int .i64 r.st, .int .i64 r.kd, .int .i64 r.le, .str r.nm]] h n (fun v g m => v = .agg (acqT t r).2.V ∧ TabS (acqT t r).1 id (OwnT id (.view lb 0 t.lk.length) Ss W t.lk.length) n h g m) := by
 have hid := T.idn
 have kid := T.kid
 have hl4 := bd.l4; have htm := bd.tm; have hnx := bd.nx; have hcl := bd.cl; have hle := bd.le
 have hf := s43 t false false false r.nm bd.srt (by omega)
 rw [fix_hit hh, hp] at hf
 have hk : k < t.lk.length := by rw [← hp]; exact hh.1
 have hR : k < (rwW t.lk W).length := by rw [B6]; exact hk
 have hw4 := bd.w4 k hk
 have klb : h lb = some ⟨rwW t.lk W, 5, 29⟩ := by
  rcases T.kl with ⟨e, _⟩ | ⟨b, e, q⟩
  ·cases e
  ·injection e with e1 e2 e3; rw [e1]; exact q
 have hlb := T.fl lb rfl
 have hne := hlb.2
 have hkw := T.kw k hk
 have hfw := fun a ha => (T.fw k a hk ha)
 have hfw := fun a ha => (⟨(hfw a ha).1, (hfw a ha).2.1, fun e => (hfw a ha).2.2.1 (by rw [e]; rfl)⟩ : a < n ∧ a ≠ id ∧ a ≠ lb)
 have hrow := G5 (W := W) hk
 have hhd := hhd0 k hk
 generalize hl : t.lk.getD k Lk0 = l at hkw hrow hw4 hhd
 generalize hwk : W k = w at hkw hrow hfw
 have hwc := hkw.cell
 unfold Lk.V at hrow
 rcases hkw with ⟨rfl, hws⟩ | ⟨wb, pre, hw, kwb⟩
 ·have hkw : IsL h .nsl (l.ws.map wtV) 2 123 := .inl ⟨rfl, hws⟩
  have hwz : l.ws.length = 0 := by rw [List.map_eq_nil_iff.1 hws]; rfl
  refine OpenM.of_wp Try.func129 rfl kb ?_
  refine A2 (A0 (K7 (u := .agg [.int _ _, .int _ _, .int _ _, .int _ _, .str _]) j3 rfl j3 (H3 j6 (A3 (A1 (A2 (B9 [0, 1, 3, 0, 8, 31, 63] rfl (by decide +kernel) ?_)))))))
  refine G9 j5 (H0 (v := .ptr _ _ _) j6 ?_)
  (apply L8 (vs := [.int _ _, .int _ _, _, _]) j2; exact Q0; exact Q1; rfl; exact kb; exact j4)
  refine C9 (off := 4) (s := 1) (r := false) j3 kz j3 ?_
  (apply D5 (v := .str _) j2; exact Q0; exact Q1; exact j5)
  apply O5 (id :: tabIds (.view lb 0 t.lk.length) Ss W t.lk.length) hf rfl j2
  ·exact SnapL.cons _ _ _ _ (H4 (T.ext (m := n + 1 + 1) (by omega) (fun a ha => by (simp (disch := (first | omega | assumption)) only [↓appC, ↓updN, ↓updS, ↓app0]))).kl (T.ext (m := n + 1 + 1) (by omega) (fun a ha => by (simp (disch := (first | omega | assumption)) only [↓appC, ↓updN, ↓updS, ↓app0]))).ks (T.ext (m := n + 1 + 1) (by omega) (fun a ha => by (simp (disch := (first | omega | assumption)) only [↓appC, ↓updN, ↓updS, ↓app0]))).kw (fun a ha => List.mem_cons_of_mem _ ha)) (SnapL.cons _ _ _ _ (.one _ _ (.str _)) SnapL.nil)
  ·rfl
  ·rfl
  ·rfl
  refine daI j5 (B3 7 [0, 1, 1, 0, 1, 0, 0] [] j2 (by decide +kernel) trivial ?_)
  refine A1 (A2 (A2 (A0 (B5 j5 ?_))))
  refine H9 j6 (fun h => absurd h (by omega)) ?_
  intro h2_1
  refine A3 (A1 (wF rfl (B2 (A1 (A2 (A0 (D9 j5 (F8 (v := .ptr _ _ _) j6 (C2 (off := 2) (s := 1) (r := false) j3 kz j3 ?_)))))))))
  (apply C6 (v := .view _ _ _) j2; exact Q0; exact Q1; exact j5)
  refine B5 j5 ?_
  (refine r0 ((C1 (b := ⟨rwW t.lk W, 5, 29⟩) rfl rfl rfl rfl (by exact Q0) rfl (by omega) (by omega)).to (v' := .ptr (lb) k 0) (by rw [G8])) rfl rfl rfl ?_)
  refine raP j5 (A3 (A1 (A2 (B4 (A2 (B9 [0, 1, 3, 7, 0, 16, 63, 127, 255, 511, 1023, 255, 2303, 8191, 16383, 32767, 65535] rfl (by decide +kernel) ?_))))))
  refine G9 j5 (H0 (v := .ptr _ _ _) j6 (C9 (off := 2) (s := 1) (r := false) j3 kz j3 ?_))
  (apply D5 (v := .int _ _) j2; exact Q0; exact Q1; exact j5)
  refine C9 (off := 0) (s := 1) (r := false) j3 kz j3 ?_
  (apply D5 (v := .int _ _) j2; exact Q0; exact Q1; exact j5)
  refine deq j6 ?_ ?_ <;> intro h11_6
  ·refine F9 j5 (A5 j3 (A5 j3 (A5 j3 (A5 j3 (A5 j3 (A5 j3 (A5 j3 (F4 (e := true) j6 (P3 j5 (B3 17 [0, 0, 0, 0, 0, 0, 0, 0, 0, 0, 0, 1, 0, 1, 0, 0, 0] [] j2 (by decide +kernel) trivial ?_))))))))))
   refine A1 (wT rfl (A2 (A0 (D9 j5 (F8 (v := .ptr _ _ _) j6 ?_)))))
   (apply F7 (vs := [.str _, .int _ _, .int _ _, .int _ _, _]) j2; exact Q0; exact Q1; rfl; exact kb; rfl; exact j3)
   apply I6 [lb] (K3 l false 8) rfl j2
   ·exact SnapL.cons _ _ _ _ (.one _ _ (.int _ _)) (SnapL.cons _ _ _ _ (SnapC.agg (.cons _ _ _ _ (.str _) (.cons _ _ _ _ (.int _ _) (.cons _ _ _ _ (.int _ _) (.cons _ _ _ _ (.int _ _) (.cons _ _ _ _ (D7 (hkw.mono (fun a ha => by have q := hfw a ha; have q1 := q.1; have q2 := q.2.1; have q3 := q.2.2; (simp (disch := (first | omega | assumption)) only [↓appC, ↓updN, ↓updS, ↓app0]))) (fun a ha => by cases ha)) .nil)))))) SnapL.nil)
   ·rfl
   ·rfl
   ·rfl
   (apply D6 (u := .agg [.int _ _, .int _ _, .int _ _, .int _ _]) j3; exact Q0; exact Q1; rfl; rfl; rfl; rfl; exact kb; rfl; exact j2)
   refine A3 (A1 (B1 (A8 (B0 (E0 (A6 (A7 rfl (by exact Q0) j2 kb rfl) A9) (by (repeat first | exact Ch.refl _ | refine Ch.upd ?_ | refine Ch.app ?_ | assumption)) ?_)))))
   have e : acqT t r = (t, tellL 8 l) := by
    rw [F6 hh, hp]; exact S9 hl (by first | exact .inl h11_6 | exact .inr h11_14)
   rw [e]
   exact ⟨rfl, T.same (by omega) (fun a ha => by (simp (disch := (first | omega | assumption)) only [↓appC, ↓updN, ↓updS, ↓app0]))⟩
  ·refine F9 j5 (G9 j5 (H0 (v := .ptr _ _ _) j6 ?_))
   (apply L8 (vs := [.str _, .int _ _, .int _ _, .int _ _, _]) j2; exact Q0; exact Q1; rfl; exact kb; exact j4)
   refine C9 (off := 0) (s := 1) (r := false) j3 kz j3 ?_
   (apply D5 (v := .int _ _) j2; exact Q0; exact Q1; exact j5)
   apply O5 [lb] (s131 l false r.cl (by omega)) rfl j2
   ·exact SnapL.cons _ _ _ _ (SnapC.agg (.cons _ _ _ _ (.str _) (.cons _ _ _ _ (.int _ _) (.cons _ _ _ _ (.int _ _) (.cons _ _ _ _ (.int _ _) (.cons _ _ _ _ (D7 (hkw.mono (fun a ha => by have q := hfw a ha; have q1 := q.1; have q2 := q.2.1; have q3 := q.2.2; (simp (disch := (first | omega | assumption)) only [↓appC, ↓updN, ↓updS, ↓app0]))) (fun a ha => by cases ha)) .nil)))))) (SnapL.cons _ _ _ _ (.one _ _ (.int _ _)) SnapL.nil)
   ·rfl
   ·rfl
   ·rfl
   refine dge j6 ?_ ?_ <;> intro h11_14
   ·refine F4 (e := true) j6 (P3 j5 (B3 17 [0, 0, 0, 1, 1, 0, 1, 0, 0, 0, 0, 1, 0, 1, 0, 0, 0] [] j2 (by decide +kernel) trivial ?_))
    refine A1 (wT rfl (A2 (A0 (D9 j5 (F8 (v := .ptr _ _ _) j6 ?_)))))
    (apply F7 (vs := [.str _, .int _ _, .int _ _, .int _ _, _]) j2; exact Q0; exact Q1; rfl; exact kb; rfl; exact j3)
    apply I6 [lb] (K3 l false 8) rfl j2
    ·exact SnapL.cons _ _ _ _ (.one _ _ (.int _ _)) (SnapL.cons _ _ _ _ (SnapC.agg (.cons _ _ _ _ (.str _) (.cons _ _ _ _ (.int _ _) (.cons _ _ _ _ (.int _ _) (.cons _ _ _ _ (.int _ _) (.cons _ _ _ _ (D7 (hkw.mono (fun a ha => by have q := hfw a ha; have q1 := q.1; have q2 := q.2.1; have q3 := q.2.2; (simp (disch := (first | omega | assumption)) only [↓appC, ↓updN, ↓updS, ↓app0]))) (fun a ha => by cases ha)) .nil)))))) SnapL.nil)
    ·rfl
    ·rfl
    ·rfl
    (apply D6 (u := .agg [.int _ _, .int _ _, .int _ _, .int _ _]) j3; exact Q0; exact Q1; rfl; rfl; rfl; rfl; exact kb; rfl; exact j2)
    refine A3 (A1 (B1 (A8 (B0 (E0 (A6 (A7 rfl (by exact Q0) j2 kb rfl) A9) (by (repeat first | exact Ch.refl _ | refine Ch.upd ?_ | refine Ch.app ?_ | assumption)) ?_)))))
    have e : acqT t r = (t, tellL 8 l) := by
     rw [F6 hh, hp]; exact S9 hl (by first | exact .inl h11_6 | exact .inr h11_14)
    rw [e]
    exact ⟨rfl, T.same (by omega) (fun a ha => by (simp (disch := (first | omega | assumption)) only [↓appC, ↓updN, ↓updS, ↓app0]))⟩
   ·refine F4 (e := false) j6 (P3 j5 (B3 17 [0, 0, 0, 1, 1, 0, 1, 0, 0, 0, 0, 1, 0, 1, 0, 0, 0] [] j2 (by decide +kernel) trivial ?_))
    refine A1 (wF rfl (A2 (A0 (D9 j5 (F8 (v := .ptr _ _ _) j6 (C2 (off := 2) (s := 1) (r := false) j3 kz j3 ?_))))))
    (apply C6 (v := .int _ _) j2; exact Q0; exact Q1; exact j5)
    refine H9 j6 ?_ ?_ <;> intro h13_4
    ·refine C3 j5 (A3 (A1 (wT rfl (A2 (A0 (D9 j5 (B5 j5 (C2 (off := 0) (s := 1) (r := false) j3 kz j3 ?_))))))))
     (apply C6 (v := .int _ _) j2; exact Q0; exact Q1; exact j5)
     refine C2 (off := 3) (s := 1) (r := false) j3 kz j3 ?_
     (apply C6 (v := .int _ _) j2; exact Q0; exact Q1; exact j5)
     refine I7 (o124k l.nm l.tk l.hd l.ex t.tm t.nx r.cl r.le V.nsl Ss hwc htm (by omega) hle (id := id) (lb := lb) (j := k) (len := t.lk.length) (R := rwW t.lk W) (by omega) (by omega) hne (by exact Q0) hk hR (by exact Q0) hrow) rfl rfl rfl rfl rfl rfl ?_
     refine A3 (A1 (A2 (A0 (D9 j5 (F8 (v := .ptr _ _ _) j6 (C2 (off := 2) (s := 1) (r := false) j3 kz j3 ?_))))))
     (apply C6 (v := .view _ _ _) j2; exact Q0; exact Q1; exact j5)
     refine B5 j5 ?_
     (refine r0 ((C1 (b := ⟨((rwW t.lk W).set k [.str l.nm, .int .i64 t.nx, .int .i64 r.cl, .int .i64 (t.tm + r.le), V.nsl]), 5, 29⟩) rfl rfl rfl rfl (by exact Q0) rfl (by omega) (by omega)).to (v' := .ptr (lb) k 0) (by rw [G8])) rfl rfl rfl ?_)
     (apply F7 (vs := [.str _, .int _ _, .int _ _, .int _ _, _]) j2; exact Q0; exact Q1; rfl; exact kb; rfl; exact j3)
     apply I6 [lb] (K3 ⟨l.nm, t.nx, r.cl, t.tm + r.le, l.ws⟩ false 1) rfl j2
     ·exact SnapL.cons _ _ _ _ (.one _ _ (.int _ _)) (SnapL.cons _ _ _ _ (SnapC.agg (.cons _ _ _ _ (.str _) (.cons _ _ _ _ (.int _ _) (.cons _ _ _ _ (.int _ _) (.cons _ _ _ _ (.int _ _) (.cons _ _ _ _ (D7 (hkw.mono (fun a ha => by have q := hfw a ha; have q1 := q.1; have q2 := q.2.1; have q3 := q.2.2; (simp (disch := (first | omega | assumption)) only [↓appC, ↓updN, ↓updS, ↓app0]))) (fun a ha => by cases ha)) .nil)))))) SnapL.nil)
     ·rfl
     ·rfl
     ·rfl
     (apply D6 (u := .agg [.int _ _, .int _ _, .int _ _, .int _ _]) j3; exact Q0; exact Q1; rfl; rfl; rfl; rfl; exact kb; rfl; exact j2)
     refine A3 (A1 (B1 (A8 (B0 (E0 (A6 (A7 rfl (by exact Q0) j2 kb rfl) A9) (by (repeat first | exact Ch.refl _ | refine Ch.upd ?_ | refine Ch.app ?_ | assumption)) ?_)))))
     have e : acqT t r = (⟨t.tm, t.nx + 1, t.lk.set k ⟨l.nm, t.nx, r.cl, t.tm + r.le, l.ws⟩, t.sn⟩, ⟨1, t.nx, r.cl, t.tm + r.le⟩) := by
      rw [F6 hh, hp]; unfold acqL; rw [hl, if_neg (fun e => e.elim h11_6 h11_14), if_pos (by omega)]
     rw [e]
     refine ⟨rfl, T.lockS hk rfl ⟨l.nm, t.nx, r.cl, t.tm + r.le, l.ws⟩ V.nsl (t.nx + 1) (by omega) ?_ ?_ ?_ ?_ ?_⟩
     ·exact Q0
     ·(simp (disch := (first | omega | assumption)) only [↓appC, ↓updN, ↓updS, ↓app0]); rfl
     ·exact (hkw.mono (fun a ha => by have q := hfw a ha; have q1 := q.1; have q2 := q.2.1; have q3 := q.2.2; (simp (disch := (first | omega | assumption)) only [↓appC, ↓updN, ↓updS, ↓app0])))
     ·intro a ha; have q := hfw a ha; exact ⟨by omega, .inl (by rw [hwk]; exact ha)⟩
     ·intro a ha h1 h2 h3; (simp (disch := (first | omega | assumption)) only [↓appC, ↓updN, ↓updS, ↓app0])
    ·refine C3 j5 (A3 (A1 (wF rfl (A2 (A0 (D9 j5 (F8 (v := .ptr _ _ _) j6 (C2 (off := 4) (s := 1) (r := false) j3 kz j3 ?_))))))))
     (apply C6 (v := .nsl) j2; exact Q0; exact Q1; exact j5)
     refine G7 rfl rfl rfl j3 ?_
     refine H5 j6 (fun h => absurd h ((by show ¬ ((0 : Int) = 4); decide))) ?_
     intro h16_5
     refine C3 j5 (A3 (A1 (wF rfl (B2 (C0 (A1 (A2 (B9 [0, 0, 2, 6, 14, 0, 32, 0, 128, 480, 992, 2046, 4095, 8191, 16383] rfl (by decide +kernel) ?_))))))))
     refine G9 j5 (G9 j5 (H0 (v := .ptr _ _ _) j6 (C9 (off := 4) (s := 1) (r := false) j3 kz j3 ?_)))
     (apply D5 (v := .nsl) j2; exact Q0; exact Q1; exact j5)
     refine C9 (off := 0) (s := 1) (r := false) j3 kz j3 ?_
     (apply D5 (v := .int _ _) j2; exact Q0; exact Q1; exact j5)
     refine C9 (off := 3) (s := 1) (r := false) j3 kz j3 ?_
     (apply D5 (v := .int _ _) j2; exact Q0; exact Q1; exact j5)
     refine dbd (cs := [.int _ _, .int _ _]) j5 (X6 (es := [[.int _ _, .int _ _]]) j4 kz kb rfl rfl j3 ?_)
     (apply dan (s' := 16) (es := [[.int _ _, .int _ _]]) rfl j3 kz; exact S4; exact AT; exact Q16; exact Q16; exact Q16; exact j3)
     refine H0 (v := .ptr _ _ _) j6 (C9 (off := 4) (s := 1) (r := false) j3 kz j3 ?_)
     (apply dst (u := .view _ _ _) rfl rfl rfl; exact Q0; exact Q1; rfl; rfl; rfl; rfl; exact kb; rfl; rfl; rfl)
     refine B3 15 [3, 0, 0, 3, 3, 0, 1, 0, 1, 0, 1, 0, 0, 0, 0] [(4, 10)] j2 (by decide +kernel) ?_ ?_
     ·(simp [ClearL, ids]; try omega)
     refine A1 (A2 (A0 (D9 j5 (F8 (v := .ptr _ _ _) j6 ?_))))
     (apply F7 (vs := [.str _, .int _ _, .int _ _, .int _ _, _]) j2; exact Q0; exact Q1; rfl; exact kb; rfl; exact j3)
     apply I6 [n + 1 + 1 + 1] (K3 ⟨l.nm, l.tk, l.hd, l.ex, l.ws ++ [(r.cl, r.le)]⟩ false 2) rfl j2
     ·exact SnapL.cons _ _ _ _ (.one _ _ (.int _ _)) (SnapL.cons _ _ _ _ (SnapC.agg (.cons _ _ _ _ (.str _) (.cons _ _ _ _ (.int _ _) (.cons _ _ _ _ (.int _ _) (.cons _ _ _ _ (.int _ _) (.cons _ _ _ _ (D7 (.inr ⟨n + 1 + 1 + 1, [], by simp [List.map_eq_nil_iff.1 hws], by (simp (disch := (first | omega | assumption)) only [↓appC, ↓updN, ↓updS, ↓app0]); exact congrArg (fun z => some (Blk.mk z 2 123)) (by simp [List.map_eq_nil_iff.1 hws, wtV])⟩) (fun a ha => by cases ha; exact List.mem_singleton.2 rfl)) .nil)))))) SnapL.nil)
     ·rfl
     ·rfl
     ·rfl
     (apply D6 (u := .agg [.int _ _, .int _ _, .int _ _, .int _ _]) j3; exact Q0; exact Q1; rfl; rfl; rfl; rfl; exact kb; rfl; exact j2)
     refine A3 (A1 (B1 (E0 (A6 (A7 rfl (by exact Q0) j2 kb rfl) A9) (by (repeat first | exact Ch.refl _ | refine Ch.upd ?_ | refine Ch.app ?_ | assumption)) ?_)))
     have e : acqT t r = (⟨t.tm, t.nx, t.lk.set k ⟨l.nm, l.tk, l.hd, l.ex, l.ws ++ [(r.cl, r.le)]⟩, t.sn⟩, tellL 2 l) := by
      rw [F6 hh, hp]; unfold acqL; rw [hl, if_neg (fun e => e.elim h11_6 h11_14), if_neg (by omega)]; exact if_neg (by omega)
     rw [e]
     refine ⟨rfl, T.lockS hk rfl ⟨l.nm, l.tk, l.hd, l.ex, l.ws ++ [(r.cl, r.le)]⟩ (V.view (n + 1 + 1 + 1) 0 1) t.nx (by omega) ?_ ?_ ?_ ?_ ?_⟩
     ·exact Q0
     ·(simp (disch := (first | omega | assumption)) only [↓appC, ↓updN, ↓updS, ↓app0]); rfl
     ·exact (.inr ⟨n + 1 + 1 + 1, [], by simp [List.map_eq_nil_iff.1 hws], by (simp (disch := (first | omega | assumption)) only [↓appC, ↓updN, ↓updS, ↓app0]); exact congrArg (fun z => some (Blk.mk z 2 123)) (by simp [List.map_eq_nil_iff.1 hws, wtV])⟩)
     ·intro a ha; cases ha; exact ⟨by omega, .inr (by omega)⟩
     ·intro a ha h1 h2 h3; (simp (disch := (first | omega | assumption)) only [↓appC, ↓updN, ↓updS, ↓app0])
 ·rw [List.length_map] at hw
  subst hw
  have hwb := hfw wb rfl
  have hkw : IsL h (.view wb pre.length l.ws.length) (l.ws.map wtV) 2 123 := .inr ⟨wb, pre, by rw [List.length_map], kwb⟩
  refine OpenM.of_wp Try.func129 rfl kb ?_
  refine A2 (A0 (K7 (u := .agg [.int _ _, .int _ _, .int _ _, .int _ _, .str _]) j3 rfl j3 (H3 j6 (A3 (A1 (A2 (B9 [0, 1, 3, 0, 8, 31, 63] rfl (by decide +kernel) ?_)))))))
  refine G9 j5 (H0 (v := .ptr _ _ _) j6 ?_)
  (apply L8 (vs := [.int _ _, .int _ _, _, _]) j2; exact Q0; exact Q1; rfl; exact kb; exact j4)
  refine C9 (off := 4) (s := 1) (r := false) j3 kz j3 ?_
  (apply D5 (v := .str _) j2; exact Q0; exact Q1; exact j5)
  apply O5 (id :: tabIds (.view lb 0 t.lk.length) Ss W t.lk.length) hf rfl j2
  ·exact SnapL.cons _ _ _ _ (H4 (T.ext (m := n + 1 + 1) (by omega) (fun a ha => by (simp (disch := (first | omega | assumption)) only [↓appC, ↓updN, ↓updS, ↓app0]))).kl (T.ext (m := n + 1 + 1) (by omega) (fun a ha => by (simp (disch := (first | omega | assumption)) only [↓appC, ↓updN, ↓updS, ↓app0]))).ks (T.ext (m := n + 1 + 1) (by omega) (fun a ha => by (simp (disch := (first | omega | assumption)) only [↓appC, ↓updN, ↓updS, ↓app0]))).kw (fun a ha => List.mem_cons_of_mem _ ha)) (SnapL.cons _ _ _ _ (.one _ _ (.str _)) SnapL.nil)
  ·rfl
  ·rfl
  ·rfl
  refine daI j5 (B3 7 [0, 1, 1, 0, 1, 0, 0] [] j2 (by decide +kernel) trivial ?_)
  refine A1 (A2 (A2 (A0 (B5 j5 ?_))))
  refine H9 j6 (fun h => absurd h (by omega)) ?_
  intro h2_1
  refine A3 (A1 (wF rfl (B2 (A1 (A2 (A0 (D9 j5 (F8 (v := .ptr _ _ _) j6 (C2 (off := 2) (s := 1) (r := false) j3 kz j3 ?_)))))))))
  (apply C6 (v := .view _ _ _) j2; exact Q0; exact Q1; exact j5)
  refine B5 j5 ?_
  (refine r0 ((C1 (b := ⟨rwW t.lk W, 5, 29⟩) rfl rfl rfl rfl (by exact Q0) rfl (by omega) (by omega)).to (v' := .ptr (lb) k 0) (by rw [G8])) rfl rfl rfl ?_)
  refine raP j5 (A3 (A1 (A2 (B4 (A2 (B9 [0, 1, 3, 7, 0, 16, 63, 127, 255, 511, 1023, 255, 2303, 8191, 16383, 32767, 65535] rfl (by decide +kernel) ?_))))))
  refine G9 j5 (H0 (v := .ptr _ _ _) j6 (C9 (off := 2) (s := 1) (r := false) j3 kz j3 ?_))
  (apply D5 (v := .int _ _) j2; exact Q0; exact Q1; exact j5)
  refine C9 (off := 0) (s := 1) (r := false) j3 kz j3 ?_
  (apply D5 (v := .int _ _) j2; exact Q0; exact Q1; exact j5)
  refine deq j6 ?_ ?_ <;> intro h11_6
  ·refine F9 j5 (A5 j3 (A5 j3 (A5 j3 (A5 j3 (A5 j3 (A5 j3 (A5 j3 (F4 (e := true) j6 (P3 j5 (B3 17 [0, 0, 0, 0, 0, 0, 0, 0, 0, 0, 0, 1, 0, 1, 0, 0, 0] [] j2 (by decide +kernel) trivial ?_))))))))))
   refine A1 (wT rfl (A2 (A0 (D9 j5 (F8 (v := .ptr _ _ _) j6 ?_)))))
   (apply F7 (vs := [.str _, .int _ _, .int _ _, .int _ _, _]) j2; exact Q0; exact Q1; rfl; exact kb; rfl; exact j3)
   apply I6 [wb] (K3 l false 8) rfl j2
   ·exact SnapL.cons _ _ _ _ (.one _ _ (.int _ _)) (SnapL.cons _ _ _ _ (SnapC.agg (.cons _ _ _ _ (.str _) (.cons _ _ _ _ (.int _ _) (.cons _ _ _ _ (.int _ _) (.cons _ _ _ _ (.int _ _) (.cons _ _ _ _ (D7 (hkw.mono (fun a ha => by have q := hfw a ha; have q1 := q.1; have q2 := q.2.1; have q3 := q.2.2; (simp (disch := (first | omega | assumption)) only [↓appC, ↓updN, ↓updS, ↓app0]))) (fun a ha => by cases ha; exact List.mem_singleton.2 rfl)) .nil)))))) SnapL.nil)
   ·rfl
   ·rfl
   ·rfl
   (apply D6 (u := .agg [.int _ _, .int _ _, .int _ _, .int _ _]) j3; exact Q0; exact Q1; rfl; rfl; rfl; rfl; exact kb; rfl; exact j2)
   refine A3 (A1 (B1 (A8 (B0 (E0 (A6 (A7 rfl (by exact Q0) j2 kb rfl) A9) (by (repeat first | exact Ch.refl _ | refine Ch.upd ?_ | refine Ch.app ?_ | assumption)) ?_)))))
   have e : acqT t r = (t, tellL 8 l) := by
    rw [F6 hh, hp]; exact S9 hl (by first | exact .inl h11_6 | exact .inr h11_14)
   rw [e]
   exact ⟨rfl, T.same (by omega) (fun a ha => by (simp (disch := (first | omega | assumption)) only [↓appC, ↓updN, ↓updS, ↓app0]))⟩
  ·refine F9 j5 (G9 j5 (H0 (v := .ptr _ _ _) j6 ?_))
   (apply L8 (vs := [.str _, .int _ _, .int _ _, .int _ _, _]) j2; exact Q0; exact Q1; rfl; exact kb; exact j4)
   refine C9 (off := 0) (s := 1) (r := false) j3 kz j3 ?_
   (apply D5 (v := .int _ _) j2; exact Q0; exact Q1; exact j5)
   apply O5 [wb] (s131 l false r.cl (by omega)) rfl j2
   ·exact SnapL.cons _ _ _ _ (SnapC.agg (.cons _ _ _ _ (.str _) (.cons _ _ _ _ (.int _ _) (.cons _ _ _ _ (.int _ _) (.cons _ _ _ _ (.int _ _) (.cons _ _ _ _ (D7 (hkw.mono (fun a ha => by have q := hfw a ha; have q1 := q.1; have q2 := q.2.1; have q3 := q.2.2; (simp (disch := (first | omega | assumption)) only [↓appC, ↓updN, ↓updS, ↓app0]))) (fun a ha => by cases ha; exact List.mem_singleton.2 rfl)) .nil)))))) (SnapL.cons _ _ _ _ (.one _ _ (.int _ _)) SnapL.nil)
   ·rfl
   ·rfl
   ·rfl
   refine dge j6 ?_ ?_ <;> intro h11_14
   ·refine F4 (e := true) j6 (P3 j5 (B3 17 [0, 0, 0, 1, 1, 0, 1, 0, 0, 0, 0, 1, 0, 1, 0, 0, 0] [] j2 (by decide +kernel) trivial ?_))
    refine A1 (wT rfl (A2 (A0 (D9 j5 (F8 (v := .ptr _ _ _) j6 ?_)))))
    (apply F7 (vs := [.str _, .int _ _, .int _ _, .int _ _, _]) j2; exact Q0; exact Q1; rfl; exact kb; rfl; exact j3)
    apply I6 [wb] (K3 l false 8) rfl j2
    ·exact SnapL.cons _ _ _ _ (.one _ _ (.int _ _)) (SnapL.cons _ _ _ _ (SnapC.agg (.cons _ _ _ _ (.str _) (.cons _ _ _ _ (.int _ _) (.cons _ _ _ _ (.int _ _) (.cons _ _ _ _ (.int _ _) (.cons _ _ _ _ (D7 (hkw.mono (fun a ha => by have q := hfw a ha; have q1 := q.1; have q2 := q.2.1; have q3 := q.2.2; (simp (disch := (first | omega | assumption)) only [↓appC, ↓updN, ↓updS, ↓app0]))) (fun a ha => by cases ha; exact List.mem_singleton.2 rfl)) .nil)))))) SnapL.nil)
    ·rfl
    ·rfl
    ·rfl
    (apply D6 (u := .agg [.int _ _, .int _ _, .int _ _, .int _ _]) j3; exact Q0; exact Q1; rfl; rfl; rfl; rfl; exact kb; rfl; exact j2)
    refine A3 (A1 (B1 (A8 (B0 (E0 (A6 (A7 rfl (by exact Q0) j2 kb rfl) A9) (by (repeat first | exact Ch.refl _ | refine Ch.upd ?_ | refine Ch.app ?_ | assumption)) ?_)))))
    have e : acqT t r = (t, tellL 8 l) := by
     rw [F6 hh, hp]; exact S9 hl (by first | exact .inl h11_6 | exact .inr h11_14)
    rw [e]
    exact ⟨rfl, T.same (by omega) (fun a ha => by (simp (disch := (first | omega | assumption)) only [↓appC, ↓updN, ↓updS, ↓app0]))⟩
   ·refine F4 (e := false) j6 (P3 j5 (B3 17 [0, 0, 0, 1, 1, 0, 1, 0, 0, 0, 0, 1, 0, 1, 0, 0, 0] [] j2 (by decide +kernel) trivial ?_))
    refine A1 (wF rfl (A2 (A0 (D9 j5 (F8 (v := .ptr _ _ _) j6 (C2 (off := 2) (s := 1) (r := false) j3 kz j3 ?_))))))
    (apply C6 (v := .int _ _) j2; exact Q0; exact Q1; exact j5)
    refine H9 j6 ?_ ?_ <;> intro h13_4
    ·refine C3 j5 (A3 (A1 (wT rfl (A2 (A0 (D9 j5 (B5 j5 (C2 (off := 0) (s := 1) (r := false) j3 kz j3 ?_))))))))
     (apply C6 (v := .int _ _) j2; exact Q0; exact Q1; exact j5)
     refine C2 (off := 3) (s := 1) (r := false) j3 kz j3 ?_
     (apply C6 (v := .int _ _) j2; exact Q0; exact Q1; exact j5)
     refine I7 (o124k l.nm l.tk l.hd l.ex t.tm t.nx r.cl r.le (V.view wb pre.length l.ws.length) Ss hwc htm (by omega) hle (id := id) (lb := lb) (j := k) (len := t.lk.length) (R := rwW t.lk W) (by omega) (by omega) hne (by exact Q0) hk hR (by exact Q0) hrow) rfl rfl rfl rfl rfl rfl ?_
     refine A3 (A1 (A2 (A0 (D9 j5 (F8 (v := .ptr _ _ _) j6 (C2 (off := 2) (s := 1) (r := false) j3 kz j3 ?_))))))
     (apply C6 (v := .view _ _ _) j2; exact Q0; exact Q1; exact j5)
     refine B5 j5 ?_
     (refine r0 ((C1 (b := ⟨((rwW t.lk W).set k [.str l.nm, .int .i64 t.nx, .int .i64 r.cl, .int .i64 (t.tm + r.le), (V.view wb pre.length l.ws.length)]), 5, 29⟩) rfl rfl rfl rfl (by exact Q0) rfl (by omega) (by omega)).to (v' := .ptr (lb) k 0) (by rw [G8])) rfl rfl rfl ?_)
     (apply F7 (vs := [.str _, .int _ _, .int _ _, .int _ _, _]) j2; exact Q0; exact Q1; rfl; exact kb; rfl; exact j3)
     apply I6 [wb] (K3 ⟨l.nm, t.nx, r.cl, t.tm + r.le, l.ws⟩ false 1) rfl j2
     ·exact SnapL.cons _ _ _ _ (.one _ _ (.int _ _)) (SnapL.cons _ _ _ _ (SnapC.agg (.cons _ _ _ _ (.str _) (.cons _ _ _ _ (.int _ _) (.cons _ _ _ _ (.int _ _) (.cons _ _ _ _ (.int _ _) (.cons _ _ _ _ (D7 (hkw.mono (fun a ha => by have q := hfw a ha; have q1 := q.1; have q2 := q.2.1; have q3 := q.2.2; (simp (disch := (first | omega | assumption)) only [↓appC, ↓updN, ↓updS, ↓app0]))) (fun a ha => by cases ha; exact List.mem_singleton.2 rfl)) .nil)))))) SnapL.nil)
     ·rfl
     ·rfl
     ·rfl
     (apply D6 (u := .agg [.int _ _, .int _ _, .int _ _, .int _ _]) j3; exact Q0; exact Q1; rfl; rfl; rfl; rfl; exact kb; rfl; exact j2)
     refine A3 (A1 (B1 (A8 (B0 (E0 (A6 (A7 rfl (by exact Q0) j2 kb rfl) A9) (by (repeat first | exact Ch.refl _ | refine Ch.upd ?_ | refine Ch.app ?_ | assumption)) ?_)))))
     have e : acqT t r = (⟨t.tm, t.nx + 1, t.lk.set k ⟨l.nm, t.nx, r.cl, t.tm + r.le, l.ws⟩, t.sn⟩, ⟨1, t.nx, r.cl, t.tm + r.le⟩) := by
      rw [F6 hh, hp]; unfold acqL; rw [hl, if_neg (fun e => e.elim h11_6 h11_14), if_pos (by omega)]
     rw [e]
     refine ⟨rfl, T.lockS hk rfl ⟨l.nm, t.nx, r.cl, t.tm + r.le, l.ws⟩ (V.view wb pre.length l.ws.length) (t.nx + 1) (by omega) ?_ ?_ ?_ ?_ ?_⟩
     ·exact Q0
     ·(simp (disch := (first | omega | assumption)) only [↓appC, ↓updN, ↓updS, ↓app0]); rfl
     ·exact (hkw.mono (fun a ha => by have q := hfw a ha; have q1 := q.1; have q2 := q.2.1; have q3 := q.2.2; (simp (disch := (first | omega | assumption)) only [↓appC, ↓updN, ↓updS, ↓app0])))
     ·intro a ha; have q := hfw a ha; exact ⟨by omega, .inl (by rw [hwk]; exact ha)⟩
     ·intro a ha h1 h2 h3; (simp (disch := (first | omega | assumption)) only [↓appC, ↓updN, ↓updS, ↓app0])
    ·refine C3 j5 (A3 (A1 (wF rfl (A2 (A0 (D9 j5 (F8 (v := .ptr _ _ _) j6 (C2 (off := 4) (s := 1) (r := false) j3 kz j3 ?_))))))))
     (apply C6 (v := .view _ _ _) j2; exact Q0; exact Q1; exact j5)
     refine G7 rfl rfl rfl j3 ?_
     refine H5 j6 ?_ ?_ <;> intro h16_5
     ·refine C3 j5 (A3 (A1 (wT rfl (A2 (A0 (D9 j5 (F8 (v := .ptr _ _ _) j6 ?_)))))))
      (apply F7 (vs := [.str _, .int _ _, .int _ _, .int _ _, _]) j2; exact Q0; exact Q1; rfl; exact kb; rfl; exact j3)
      apply I6 [wb] (K3 l false 6) rfl j2
      ·exact SnapL.cons _ _ _ _ (.one _ _ (.int _ _)) (SnapL.cons _ _ _ _ (SnapC.agg (.cons _ _ _ _ (.str _) (.cons _ _ _ _ (.int _ _) (.cons _ _ _ _ (.int _ _) (.cons _ _ _ _ (.int _ _) (.cons _ _ _ _ (D7 (hkw.mono (fun a ha => by have q := hfw a ha; have q1 := q.1; have q2 := q.2.1; have q3 := q.2.2; (simp (disch := (first | omega | assumption)) only [↓appC, ↓updN, ↓updS, ↓app0]))) (fun a ha => by cases ha; exact List.mem_singleton.2 rfl)) .nil)))))) SnapL.nil)
      ·rfl
      ·rfl
      ·rfl
      (apply D6 (u := .agg [.int _ _, .int _ _, .int _ _, .int _ _]) j3; exact Q0; exact Q1; rfl; rfl; rfl; rfl; exact kb; rfl; exact j2)
      refine A3 (A1 (B1 (A8 (B0 (E0 (A6 (A7 rfl (by exact Q0) j2 kb rfl) A9) (by (repeat first | exact Ch.refl _ | refine Ch.upd ?_ | refine Ch.app ?_ | assumption)) ?_)))))
      have e : acqT t r = (t, tellL 6 l) := by
       rw [F6 hh, hp]; unfold acqL; rw [hl, if_neg (fun e => e.elim h11_6 h11_14), if_neg (by omega)]; exact if_pos (by omega)
      rw [e]
      exact ⟨rfl, T.same (by omega) (fun a ha => by (simp (disch := (first | omega | assumption)) only [↓appC, ↓updN, ↓updS, ↓app0]))⟩
     ·refine C3 j5 (A3 (A1 (wF rfl (B2 (C0 (A1 (A2 (B9 [0, 0, 2, 6, 14, 0, 32, 0, 128, 480, 992, 2046, 4095, 8191, 16383] rfl (by decide +kernel) ?_))))))))
      refine G9 j5 (G9 j5 (H0 (v := .ptr _ _ _) j6 (C9 (off := 4) (s := 1) (r := false) j3 kz j3 ?_)))
      (apply D5 (v := .view _ _ _) j2; exact Q0; exact Q1; exact j5)
      refine C9 (off := 0) (s := 1) (r := false) j3 kz j3 ?_
      (apply D5 (v := .int _ _) j2; exact Q0; exact Q1; exact j5)
      refine C9 (off := 3) (s := 1) (r := false) j3 kz j3 ?_
      (apply D5 (v := .int _ _) j2; exact Q0; exact Q1; exact j5)
      refine dbd (cs := [.int _ _, .int _ _]) j5 (X6 (es := [[.int _ _, .int _ _]]) j4 kz kb rfl rfl j3 ?_)
      (apply T6 (s' := 16) (es := [[.int _ _, .int _ _]]) rfl rfl; exact Q0; exact j2; (first | rfl | omega | (show _ = (pre ++ l.ws.map wtV).length; rw [List.length_append, List.length_map]) | (show _ = (pre ++ l.ws.map wtV).length; rw [List.length_append])); exact j2; exact kz; exact S4; exact AT; exact Q16; exact Q16; exact j3)
      refine H0 (v := .ptr _ _ _) j6 (C9 (off := 4) (s := 1) (r := false) j3 kz j3 ?_)
      (apply dst (u := .view _ _ _) rfl rfl rfl; exact Q0; exact Q1; rfl; rfl; rfl; rfl; exact kb; rfl; rfl; rfl)
      refine B3 15 [3, 0, 0, 3, 3, 0, 1, 0, 1, 0, 1, 0, 0, 0, 0] [(4, 10)] j2 (by decide +kernel) ?_ ?_
      ·(simp [ClearL, ids]; try omega)
      refine A1 (A2 (A0 (D9 j5 (F8 (v := .ptr _ _ _) j6 ?_))))
      (apply F7 (vs := [.str _, .int _ _, .int _ _, .int _ _, _]) j2; exact Q0; exact Q1; rfl; exact kb; rfl; exact j3)
      apply I6 [n + 1 + 1 + 1] (K3 ⟨l.nm, l.tk, l.hd, l.ex, l.ws ++ [(r.cl, r.le)]⟩ false 2) rfl j2
      ·exact SnapL.cons _ _ _ _ (.one _ _ (.int _ _)) (SnapL.cons _ _ _ _ (SnapC.agg (.cons _ _ _ _ (.str _) (.cons _ _ _ _ (.int _ _) (.cons _ _ _ _ (.int _ _) (.cons _ _ _ _ (.int _ _) (.cons _ _ _ _ (D7 (.inr ⟨n + 1 + 1 + 1, [], by simp, by (simp (disch := (first | omega | assumption)) only [↓appC, ↓updN, ↓updS, ↓app0]); exact congrArg (fun z => some (Blk.mk z 2 123)) (by simp [wtV])⟩) (fun a ha => by cases ha; exact List.mem_singleton.2 rfl)) .nil)))))) SnapL.nil)
      ·rfl
      ·rfl
      ·rfl
      (apply D6 (u := .agg [.int _ _, .int _ _, .int _ _, .int _ _]) j3; exact Q0; exact Q1; rfl; rfl; rfl; rfl; exact kb; rfl; exact j2)
      refine A3 (A1 (B1 (E0 (A6 (A7 rfl (by exact Q0) j2 kb rfl) A9) (by (repeat first | exact Ch.refl _ | refine Ch.upd ?_ | refine Ch.app ?_ | assumption)) ?_)))
      have e : acqT t r = (⟨t.tm, t.nx, t.lk.set k ⟨l.nm, l.tk, l.hd, l.ex, l.ws ++ [(r.cl, r.le)]⟩, t.sn⟩, tellL 2 l) := by
       rw [F6 hh, hp]; unfold acqL; rw [hl, if_neg (fun e => e.elim h11_6 h11_14), if_neg (by omega)]; exact if_neg (by omega)
      rw [e]
      refine ⟨rfl, T.lockS hk rfl ⟨l.nm, l.tk, l.hd, l.ex, l.ws ++ [(r.cl, r.le)]⟩ (V.view (n + 1 + 1 + 1) 0 (l.ws.length + 1)) t.nx (by omega) ?_ ?_ ?_ ?_ ?_⟩
      ·exact Q0
      ·(simp (disch := (first | omega | assumption)) only [↓appC, ↓updN, ↓updS, ↓app0]); rfl
      ·exact (.inr ⟨n + 1 + 1 + 1, [], by simp, by (simp (disch := (first | omega | assumption)) only [↓appC, ↓updN, ↓updS, ↓app0]); exact congrArg (fun z => some (Blk.mk z 2 123)) (by simp [wtV])⟩)
      ·intro a ha; cases ha; exact ⟨by omega, .inr (by omega)⟩
      ·intro a ha h1 h2 h3; have h4 : a ≠ wb := fun e => h3 (by rw [hwk, e]; rfl); (simp (disch := (first | omega | assumption)) only [↓appC, ↓updN, ↓updS, ↓app0])
end Go.Proofs.Ytknnniaoboaghaa
